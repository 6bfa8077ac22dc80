/- FnExactPartitionDepth answers true at every input. -/
import Derived.Below
import Derived.Carry
import Derived.ChangeOld
import Derived.OpenShut
import Derived.ProofKit
import Derived.ShutString
import Derived.SizedLaws
import Derived.Test.YthciieopabndcaaChecked
import Derived.Test.YthciieopabndcaaRows
import Derived.WalkKit
import Derived.Test.YthciieopabndcaaVFnExactPartitionDepthb
namespace Go.Proofs.Ythciieopabndcaa.K
open Go Go.RowKit
set_option linter.unusedVariables false
set_option linter.unusedSimpArgs false
def Ev {α : Type} (f : Nat → Option α) (r : α) : Prop := ∃ K, ∀ k, K ≤ k → f k = some r
theorem Ev.p {α : Type} {r : α} : Ev (fun _ => some r) r := ⟨0, fun _ _ => rfl⟩
theorem Ev.c {α : Type} {o : Option α} {r : α} (h : o = some r) : Ev (fun _ => o) r := ⟨0, fun _ _ => h⟩
theorem Ev.b {α β : Type} {f : Nat → Option α} {g : Nat → α → Option β} {a : α} {r : β} (hf : Ev f a) (hg : Ev (fun k => g k a) r) : Ev (fun k => (f k).bind (g k)) r := by
  obtain ⟨K, h⟩ := hf; obtain ⟨L, h'⟩ := hg
  exact ⟨max K L, fun k hk => by show (f k).bind (g k) = some r; rw [h k (by omega)]; exact h' k (by omega)⟩
theorem Ev.t {α : Type} {p : Prop} [Decidable p] {f g : Nat → Option α} {r : α} (h : p) (hf : Ev f r) : Ev (fun k => if p then f k else g k) r := by
  obtain ⟨K, h'⟩ := hf
  exact ⟨K, fun k hk => by show (if p then f k else g k) = some r; rw [if_pos h]; exact h' k hk⟩
theorem Ev.e {α : Type} {p : Prop} [Decidable p] {f g : Nat → Option α} {r : α} (h : ¬ p) (hg : Ev g r) : Ev (fun k => if p then f k else g k) r := by
  obtain ⟨K, h'⟩ := hg
  exact ⟨K, fun k hk => by show (if p then f k else g k) = some r; rw [if_neg h]; exact h' k hk⟩
theorem Ev.i {α : Type} {p : Prop} [Decidable p] {f g : Nat → Option α} {r : α} (hf : p → Ev f r) (hg : ¬ p → Ev g r) : Ev (fun k => if p then f k else g k) r := by
  by_cases h : p
  · exact Ev.t h (hf h)
  · exact Ev.e h (hg h)
theorem Ev.s {α : Type} {L f : Nat → Option α} {r : α} (h : ∀ k, L (k + 1) = f k) (hf : Ev f r) : Ev L r := by
  obtain ⟨K, h'⟩ := hf
  refine ⟨K + 1, fun k hk => ?_⟩
  obtain ⟨m, rfl⟩ : ∃ m, k = m + 1 := ⟨k - 1, by omega⟩
  rw [h]; exact h' m (by omega)
theorem Ev.u {α : Type} {L f : Nat → Option α} {r : α} (h : ∀ k, L k = f k) (hf : Ev f r) : Ev L r := by
  obtain ⟨K, h'⟩ := hf
  exact ⟨K, fun k hk => by rw [h]; exact h' k hk⟩
theorem Ev.r {α : Type} {f : Nat → Option α} {r r' : α} (h : Ev f r) (e : r = r') : Ev f r' := e ▸ h
theorem Ev.r' {α : Type} {f g : Nat → Option α} {r r' : α} (h : Ev f r) (e1 : ∀ k, f k = g k) (e : r = r') : Ev g r' := by
  subst e; obtain ⟨K, h'⟩ := h
  exact ⟨K, fun k hk => by rw [← e1]; exact h' k hk⟩
theorem Ev.ex {α : Type} {f : Nat → Option α} {r : α} (h : Ev f r) : ∃ k, f k = some r := by
  obtain ⟨K, h'⟩ := h
  exact ⟨K, h' K (Nat.le_refl _)⟩
theorem drop_nil' {α : Type} {l : List α} {i : Nat} (h : l.drop i = []) : l.length ≤ i := List.drop_eq_nil_iff.1 h
theorem drop_cons' {α : Type} {l : List α} {i : Nat} {x : α} {t : List α} (h : l.drop i = x :: t) : i < l.length ∧ l.drop (i + 1) = t ∧ (∀ d, l.getD i d = x) ∧ l.length = i + 1 + t.length := by
  have hl := congrArg List.length h
  rw [List.length_drop, List.length_cons] at hl
  refine ⟨by omega, ?_, fun d => ?_, by omega⟩
  · rw [← List.drop_drop, h]; rfl
  · have : l[i]? = some x := by rw [← List.head?_drop, h]; rfl
    rw [List.getD_eq_getElem?_getD, this]; rfl
theorem w64 {x : Int} (h0 : -9223372036854775808 ≤ x) (h1 : x ≤ 9223372036854775807) : wrap64 x = x := by unfold wrap64; omega
theorem w64s {i n : Nat} (h : i < n) (hn : n ≤ 9223372036854775807) : wrap64 ((i : Int) + 1) = ((i + 1 : Nat) : Int) := by rw [w64 (by omega) (by omega)]; rfl
theorem maxLen_eq : maxLen = 9223372036854775807 := rfl
theorem wf64 {n : Int} (h : (Lit.int .i64 n).wf = true) : (-9223372036854775808 : Int) ≤ n ∧ n ≤ 9223372036854775807 := by
  simp [Lit.wf, IntKind.min, IntKind.max, IntKind.signed, IntKind.bits] at h
  exact h
theorem ob {α β : Type} {o : Option α} {a : α} {f : α → Option β} (h : o = some a) : o.bind f = f a := by subst h; rfl

def inB (n a b : Int) : Bool := decide (a ≤ n ∧ n ≤ b)
theorem within_eq (n a b : Int) : impl_within.f n a b = some (inB n a b) := by
  unfold impl_within.f inB; split <;> simp <;> omega
theorem l1In_eq (n a b : Int) : spec_l1In.f n a b = some (inB n a b) := by
  unfold spec_l1In.f inB; split <;> simp <;> omega
def vRow (a b c : Int) : Bool := inB a 0 9 && inB b 0 99 && inB c 0 3
theorem impl_IsValidRow_eq (a b c : Int) : impl_IsValidRow.f a b c = some (vRow a b c) := by
  unfold impl_IsValidRow.f vRow
  rw [within_eq, within_eq, within_eq, ob rfl]
  cases inB a 0 9
  · simp
  · rw [if_pos rfl, ob rfl]; cases inB b 0 99 <;> simp
theorem spec_IsValidRow_eq (a b c : Int) : spec_IsValidRow.f a b c = some (vRow a b c) := by
  unfold spec_IsValidRow.f vRow
  rw [l1In_eq, l1In_eq, l1In_eq, ob rfl]
  cases inB a 0 9
  · simp
  · rw [if_pos rfl, ob rfl]; cases inB b 0 99 <;> simp
def cRow (x : S62) : Int := if vRow x.f0 x.f1 x.f2 = true then 1 + x.f2 else 0
theorem cRow_b (x : S62) : 0 ≤ cRow x ∧ cRow x ≤ 4 := by
  unfold cRow
  by_cases h : vRow x.f0 x.f1 x.f2 = true
  · rw [if_pos h]; simp [vRow, inB] at h; omega
  · rw [if_neg h]; omega
theorem impl_RowCost_eq (x : S62) : impl_RowCost.f x.f0 x.f1 x.f2 = some (cRow x) := by
  unfold impl_RowCost.f cRow
  rw [impl_IsValidRow_eq, ob rfl]
  by_cases h : vRow x.f0 x.f1 x.f2 = true
  · rw [if_pos h, if_pos h]; simp [vRow, inB] at h; rw [w64 (by omega) (by omega)]
  · rw [if_neg h, if_neg h]
theorem spec_RowCost_eq (x : S62) : spec_RowCost.f x.f0 x.f1 x.f2 = some (cRow x) := by
  unfold spec_RowCost.f cRow
  rw [spec_IsValidRow_eq, ob rfl]
  by_cases h : vRow x.f0 x.f1 x.f2 = true
  · rw [if_pos h, if_pos h]; simp [vRow, inB] at h; rw [w64 (by omega) (by omega)]
  · rw [if_neg h, if_neg h]
def tCost (l : List S62) : Int := (l.map cRow).sum
theorem tCost_cons (x : S62) (l : List S62) : tCost (x :: l) = cRow x + tCost l := by simp [tCost]
theorem rdR (l : List S62) (i : Nat) : rd_T62 l (i : Int) = l.getD i z62 := rfl
theorem impl_TotalCost_l0 (l : List S62) (hl : l.length ≤ 1152921504606846975) : ∀ (s : List S62) (i : Nat) (acc : Int), l.drop i = s → 0 ≤ acc → acc ≤ 4 * i → Ev (fun k => impl_TotalCost.l0 k acc (l.length : Int) (i : Int) l) (acc + tCost s) := by
  intro s
  induction s with
  | nil =>
    intro i acc hd h0 h1
    have := drop_nil' hd
    exact Ev.s (fun k => by rw [impl_TotalCost.l0]) (Ev.e (by omega) (Ev.p.r (by simp [tCost])))
  | cons x t ih =>
    intro i acc hd h0 h1
    obtain ⟨hi, hd', hx, -⟩ := drop_cons' hd
    have := cRow_b x
    refine Ev.s (fun k => by rw [impl_TotalCost.l0]) (Ev.t (by omega) (Ev.t (by omega) (Ev.t (by omega) ?_)))
    rw [rdR, hx]
    refine Ev.b (Ev.c (impl_RowCost_eq x)) ?_
    rw [w64s hi (by omega), w64 (by omega) (by omega)]
    exact (ih (i + 1) (acc + cRow x) hd' (by omega) (by omega)).r (by rw [tCost_cons]; omega)
theorem impl_TotalCost_ev (l : List S62) (hl : l.length ≤ 1152921504606846975) : Ev (fun k => impl_TotalCost.f k l) (tCost l) :=
  Ev.u (fun _ => rfl) ((impl_TotalCost_l0 l hl l 0 0 rfl (by omega) (by omega)).r (by omega))
theorem spec_TotalCost_l0 (l : List S62) (hl : l.length ≤ 1152921504606846975) : ∀ (s : List S62) (i : Nat) (acc : Int), l.drop i = s → 0 ≤ acc → acc ≤ 4 * i → Ev (fun k => spec_TotalCost.l0 k acc (i : Int) l) (acc + tCost s) := by
  intro s
  induction s with
  | nil =>
    intro i acc hd h0 h1
    have := drop_nil' hd
    exact Ev.s (fun k => by rw [spec_TotalCost.l0]) (Ev.e (by omega) (Ev.p.r (by simp [tCost])))
  | cons x t ih =>
    intro i acc hd h0 h1
    obtain ⟨hi, hd', hx, -⟩ := drop_cons' hd
    have := cRow_b x
    refine Ev.s (fun k => by rw [spec_TotalCost.l0]) (Ev.t (by omega) (Ev.t (by omega) ?_))
    rw [rdR, hx]
    refine Ev.b (Ev.c (spec_RowCost_eq x)) ?_
    rw [w64s hi (by omega), w64 (by omega) (by omega)]
    exact (ih (i + 1) (acc + cRow x) hd' (by omega) (by omega)).r (by rw [tCost_cons]; omega)
theorem spec_TotalCost_ev (l : List S62) (hl : l.length ≤ 1152921504606846975) : Ev (fun k => spec_TotalCost.f k l) (tCost l) :=
  Ev.u (fun _ => rfl) ((spec_TotalCost_l0 l hl l 0 0 rfl (by omega) (by omega)).r (by omega))
def vAll (l : List S62) : Bool := l.all fun x => vRow x.f0 x.f1 x.f2
theorem impl_allValid_l0 (l : List S62) (hl : l.length ≤ 1152921504606846975) : ∀ (s : List S62) (i : Nat), l.drop i = s → Ev (fun k => impl_allValid.l0 k (l.length : Int) (i : Int) l) (vAll s) := by
  intro s
  induction s with
  | nil =>
    intro i hd
    have := drop_nil' hd
    exact Ev.s (fun k => by rw [impl_allValid.l0]) (Ev.e (by omega) (Ev.p.r (by rfl)))
  | cons x t ih =>
    intro i hd
    obtain ⟨hi, hd', hx, -⟩ := drop_cons' hd
    refine Ev.s (fun k => by rw [impl_allValid.l0]) (Ev.t (by omega) (Ev.t (by omega) (Ev.t (by omega) ?_)))
    rw [rdR, hx]
    refine Ev.b (Ev.c (impl_IsValidRow_eq ..)) (Ev.i (fun h => ?_) (fun h => ?_))
    · rw [w64s hi (by omega)]
      exact (ih (i + 1) hd').r (by simp [vAll, h])
    · exact Ev.p.r (by simp [vAll, h])
theorem impl_allValid_ev (l : List S62) (hl : l.length ≤ 1152921504606846975) : Ev (fun k => impl_allValid.f k l) (vAll l) :=
  Ev.u (fun _ => rfl) (impl_allValid_l0 l hl l 0 rfl)
def vRows (l : List S62) : Bool := vAll l && decide (l.length ≤ 24)
theorem impl_AreValidRows_ev (l : List S62) (hl : l.length ≤ 1152921504606846975) : Ev (fun k => impl_AreValidRows.f k l) (vRows l) :=
  Ev.u (fun _ => rfl) (Ev.i (fun h => Ev.b (impl_allValid_ev l hl) (Ev.p.r (by simp [vRows]; omega))) (fun h => Ev.p.r (by simp [vRows]; omega)))
theorem spec_AreValidRows_l0 (l : List S62) (hl : l.length ≤ 1152921504606846975) : ∀ (s : List S62) (i : Nat), l.drop i = s → Ev (fun k => spec_AreValidRows.l0 k (i : Int) l) (vAll s && decide (l.length ≤ 24)) := by
  intro s
  induction s with
  | nil =>
    intro i hd
    have := drop_nil' hd
    exact Ev.s (fun k => by rw [spec_AreValidRows.l0]) (Ev.e (by omega) (Ev.p.r (by simp [vAll]; omega)))
  | cons x t ih =>
    intro i hd
    obtain ⟨hi, hd', hx, -⟩ := drop_cons' hd
    refine Ev.s (fun k => by rw [spec_AreValidRows.l0]) (Ev.t (by omega) (Ev.t (by omega) ?_))
    rw [rdR, hx]
    refine Ev.b (Ev.c (spec_IsValidRow_eq ..)) (Ev.i (fun h => ?_) (fun h => ?_))
    · rw [w64s hi (by omega)]
      exact (ih (i + 1) hd').r (by simp [vAll, h])
    · exact Ev.p.r (by simp [vAll, h])
theorem spec_AreValidRows_ev (l : List S62) (hl : l.length ≤ 1152921504606846975) : Ev (fun k => spec_AreValidRows.f k l) (vRows l) :=
  Ev.u (fun _ => rfl) (spec_AreValidRows_l0 l hl l 0 rfl)
def hBit (key level : Int) : Int := if inB level 0 3 && inB key 0 9 then andI (shrI (Int.tmod (key * 7) 16) level) 1 else 0
theorem spec_HashBit_eq (a b : Int) : spec_HashBit.f a b = some (hBit a b) := by
  unfold spec_HashBit.f hBit
  rw [l1In_eq, l1In_eq, ob rfl]
  by_cases h1 : inB b 0 3 = true
  · rw [if_pos h1, ob rfl]
    by_cases h2 : inB a 0 9 = true
    · rw [if_pos h2]; simp [inB] at h1 h2; rw [if_pos (by omega), w64 (by omega) (by omega)]; simp [inB]; omega
    · rw [if_neg h2]; simp at h2; simp [h2]
  · rw [if_neg h1]; simp at h1; simp [h1]
theorem impl_HashBit_eq (a b : Int) : impl_HashBit.f a b = some (hBit a b) := by
  unfold impl_HashBit.f hBit
  rw [within_eq, within_eq, ob rfl]
  by_cases h1 : inB b 0 3 = true
  · rw [if_pos h1, ob rfl]
    by_cases h2 : inB a 0 9 = true
    · rw [if_pos h2, Int.mul_comm]; simp [inB] at h1 h2; rw [if_pos (by omega), w64 (by omega) (by omega)]; simp [inB]; omega
    · rw [if_neg h2]; simp at h2; simp [h2]
  · rw [if_neg h1]; simp at h1; simp [h1]
def hb (level : Int) (x : S62) : Bool := hBit x.f0 level == 0
def spl0 (level : Int) (l : List S62) : List S62 := l.filter (hb level)
def spl1 (level : Int) (l : List S62) : List S62 := l.filter fun x => !hb level x
theorem impl_SplitByHashBit_l0 (l : List S62) (v : Int) (hl : l.length ≤ 1099511627776) : ∀ (s : List S62) (i : Nat) (a b : List S62), l.drop i = s → a.length ≤ i → b.length ≤ i → Ev (fun k => impl_SplitByHashBit.l0 k v a b (l.length : Int) (i : Int) l) (a ++ spl0 v s, b ++ spl1 v s) := by
  intro s
  induction s with
  | nil =>
    intro i a b hd ha hb
    have := drop_nil' hd
    exact Ev.s (fun k => by rw [impl_SplitByHashBit.l0]) (Ev.e (by omega) (Ev.p.r (by simp [spl0, spl1])))
  | cons x t ih =>
    intro i a b hd ha hbb
    obtain ⟨hi, hd', hx, -⟩ := drop_cons' hd
    refine Ev.s (fun k => by rw [impl_SplitByHashBit.l0]) (Ev.t (by omega) (Ev.t (by omega) (Ev.t (by omega) ?_)))
    rw [rdR, hx, w64s hi (by omega)]
    refine Ev.b (Ev.c (impl_HashBit_eq ..)) (Ev.i (fun h => ?_) (fun h => ?_))
    · exact Ev.t (by omega) ((ih (i + 1) _ _ hd' (by simp; omega) (by omega)).r (by simp [spl0, spl1, hb, h]))
    · exact Ev.t (by omega) ((ih (i + 1) _ _ hd' (by omega) (by simp; omega)).r (by simp [spl0, spl1, hb, h]))
theorem impl_SplitByHashBit_ev (l : List S62) (v : Int) (hl : l.length ≤ 1099511627776) : Ev (fun k => impl_SplitByHashBit.f k l v) (spl0 v l, spl1 v l) :=
  Ev.u (fun _ => rfl) (impl_SplitByHashBit_l0 l v hl l 0 [] [] rfl (by simp) (by simp))
theorem spec_SplitByHashBit_l0 (l : List S62) (v : Int) (hl : l.length ≤ 1099511627776) : ∀ (s : List S62) (i : Nat) (a b : List S62), l.drop i = s → a.length ≤ i → b.length ≤ i → Ev (fun k => spec_SplitByHashBit.l0 k v a b (i : Int) l) (a ++ spl0 v s, b ++ spl1 v s) := by
  intro s
  induction s with
  | nil =>
    intro i a b hd ha hb
    have := drop_nil' hd
    exact Ev.s (fun k => by rw [spec_SplitByHashBit.l0]) (Ev.e (by omega) (Ev.p.r (by simp [spl0, spl1])))
  | cons x t ih =>
    intro i a b hd ha hbb
    obtain ⟨hi, hd', hx, -⟩ := drop_cons' hd
    refine Ev.s (fun k => by rw [spec_SplitByHashBit.l0]) (Ev.t (by omega) (Ev.t (by omega) ?_))
    rw [rdR, hx, w64s hi (by omega)]
    refine Ev.b (Ev.c (spec_HashBit_eq ..)) (Ev.i (fun h => ?_) (fun h => ?_))
    · exact Ev.t (by omega) ((ih (i + 1) _ _ hd' (by simp; omega) (by omega)).r (by simp [spl0, spl1, hb, h]))
    · exact Ev.t (by omega) ((ih (i + 1) _ _ hd' (by omega) (by simp; omega)).r (by simp [spl0, spl1, hb, h]))
theorem spec_SplitByHashBit_ev (l : List S62) (v : Int) (hl : l.length ≤ 1099511627776) : Ev (fun k => spec_SplitByHashBit.f k l v) (spl0 v l, spl1 v l) :=
  Ev.u (fun _ => rfl) (spec_SplitByHashBit_l0 l v hl l 0 [] [] rfl (by simp) (by simp))
def same (l : List S62) : Bool := l.all fun x => x.f0 == (l.getD 0 z62).f0
theorem impl_AllSameKey_l0 (l : List S62) (hl : l.length ≤ 1152921504606846975) : ∀ (s : List S62) (i : Nat), l.drop i = s → Ev (fun k => impl_AllSameKey.l0 k (l.length : Int) (i : Int) l) (s.all fun x => x.f0 == (l.getD 0 z62).f0) := by
  intro s
  induction s with
  | nil =>
    intro i hd
    have := drop_nil' hd
    exact Ev.s (fun k => by rw [impl_AllSameKey.l0]) (Ev.e (by omega) (Ev.p.r (by rfl)))
  | cons x t ih =>
    intro i hd
    obtain ⟨hi, hd', hx, -⟩ := drop_cons' hd
    refine Ev.s (fun k => by rw [impl_AllSameKey.l0]) (Ev.t (by omega) (Ev.t (by omega) (Ev.t (by omega) (Ev.t (by omega) ?_))))
    have r0 : rd_T62 l 0 = l.getD 0 z62 := rfl
    rw [rdR, hx, w64s hi (by omega), r0]
    refine Ev.i (fun h => ?_) (fun h => ?_)
    · exact (ih (i + 1) hd').r (by simp [h])
    · exact Ev.p.r (by rw [List.all_cons, show (x.f0 == (l.getD 0 z62).f0) = false from beq_eq_false_iff_ne.2 h]; rfl)
theorem impl_AllSameKey_ev (l : List S62) (hl : l.length ≤ 1152921504606846975) : Ev (fun k => impl_AllSameKey.f k l) (same l) :=
  Ev.u (fun _ => rfl) (impl_AllSameKey_l0 l hl l 0 rfl)
theorem spec_AllSameKey_l0 (l : List S62) (hl : l.length ≤ 1152921504606846975) : ∀ (s : List S62) (i : Nat), l.drop i = s → 1 ≤ i → Ev (fun k => spec_AllSameKey.l0 k (i : Int) l) (s.all fun x => x.f0 == (l.getD 0 z62).f0) := by
  intro s
  induction s with
  | nil =>
    intro i hd hi0
    have := drop_nil' hd
    exact Ev.s (fun k => by rw [spec_AllSameKey.l0]) (Ev.e (by omega) (Ev.p.r (by rfl)))
  | cons x t ih =>
    intro i hd hi0
    obtain ⟨hi, hd', hx, -⟩ := drop_cons' hd
    refine Ev.s (fun k => by rw [spec_AllSameKey.l0]) (Ev.t (by omega) (Ev.t (by omega) (Ev.t (by omega) ?_)))
    have r0 : rd_T62 l 0 = l.getD 0 z62 := rfl
    rw [rdR, hx, w64s hi (by omega), r0]
    refine Ev.i (fun h => ?_) (fun h => ?_)
    · exact (ih (i + 1) hd' (by omega)).r (by simp [h])
    · exact Ev.p.r (by rw [List.all_cons, show (x.f0 == (l.getD 0 z62).f0) = false from beq_eq_false_iff_ne.2 h]; rfl)
theorem spec_AllSameKey_ev (l : List S62) (hl : l.length ≤ 1152921504606846975) : Ev (fun k => spec_AllSameKey.f k l) (same l) :=
  Ev.u (fun _ => rfl) ((spec_AllSameKey_l0 l hl (l.drop 1) 1 rfl (by omega)).r (by cases l <;> simp [same]))

theorem setP {α : Type} (pre : List α) (x y : α) (t : List α) : (pre ++ x :: t).set ((pre.length : Int)).toNat y = pre ++ y :: t := by
  rw [Int.toNat_natCast, List.set_append_right _ _ (Nat.le_refl _), Nat.sub_self]; rfl
theorem rdB (l : List Bool) (i : Nat) : rdOf false l (i : Int) = l.getD i false := rfl
theorem eqRow_refl (x : S62) : laws_eqRow.f x.f0 x.f1 x.f2 x.f0 x.f1 x.f2 = some true := by
  unfold laws_eqRow.f; simp
theorem eqRowS_l0 (l : List S62) (hl : l.length ≤ 4611686018427387904) : ∀ (s : List S62) (i : Nat), l.drop i = s → Ev (fun f => laws_eqRowS.l0 f (i : Int) l l) true := by
  intro s
  induction s with
  | nil =>
    intro i hd
    have := drop_nil' hd
    exact Ev.s (fun f => by rw [laws_eqRowS.l0]) (Ev.e (by omega) (Ev.p.r (by rfl)))
  | cons x t ih =>
    intro i hd
    obtain ⟨hi, hd', hx, -⟩ := drop_cons' hd
    refine Ev.s (fun f => by rw [laws_eqRowS.l0]) (Ev.t (by omega) (Ev.t (by omega) (Ev.t (by omega) ?_)))
    rw [rdR, hx, w64s hi (by omega)]
    exact Ev.b (Ev.c (eqRow_refl _)) <| Ev.t rfl (ih (i + 1) hd')
theorem eqRowS_ev (l : List S62) (hl : l.length ≤ 4611686018427387904) : Ev (fun f => laws_eqRowS.f f l l) true :=
  Ev.u (fun _ => rfl) (Ev.t rfl (eqRowS_l0 l hl l 0 rfl))
theorem rdLRow (l : List S64) (i : Nat) : rd_T64 l (i : Int) = l.getD i z64 := rfl
def cvRow (x : S64) : S62 := ⟨x.f0, x.f1, x.f2⟩
theorem toRow_eq (x : S64) : laws_toRow.f x.f0 x.f1 x.f2 = some (x.f0, x.f1, x.f2) := by unfold laws_toRow.f; rfl
theorem toRowS_l0 (l : List S64) (hl : l.length ≤ 4611686018427387904) : ∀ (s : List S64) (r pre : List S62), l.drop pre.length = s → r.length = s.length → Ev (fun f => laws_toRowS.l0 f (pre ++ r) (pre.length : Int) l) (pre ++ s.map cvRow) := by
  intro s
  induction s with
  | nil =>
    intro r pre hd hr
    have := drop_nil' hd
    have : r = [] := List.eq_nil_of_length_eq_zero hr
    subst this
    exact Ev.s (fun f => by rw [laws_toRowS.l0]) (Ev.e (by omega) (Ev.p.r (by simp)))
  | cons x t ih =>
    intro r pre hd hr
    obtain ⟨hi, hd', hx, -⟩ := drop_cons' hd
    cases r with
    | nil => simp at hr
    | cons y r =>
      refine Ev.s (fun f => by rw [laws_toRowS.l0]) (Ev.t (by omega) (Ev.t (by omega) ?_))
      rw [rdLRow, hx, w64s hi (by omega)]
      refine Ev.b (Ev.c (toRow_eq x)) (Ev.t (by simp; omega) (Ev.b (Ev.c (congrArg some (setP pre _ _ r))) ?_))
      have h := ih r (pre ++ [cvRow x]) (by rw [List.length_append, List.length_singleton]; exact hd') (by simpa using hr)
      simp only [List.append_assoc, List.singleton_append, List.length_append, List.length_singleton] at h
      exact h.r (by simp)
theorem toRowS_ev (l : List S64) (hl : l.length ≤ 1048576) : Ev (fun f => laws_toRowS.f f l) (l.map cvRow) := by
  refine Ev.u (fun _ => rfl) (Ev.t (by omega) (Ev.t (by simp; omega) ?_))
  have h := toRowS_l0 l (by omega) l (List.replicate l.length z62) [] rfl (by simp)
  simpa using h
theorem szRowS_neg (l : List S64) (n : Int) (h0 : 0 ≤ n) (h1 : n ≤ 1048576) (hl : l.length ≤ maxLen) (h : n - l.length < 0) : laws_szRowS.f l n = some (-1) := by
  have hl' : l.length ≤ 9223372036854775807 := hl
  unfold laws_szRowS.f
  rw [w64 (by omega) (by omega), if_pos h]
theorem szRowS_pos (l : List S64) (n : Int) (h0 : 0 ≤ n) (h1 : n ≤ 1048576) (h : ¬ n - l.length < 0) : laws_szRowS.f l n = some (n - l.length) := by
  unfold laws_szRowS.f
  rw [w64 (by omega) (by omega), if_neg h]
theorem eqBoolS_l0 (l : List Bool) (hl : l.length ≤ 4611686018427387904) : ∀ (s : List Bool) (i : Nat), l.drop i = s → Ev (fun f => laws_eqBoolS.l0 f (i : Int) l l) true := by
  intro s
  induction s with
  | nil =>
    intro i hd
    have := drop_nil' hd
    exact Ev.s (fun f => by rw [laws_eqBoolS.l0]) (Ev.e (by omega) (Ev.p.r (by rfl)))
  | cons x t ih =>
    intro i hd
    obtain ⟨hi, hd', hx, -⟩ := drop_cons' hd
    refine Ev.s (fun f => by rw [laws_eqBoolS.l0]) (Ev.t (by omega) (Ev.t (by omega) (Ev.t (by omega) ?_)))
    rw [rdB, hx, w64s hi (by omega)]
    exact Ev.t (by simp) (ih (i + 1) hd')
theorem eqBoolS_ev (l : List Bool) (hl : l.length ≤ 4611686018427387904) : Ev (fun f => laws_eqBoolS.f f l l) true :=
  Ev.u (fun _ => rfl) (Ev.t rfl (eqBoolS_l0 l hl l 0 rfl))
theorem toBoolS_l0 (l : List Bool) (hl : l.length ≤ 4611686018427387904) : ∀ (s : List Bool) (r pre : List Bool), l.drop pre.length = s → r.length = s.length → Ev (fun f => laws_toBoolS.l0 f (pre ++ r) (pre.length : Int) l) (pre ++ s.map id) := by
  intro s
  induction s with
  | nil =>
    intro r pre hd hr
    have := drop_nil' hd
    have : r = [] := List.eq_nil_of_length_eq_zero hr
    subst this
    exact Ev.s (fun f => by rw [laws_toBoolS.l0]) (Ev.e (by omega) (Ev.p.r (by simp)))
  | cons x t ih =>
    intro r pre hd hr
    obtain ⟨hi, hd', hx, -⟩ := drop_cons' hd
    cases r with
    | nil => simp at hr
    | cons y r =>
      refine Ev.s (fun f => by rw [laws_toBoolS.l0]) (Ev.t (by omega) (Ev.t (by omega) ?_))
      rw [rdB, hx, w64s hi (by omega)]
      refine Ev.t (by simp; omega) ?_
      rw [setP]
      have h := ih r (pre ++ [id x]) (by rw [List.length_append, List.length_singleton]; exact hd') (by simpa using hr)
      simp only [List.append_assoc, List.singleton_append, List.length_append, List.length_singleton] at h
      exact h.r (by simp)
theorem toBoolS_ev (l : List Bool) (hl : l.length ≤ 1048576) : Ev (fun f => laws_toBoolS.f f l) (l) := by
  refine Ev.u (fun _ => rfl) (Ev.t (by omega) (Ev.t (by simp; omega) ?_))
  have h := toBoolS_l0 l (by omega) l (List.replicate l.length false) [] rfl (by simp)
  simpa using h
theorem szBoolS_neg (l : List Bool) (n : Int) (h0 : 0 ≤ n) (h1 : n ≤ 1048576) (hl : l.length ≤ maxLen) (h : n - l.length < 0) : laws_szBoolS.f l n = some (-1) := by
  have hl' : l.length ≤ 9223372036854775807 := hl
  unfold laws_szBoolS.f
  rw [w64 (by omega) (by omega), if_pos h]
theorem szBoolS_pos (l : List Bool) (n : Int) (h0 : 0 ≤ n) (h1 : n ≤ 1048576) (h : ¬ n - l.length < 0) : laws_szBoolS.f l n = some (n - l.length) := by
  unfold laws_szBoolS.f
  rw [w64 (by omega) (by omega), if_neg h]
def cvTask (x : S33) : S37 := ⟨x.f0, x.f1.map cvRow, x.f2.map cvRow, x.f3, x.f4⟩
theorem toTask_ev (x : S33) (h1 : x.f1.length ≤ 1048576) (h2 : x.f2.length ≤ 1048576) (h3 : x.f3.length ≤ 1048576) : Ev (fun k => laws_toTask.f k x.f0 x.f1 x.f2 x.f3 x.f4) ((cvTask x).f0, (cvTask x).f1, (cvTask x).f2, (cvTask x).f3, (cvTask x).f4) :=
  Ev.u (fun _ => rfl) (Ev.b (toRowS_ev _ h1) (Ev.b (toRowS_ev _ h2) (Ev.b (toBoolS_ev _ h3) Ev.p)))
theorem szTask_c (x : S33) (n : Int) (h0 : 0 ≤ n) (h1 : n ≤ 1048576) (g1 : x.f1.length ≤ maxLen) (g2 : x.f2.length ≤ maxLen) (g3 : x.f3.length ≤ maxLen) :
    (∃ r, r < 0 ∧ laws_szTask.f x.f0 x.f1 x.f2 x.f3 x.f4 n = some r) ∨ ((x.f1.length : Int) + x.f2.length + x.f3.length ≤ n ∧ laws_szTask.f x.f0 x.f1 x.f2 x.f3 x.f4 n = some (n - x.f1.length - x.f2.length - x.f3.length)) := by
  unfold laws_szTask.f
  by_cases c1 : n - x.f1.length < 0
  · exact .inl ⟨-1, by omega, by rw [szRowS_neg _ _ h0 h1 g1 c1, ob rfl, if_pos (by omega)]⟩
  · rw [szRowS_pos _ _ h0 h1 c1, ob rfl, if_neg c1]
    by_cases c2 : n - x.f1.length - x.f2.length < 0
    · exact .inl ⟨-1, by omega, by rw [szRowS_neg _ _ (by omega) (by omega) g2 c2, ob rfl, if_pos (by omega)]⟩
    · rw [szRowS_pos _ _ (by omega) (by omega) c2, ob rfl, if_neg c2]
      by_cases c3 : n - x.f1.length - x.f2.length - x.f3.length < 0
      · exact .inl ⟨-1, by omega, by rw [szBoolS_neg _ _ (by omega) (by omega) g3 c3, ob rfl, if_pos (by omega)]⟩
      · exact .inr ⟨by omega, by rw [szBoolS_pos _ _ (by omega) (by omega) c3, ob rfl, if_neg c3]⟩
def tsz (t : S37) : Nat := t.f1.length + t.f2.length + t.f3.length
theorem eqTask_ev (t : S37) (h : tsz t ≤ 4611686018427387904) : Ev (fun k => laws_eqTask.f k t.f0 t.f1 t.f2 t.f3 t.f4 t.f0 t.f1 t.f2 t.f3 t.f4) true := by
  unfold tsz at h
  exact Ev.u (fun _ => rfl) (Ev.t rfl (Ev.b (eqRowS_ev _ (by omega)) (Ev.t rfl (Ev.b (eqRowS_ev _ (by omega)) (Ev.t rfl (Ev.b (eqBoolS_ev _ (by omega)) (Ev.t rfl (Ev.t rfl Ev.p))))))))
theorem impl_IsValidJoinKind_eq (a : Int) : impl_IsValidJoinKind.f a = some (inB a 1 4) := by unfold impl_IsValidJoinKind.f; rw [within_eq]; rfl
theorem spec_IsValidJoinKind_eq (a : Int) : spec_IsValidJoinKind.f a = some (inB a 1 4) := by unfold spec_IsValidJoinKind.f; rw [l1In_eq]; rfl
def vTask (t : S37) : Bool := inB t.f0 1 4 && (vRows t.f1 && (vRows t.f2 && (decide (t.f3.length = t.f1.length) && inB t.f4 0 4)))
theorem impl_IsValidTask_ev (t : S37) (h : tsz t ≤ 1152921504606846975) : Ev (fun k => impl_IsValidTask.f k t.f0 t.f1 t.f2 t.f3 t.f4) (vTask t) := by
  unfold tsz at h
  refine Ev.u (fun _ => rfl) (Ev.b (Ev.c (impl_IsValidJoinKind_eq _)) (Ev.i (fun a => Ev.b (impl_AreValidRows_ev _ (by omega)) (Ev.i (fun b => Ev.b (impl_AreValidRows_ev _ (by omega)) (Ev.i (fun c => Ev.i (fun d => Ev.b (Ev.c (within_eq _ _ _)) (Ev.p.r ?_)) (fun d => Ev.p.r ?_)) (fun c => Ev.p.r ?_))) (fun b => Ev.p.r ?_))) (fun a => Ev.p.r ?_)))
  · have : t.f3.length = t.f1.length := by omega
    simp [vTask, a, b, c, this]
  · have : ¬ t.f3.length = t.f1.length := by omega
    simp [vTask, a, b, c, this]
  · simp [vTask, a, b, c]
  · simp [vTask, a, b]
  · simp [vTask, a]
theorem spec_IsValidTask_ev (t : S37) (h : tsz t ≤ 1152921504606846975) : Ev (fun k => spec_IsValidTask.f k t.f0 t.f1 t.f2 t.f3 t.f4) (vTask t) := by
  unfold tsz at h
  refine Ev.u (fun _ => rfl) (Ev.b (Ev.c (spec_IsValidJoinKind_eq _)) (Ev.i (fun a => Ev.b (spec_AreValidRows_ev _ (by omega)) (Ev.i (fun b => Ev.b (spec_AreValidRows_ev _ (by omega)) (Ev.i (fun c => Ev.i (fun d => Ev.b (Ev.c (l1In_eq _ _ _)) (Ev.p.r ?_)) (fun d => Ev.p.r ?_)) (fun c => Ev.p.r ?_))) (fun b => Ev.p.r ?_))) (fun a => Ev.p.r ?_)))
  · have : t.f3.length = t.f1.length := by omega
    simp [vTask, a, b, c, this]
  · have : ¬ t.f3.length = t.f1.length := by omega
    simp [vTask, a, b, c, this]
  · simp [vTask, a, b, c]
  · simp [vTask, a, b]
  · simp [vTask, a]
theorem vRows_len {l : List S62} (h : vRows l = true) : l.length ≤ 24 := by
  unfold vRows at h; rw [Bool.and_eq_true] at h; exact of_decide_eq_true h.2
structure VT (t : S37) : Prop where
  kind : 1 ≤ t.f0 ∧ t.f0 ≤ 4
  left : vRows t.f1 = true
  right : vRows t.f2 = true
  len : t.f3.length = t.f1.length
  level : 0 ≤ t.f4 ∧ t.f4 ≤ 4
theorem vTask_iff {t : S37} : vTask t = true ↔ VT t := by
  unfold vTask
  constructor
  · intro h; simp [inB] at h; exact ⟨h.1, h.2.1, h.2.2.1, h.2.2.2.1, h.2.2.2.2⟩
  · intro h; simp [inB]; exact ⟨h.kind, h.left, h.right, h.len, h.level⟩
theorem VT.b {t : S37} (h : VT t) : t.f1.length ≤ 24 ∧ t.f2.length ≤ 24 ∧ t.f3.length ≤ 24 := ⟨vRows_len h.left, vRows_len h.right, by rw [h.len]; exact vRows_len h.left⟩
def needsN (t : S37) : Bool := decide (t.f4 ≥ 4) || same t.f2
theorem impl_NeedsNestedLoop_ev (t : S37) (h : tsz t ≤ 1125899906842624) : Ev (fun k => impl_NeedsNestedLoop.f k t.f0 t.f1 t.f2 t.f3 t.f4) (needsN t) := by
  unfold tsz at h
  exact Ev.u (fun _ => rfl) (Ev.i (fun h => Ev.p.r (by simp [needsN, h])) (fun h => Ev.b (impl_AllSameKey_ev _ (by omega)) (Ev.p.r (by simp [needsN, h]))))
theorem spec_NeedsNestedLoop_ev (t : S37) (h : tsz t ≤ 1125899906842624) : Ev (fun k => spec_NeedsNestedLoop.f k t.f0 t.f1 t.f2 t.f3 t.f4) (needsN t) := by
  unfold tsz at h
  exact Ev.u (fun _ => rfl) (Ev.i (fun h => Ev.p.r (by simp [needsN, h])) (fun h => Ev.b (spec_AllSameKey_ev _ (by omega)) (Ev.p.r (by simp [needsN, h]))))
def bSide (t : S37) (g : Int) : Int := if vTask t = true then (if t.f0 = 1 ∧ tCost t.f1 < tCost t.f2 ∧ tCost t.f1 ≤ g then 1 else if tCost t.f2 ≤ g then 2 else 0) else 0
theorem impl_BuildSide_ev (t : S37) (g : Int) (h : tsz t ≤ 1125899906842624) : Ev (fun k => impl_BuildSide.f k t.f0 t.f1 t.f2 t.f3 t.f4 g) (bSide t g) := by
  have hv := impl_IsValidTask_ev t (by omega)
  unfold tsz at h
  refine Ev.u (fun _ => rfl) (Ev.b hv (Ev.i (fun a => Ev.b (impl_TotalCost_ev _ (by omega)) (Ev.b (impl_TotalCost_ev _ (by omega)) (Ev.i (fun b => Ev.i (fun c => Ev.i (fun d => Ev.p.r ?_) (fun d => Ev.i (fun e => Ev.p.r ?_) (fun e => Ev.p.r ?_))) (fun c => Ev.i (fun e => Ev.p.r ?_) (fun e => Ev.p.r ?_))) (fun b => Ev.i (fun e => Ev.p.r ?_) (fun e => Ev.p.r ?_))))) (fun a => Ev.p.r ?_)))
  all_goals (unfold bSide; first | (rw [if_neg a]; done) | (rw [if_pos a]; (repeat' split) <;> omega))
theorem spec_BuildSide_j0 (t : S37) (g a b : Int) (h : tsz t ≤ 1125899906842624) : Ev (fun k => spec_BuildSide.j0 k g a b t.f1 t.f2 t.f3) (if tCost t.f2 ≤ g then 2 else 0) := by
  unfold tsz at h
  refine Ev.s (fun k => by rw [spec_BuildSide.j0]) (Ev.b (spec_TotalCost_ev _ (by omega)) (Ev.i (fun e => Ev.p.r ?_) (fun e => Ev.p.r ?_)))
  · rw [if_pos e]
  · rw [if_neg e]
theorem spec_BuildSide_ev (t : S37) (g : Int) (h : tsz t ≤ 1125899906842624) : Ev (fun k => spec_BuildSide.f k t.f0 t.f1 t.f2 t.f3 t.f4 g) (bSide t g) := by
  have hv := spec_IsValidTask_ev t (by omega)
  have hj := fun a b => spec_BuildSide_j0 t g a b h
  unfold tsz at h
  refine Ev.u (fun _ => rfl) (Ev.b hv (Ev.i (fun a => Ev.i (fun b => Ev.b (spec_TotalCost_ev _ (by omega)) (Ev.b (spec_TotalCost_ev _ (by omega)) (Ev.i (fun c => Ev.b (spec_TotalCost_ev _ (by omega)) (Ev.i (fun d => Ev.p.r ?_) (fun d => (hj _ _).r ?_))) (fun c => (hj _ _).r ?_)))) (fun b => (hj _ _).r ?_)) (fun a => Ev.p.r ?_)))
  all_goals (unfold bSide; first | (rw [if_neg a]; done) | (rw [if_pos a]; (repeat' split) <;> omega))
def zl (t : S37) : List (S62 × Bool) := t.f1.zip t.f3
def part0 (t : S37) : S37 := ⟨t.f0, ((zl t).filter fun p => hb t.f4 p.1).map (·.1), spl0 t.f4 t.f2, ((zl t).filter fun p => hb t.f4 p.1).map (·.2), t.f4 + 1⟩
def part1 (t : S37) : S37 := ⟨t.f0, ((zl t).filter fun p => !hb t.f4 p.1).map (·.1), spl1 t.f4 t.f2, ((zl t).filter fun p => !hb t.f4 p.1).map (·.2), t.f4 + 1⟩
def parts (t : S37) : Bool := vTask t && decide (t.f4 ≠ 4)
theorem part_zip {l : List S62} {m : List Bool} {i : Nat} {x : S62} {s : List S62} (hm : m.length = l.length) (hd : l.drop i = x :: s) : ∃ b u, m.drop i = b :: u ∧ (l.zip m).drop i = (x, b) :: (l.zip m).drop (i + 1) := by
  obtain ⟨hi, hd', hx, -⟩ := drop_cons' hd
  have hmi : i < m.length := by omega
  refine ⟨m[i], m.drop (i + 1), (List.drop_eq_getElem_cons hmi), ?_⟩
  have hz : i < (l.zip m).length := by rw [List.length_zip]; omega
  rw [List.drop_eq_getElem_cons hz, List.getElem_zip]
  have := hx z62
  rw [List.getD_eq_getElem?_getD, List.getElem?_eq_getElem hi] at this
  simp at this
  rw [this]
theorem hBit_01 (a b : Int) : hBit a b = 0 ∨ hBit a b = 1 := by
  unfold hBit
  split
  · unfold andI
    generalize shrI (Int.tmod (a * 7) 16) b = x
    have h1 : (BitVec.ofInt 64 x &&& BitVec.ofInt 64 1).toNat = (BitVec.ofInt 64 x).toNat % 2 := by
      rw [BitVec.toNat_and, show (BitVec.ofInt 64 1).toNat = 1 from rfl, Nat.and_one_is_mod]
    rw [h1]
    have h2 : (BitVec.ofInt 64 x).toNat % 2 < 2 := Nat.mod_lt _ (by omega)
    rw [w64 (by omega) (by omega)]
    omega
  · exact .inl rfl

def fz0 (v : Int) (z : List (S62 × Bool)) : List (S62 × Bool) := z.filter fun p => hb v p.1
def fz1 (v : Int) (z : List (S62 × Bool)) : List (S62 × Bool) := z.filter fun p => !hb v p.1
theorem rdBool (l : List Bool) (i : Nat) {b : Bool} {u : List Bool} (h : l.drop i = b :: u) : rdOf false l (i : Int) = b := by
  rw [rdB]; exact (drop_cons' h).2.2.1 _
theorem impl_PartitionTask_l0 (t : S37) (hl : t.f3.length = t.f1.length) (hs : tsz t ≤ 1099511627776) (e0 e4 f0 f4 : Int) (e1 e2 f1 f2 : List S62) (e3 f3 : List Bool) (q : Int) (c0 c4 d0 d4 : Int) (c2 d2 : List S62) : ∀ (s : List S62) (i : Nat) (a1 b1 : List S62) (a3 b3 : List Bool), t.f1.drop i = s → a1.length ≤ i → b1.length ≤ i → a3.length ≤ i → b3.length ≤ i →
    Ev (fun k => impl_PartitionTask.l0 k (t.f1.length : Int) (i : Int) q t.f4 e0 e1 e2 e3 e4 f0 f1 f2 f3 f4 c0 a1 c2 a3 c4 d0 b1 d2 b3 d4 t.f1 t.f2 t.f3)
      (c0, a1 ++ (fz0 t.f4 ((zl t).drop i)).map (·.1), spl0 t.f4 t.f2, a3 ++ (fz0 t.f4 ((zl t).drop i)).map (·.2), c4, d0, b1 ++ (fz1 t.f4 ((zl t).drop i)).map (·.1), spl1 t.f4 t.f2, b3 ++ (fz1 t.f4 ((zl t).drop i)).map (·.2), d4, true) := by
  unfold tsz at hs
  intro s
  induction s with
  | nil =>
    intro i a1 b1 a3 b3 hd h1 h2 h3 h4
    have := drop_nil' hd
    have hz : (zl t).drop i = [] := List.drop_eq_nil_iff.2 (by rw [zl, List.length_zip]; omega)
    refine Ev.s (fun k => by rw [impl_PartitionTask.l0]) (Ev.e (by omega) (Ev.b (impl_SplitByHashBit_ev _ _ (by omega)) (Ev.p.r ?_)))
    rw [hz]; simp [fz0, fz1]
  | cons x s ih =>
    intro i a1 b1 a3 b3 hd h1 h2 h3 h4
    obtain ⟨hi, hd', hx, -⟩ := drop_cons' hd
    obtain ⟨b, u, hb1, hz⟩ := part_zip hl hd
    refine Ev.s (fun k => by rw [impl_PartitionTask.l0]) (Ev.t (by omega) (Ev.t (by omega) (Ev.t (by omega) ?_)))
    rw [rdR, hx, w64s hi (by omega), rdBool _ _ hb1]
    refine Ev.b (Ev.c (impl_HashBit_eq ..)) (Ev.i (fun h => ?_) (fun h => Ev.t ((hBit_01 _ _).resolve_left h) ?_))
    · refine Ev.t (by omega) (Ev.t (by omega) (Ev.t (by omega) ((ih (i + 1) _ _ _ _ hd' (by simp; omega) (by omega) (by simp; omega) (by omega)).r ?_)))
      rw [show (zl t).drop i = (x, b) :: (zl t).drop (i + 1) from hz]
      simp [fz0, fz1, hb, h]
    · refine Ev.t (by omega) (Ev.t (by omega) (Ev.t (by omega) ((ih (i + 1) _ _ _ _ hd' (by omega) (by simp; omega) (by omega) (by simp; omega)).r ?_)))
      rw [show (zl t).drop i = (x, b) :: (zl t).drop (i + 1) from hz]
      simp [fz0, fz1, hb, h]
theorem spec_PartitionTask_l0 (t : S37) (hl : t.f3.length = t.f1.length) (hs : tsz t ≤ 1099511627776) (e0 e4 f0 f4 : Int) (e1 e2 f1 f2 : List S62) (e3 f3 : List Bool) (q : Int) (c0 c4 d0 d4 : Int) (c2 d2 : List S62) : ∀ (s : List S62) (i : Nat) (a1 b1 : List S62) (a3 b3 : List Bool), t.f1.drop i = s → a1.length ≤ i → b1.length ≤ i → a3.length ≤ i → b3.length ≤ i →
    Ev (fun k => spec_PartitionTask.l0 k (i : Int) q t.f4 e0 e1 e2 e3 e4 f0 f1 f2 f3 f4 c0 a1 c2 a3 c4 d0 b1 d2 b3 d4 t.f1 t.f2 t.f3)
      (c0, a1 ++ (fz0 t.f4 ((zl t).drop i)).map (·.1), c2, a3 ++ (fz0 t.f4 ((zl t).drop i)).map (·.2), c4, d0, b1 ++ (fz1 t.f4 ((zl t).drop i)).map (·.1), d2, b3 ++ (fz1 t.f4 ((zl t).drop i)).map (·.2), d4, true) := by
  unfold tsz at hs
  intro s
  induction s with
  | nil =>
    intro i a1 b1 a3 b3 hd h1 h2 h3 h4
    have := drop_nil' hd
    have hz : (zl t).drop i = [] := List.drop_eq_nil_iff.2 (by rw [zl, List.length_zip]; omega)
    refine Ev.s (fun k => by rw [spec_PartitionTask.l0]) (Ev.e (by omega) (Ev.p.r ?_))
    rw [hz]; simp [fz0, fz1]
  | cons x s ih =>
    intro i a1 b1 a3 b3 hd h1 h2 h3 h4
    obtain ⟨hi, hd', hx, -⟩ := drop_cons' hd
    obtain ⟨b, u, hb1, hz⟩ := part_zip hl hd
    refine Ev.s (fun k => by rw [spec_PartitionTask.l0]) (Ev.t (by omega) (Ev.t (by omega) ?_))
    rw [rdR, hx, w64s hi (by omega), rdBool _ _ hb1]
    refine Ev.b (Ev.c (spec_HashBit_eq ..)) (Ev.i (fun h => ?_) (fun h => ?_))
    · refine Ev.t (by omega) (Ev.t (by omega) (Ev.t (by omega) ((ih (i + 1) _ _ _ _ hd' (by simp; omega) (by omega) (by simp; omega) (by omega)).r ?_)))
      rw [show (zl t).drop i = (x, b) :: (zl t).drop (i + 1) from hz]
      simp [fz0, fz1, hb, h]
    · refine Ev.t (by omega) (Ev.t (by omega) (Ev.t (by omega) ((ih (i + 1) _ _ _ _ hd' (by omega) (by simp; omega) (by omega) (by simp; omega)).r ?_)))
      rw [show (zl t).drop i = (x, b) :: (zl t).drop (i + 1) from hz]
      simp [fz0, fz1, hb, h]
def pT0 (t : S37) : S37 := if parts t = true then part0 t else z37
def pT1 (t : S37) : S37 := if parts t = true then part1 t else z37
abbrev tup (a b : S37) (r : Bool) : Int × List S62 × List S62 × List Bool × Int × Int × List S62 × List S62 × List Bool × Int × Bool := (a.f0, a.f1, a.f2, a.f3, a.f4, b.f0, b.f1, b.f2, b.f3, b.f4, r)
theorem impl_PartitionTask_ev (t : S37) (hs : tsz t ≤ 1099511627776) : Ev (fun k => impl_PartitionTask.f k t.f0 t.f1 t.f2 t.f3 t.f4) (tup (pT0 t) (pT1 t) (parts t)) := by
  have hs' := hs
  refine Ev.u (fun _ => rfl) (Ev.b (impl_IsValidTask_ev t (by omega)) (Ev.i (fun a => Ev.i (fun b => Ev.p.r ?_) (fun b => ?_)) (fun a => Ev.p.r ?_)))
  · have : parts t = false := by simp [parts, a, b]
    simp [tup, pT0, pT1, this, z37]
  · have hp : parts t = true := by simp [parts, a, b]
    have hv := vTask_iff.1 a
    rw [w64 (by have := hv.level; omega) (by have := hv.level; omega)]
    refine (impl_PartitionTask_l0 t hv.len hs _ _ _ _ _ _ _ _ _ _ _ t.f0 (t.f4 + 1) t.f0 (t.f4 + 1) [] [] t.f1 0 [] [] [] [] rfl (by simp) (by simp) (by simp) (by simp)).r ?_
    simp [tup, pT0, pT1, hp, part0, part1, fz0, fz1]
  · have : parts t = false := by simp [parts, a]
    simp [tup, pT0, pT1, this, z37]
theorem spec_PartitionTask_ev (t : S37) (hs : tsz t ≤ 1099511627776) : Ev (fun k => spec_PartitionTask.f k t.f0 t.f1 t.f2 t.f3 t.f4) (tup (pT0 t) (pT1 t) (parts t)) := by
  have hs' := hs
  unfold tsz at hs'
  refine Ev.u (fun _ => rfl) (Ev.b (spec_IsValidTask_ev t (by omega)) (Ev.i (fun a => Ev.i (fun b => Ev.p.r ?_) (fun b => Ev.b (spec_SplitByHashBit_ev _ _ (by omega)) ?_)) (fun a => Ev.p.r ?_)))
  · have : parts t = false := by simp [parts, a, b]
    simp [tup, pT0, pT1, this, z37]
  · have hp : parts t = true := by simp [parts, a, b]
    have hv := vTask_iff.1 a
    rw [w64 (by have := hv.level; omega) (by have := hv.level; omega)]
    refine (spec_PartitionTask_l0 t hv.len hs _ _ _ _ _ _ _ _ _ _ _ t.f0 (t.f4 + 1) t.f0 (t.f4 + 1) _ _ t.f1 0 [] [] [] [] rfl (by simp) (by simp) (by simp) (by simp)).r ?_
    simp [tup, pT0, pT1, hp, part0, part1, fz0, fz1]
  · have : parts t = false := by simp [parts, a]
    simp [tup, pT0, pT1, this, z37]
theorem VT.p {t : S37} (h : VT t) : tsz t ≤ 72 := by have := h.b; unfold tsz; omega
theorem vAll_sub {l m : List S62} (h : vAll l = true) (hs : ∀ x ∈ m, x ∈ l) : vAll m = true := by
  unfold vAll at *; rw [List.all_eq_true] at *; exact fun x hx => h x (hs x hx)
theorem vRows_iff {l : List S62} : vRows l = true ↔ vAll l = true ∧ l.length ≤ 24 := by unfold vRows; rw [Bool.and_eq_true, decide_eq_true_iff]
theorem vRows_sub {l m : List S62} (h : vRows l = true) (hs : m.Sublist l) : vRows m = true := by
  rw [vRows_iff] at *; exact ⟨vAll_sub h.1 hs.subset, Nat.le_trans hs.length_le h.2⟩
theorem zl_fst {t : S37} (h : t.f3.length = t.f1.length) : (zl t).map (·.1) = t.f1 := List.map_fst_zip (by omega)
theorem part_VT {t : S37} (h : VT t) (h4 : t.f4 ≠ 4) : VT (part0 t) ∧ VT (part1 t) := by
  have e := zl_fst h.len
  have key : ∀ f : S62 × Bool → Bool, (((zl t).filter f).map (·.1)).Sublist t.f1 := fun f => by
    have := (List.filter_sublist (p := f) (l := zl t)).map (·.1)
    rwa [e] at this
  have hl := h.level
  refine ⟨⟨h.kind, vRows_sub h.left (key _), vRows_sub h.right List.filter_sublist, by simp [part0], ?_⟩, ⟨h.kind, vRows_sub h.left (key _), vRows_sub h.right List.filter_sublist, by simp [part1], ?_⟩⟩
  · show 0 ≤ t.f4 + 1 ∧ t.f4 + 1 ≤ 4; omega
  · show 0 ≤ t.f4 + 1 ∧ t.f4 + 1 ≤ 4; omega
theorem bSide_012 (t : S37) (g : Int) : bSide t g = 0 ∨ bSide t g = 1 ∨ bSide t g = 2 := by
  unfold bSide; (repeat' split) <;> simp
theorem mx_b {a b n : Int} (h1 : 0 ≤ a) (h2 : a ≤ n) (h3 : 0 ≤ b) (h4 : b ≤ n) : 0 ≤ mx a b ∧ mx a b ≤ n := by unfold mx; split <;> omega
theorem pDepth (g : Int) : ∀ (n : Nat) (t : S37), tsz t ≤ 1099511627776 → n ≤ 10 → (vTask t = true → 4 - t.f4 ≤ n) → ∃ r : Int, 0 ≤ r ∧ r ≤ n ∧ Ev (fun k => spec_PartitionDepth.f k t.f0 t.f1 t.f2 t.f3 t.f4 g) r ∧ Ev (fun k => impl_PartitionDepth.f k t.f0 t.f1 t.f2 t.f3 t.f4 g) r := by
  have base : ∀ (t : S37), tsz t ≤ 1099511627776 → (vTask t = true → bSide t g ≠ 0 ∨ needsN t = true ∨ t.f1.length = 0) → Ev (fun k => spec_PartitionDepth.f k t.f0 t.f1 t.f2 t.f3 t.f4 g) 0 ∧ Ev (fun k => impl_PartitionDepth.f k t.f0 t.f1 t.f2 t.f3 t.f4 g) 0 := by
    intro t ht h
    have hb := bSide_012 t g
    constructor
    · refine Ev.s (fun k => by rw [spec_PartitionDepth.f]) ?_
      refine Ev.b (spec_IsValidTask_ev t (by omega)) (Ev.i (fun hv => Ev.b (spec_BuildSide_ev t g (by omega)) (Ev.i (fun h2 => Ev.p) (fun h2 => Ev.b (spec_NeedsNestedLoop_ev t (by omega)) (Ev.i (fun h3 => Ev.p) (fun h3 => Ev.t ?_ Ev.p))))) (fun hv => Ev.p))
      rcases h hv with h | h | h
      · omega
      · exact absurd h h3
      · omega
    · refine Ev.s (fun k => by rw [impl_PartitionDepth.f]) ?_
      refine Ev.b (impl_IsValidTask_ev t (by omega)) (Ev.i (fun hv => Ev.b (impl_BuildSide_ev t g (by omega)) (Ev.i (fun h2 => Ev.b (impl_NeedsNestedLoop_ev t (by omega)) (Ev.i (fun h3 => Ev.p) (fun h3 => Ev.t ?_ Ev.p))) (fun h2 => Ev.p))) (fun hv => Ev.p))
      rcases h hv with h | h | h
      · omega
      · exact absurd h h3
      · omega
  intro n
  induction n with
  | zero =>
    intro t ht hn hl
    obtain ⟨h1, h2⟩ := base t ht (fun hv => .inr (.inl (by have := hl hv; simp [needsN]; left; omega)))
    exact ⟨0, by omega, by omega, h1, h2⟩
  | succ n ih =>
    intro t ht hn hl
    by_cases hc : vTask t = true → bSide t g ≠ 0 ∨ needsN t = true ∨ t.f1.length = 0
    · obtain ⟨h1, h2⟩ := base t ht hc
      exact ⟨0, by omega, by omega, h1, h2⟩
    · have hv : vTask t = true := Classical.byContradiction fun h => hc (fun h' => absurd h' h)
      have hnb : bSide t g = 0 := Classical.byContradiction fun h => hc (fun _ => .inl h)
      have hnn : needsN t = false := by cases e : needsN t with | false => rfl | true => exact absurd (fun _ => .inr (.inl e)) hc
      have hn0 : t.f1.length ≠ 0 := fun h => hc (fun _ => .inr (.inr h))
      have h4 : t.f4 < 4 := by simp [needsN] at hnn; omega
      have hV := vTask_iff.1 hv
      have hp : parts t = true := by simp [parts, hv]; omega
      obtain ⟨q0, q1⟩ := part_VT hV (by omega)
      have e0 : pT0 t = part0 t := if_pos hp
      have e1 : pT1 t = part1 t := if_pos hp
      have hl' := hl hv
      obtain ⟨r0, b0, c0, s0, i0⟩ := ih (part0 t) (by have := q0.p; omega) (by omega) (fun _ => by show 4 - (t.f4 + 1) ≤ _; omega)
      obtain ⟨r1, b1, c1, s1, i1⟩ := ih (part1 t) (by have := q1.p; omega) (by omega) (fun _ => by show 4 - (t.f4 + 1) ≤ _; omega)
      obtain ⟨m0, m1⟩ := mx_b b0 c0 b1 c1
      have es := spec_PartitionTask_ev t ht
      have ei := impl_PartitionTask_ev t ht
      rw [e0, e1] at es ei
      refine ⟨1 + mx r0 r1, by omega, by omega, ?_, ?_⟩
      · refine Ev.s (fun k => by rw [spec_PartitionDepth.f]) ?_
        exact Ev.b (spec_IsValidTask_ev t (by omega)) (Ev.t hv (Ev.b (spec_BuildSide_ev t g (by omega)) (Ev.e (by omega) (Ev.b (spec_NeedsNestedLoop_ev t (by omega)) (Ev.e (by simp [hnn]) (Ev.e (by omega) (Ev.b es (Ev.b s0 (Ev.b s1 (Ev.p.r (w64 (by omega) (by omega))))))))))))
      · refine Ev.s (fun k => by rw [impl_PartitionDepth.f]) ?_
        exact Ev.b (impl_IsValidTask_ev t (by omega)) (Ev.t hv (Ev.b (impl_BuildSide_ev t g (by omega)) (Ev.t hnb (Ev.b (impl_NeedsNestedLoop_ev t (by omega)) (Ev.e (by simp [hnn]) (Ev.e (by omega) (Ev.b ei (Ev.b i0 (Ev.b i1 (Ev.p.r (w64 (by omega) (by omega))))))))))))

theorem pure_FnExactPartitionDepth (x0 : S33) (a1 : Int) (G0 : good33 x0) (w1 : (Lit.int .i64 a1).wf = true) : ∃ k, laws_FnExactPartitionDepth.f k x0.f0 x0.f1 x0.f2 x0.f3 x0.f4 a1 = some true := by
  obtain ⟨-, ⟨g1, -⟩, ⟨g2, -⟩, ⟨g3, -⟩, -⟩ := G0
  refine Ev.ex ?_
  rcases szTask_c x0 1048576 (by omega) (by omega) g1 g2 g3 with ⟨r, h1, h2⟩ | ⟨h1, h2⟩
  · exact Ev.u (fun _ => rfl) (Ev.b (Ev.c h2) (Ev.t h1 Ev.p))
  · have hto := toTask_ev x0 (by omega) (by omega) (by omega)
    have ht : tsz (cvTask x0) ≤ 1048576 := by simp [tsz, cvTask]; omega
    generalize cvTask x0 = X at *
    obtain ⟨r, -, -, es, ei⟩ := pDepth a1 5 X (by omega) (by omega) (fun hv => by have := (vTask_iff.1 hv).level; omega)
    have qx := eqTask_ev X (by omega)
    exact Ev.u (fun _ => rfl) (Ev.b (Ev.c h2) (Ev.e (by omega) (Ev.b hto (Ev.b es (Ev.b hto (Ev.b ei (Ev.t rfl (Ev.b hto (Ev.b qx (Ev.t rfl Ev.p))))))))))

end Go.Proofs.Ythciieopabndcaa.K
namespace Go.Proofs.Ythciieopabndcaa.fnExactPartitionDepth
open Go Go.ChangeShapes Go.WideShapes Go.ChangeAt Go.RowKit Go.Proofs.Ythciieopabndcaa.K
open Go.ChangeMaps (open_string shut_string)
set_option linter.unusedVariables false
theorem own : ownKnob Try.prog.godebug = none := by kernel_rfl
theorem laidOut : laidOutB Try.prog = true := by kernel_rfl
set_option maxRecDepth 100000 in
theorem lifted (os : Os) (started : os.Started) (H : Type) (enc : TypeId × Value → H) :
    ReturnsInHanded {} Try.checked os 12 .any (Rows.fnExactPartitionDepthSpec.pre6 enc Try.prog Try.f12 Rows.fnExactPartitionDepthRow.domain false) (Rows.fnExactPartitionDepthSpec.post enc Try.prog Try.f12 false true false false) := by
  refine returnsInHanded_of_change_sized (C := Try.checked) own started (by kernel_rfl) Try.func12
    (ChangeSpec.witness6 (enc := enc) (C := Try.checked) false ⟨#[], #[.agg #[.int .i64 0, .slice none 0 0, .slice none 0 0, .slice none 0 0, .int .i64 0], .int .i64 0], []⟩ 8 (by kernel_rfl) (by kernel_rfl) (by kernel_rfl) (by kernel_rfl)) ?_
  intro W base args ds gs before hval0 hW hcnd hsz0 _
  have hsz : (DataW.weightsEach Try.prog (Try.f12.params.toList ++ Rows.fnExactPartitionDepthSpec.plain.varTypes Try.prog) (ds ++ gs)).all (· ≤ reachBytes) = true := hsz0
  have hval : ∀ (j : Nat) t v, Try.f12.params[j]? = some t → args[j]? = some v → Value.okWide Try.prog W .any base t v := hval0
  have hW' := hW
  obtain ⟨p, q, hA0, hV, rfl, hfz, hnd⟩ := hW
  have hA : DataW.TrodAll enc Try.prog W 0 (fun _ => true) true Try.f12.params.toList args.toList ds p := hA0
  rw [Try.params12] at hA hval hsz
  obtain ⟨v0, vs0, d0, ds0, p0, q0, hargs, rfl, rfl, h0, r0⟩ := trodAll_cons hA
  obtain ⟨v1, vs1, d1, ds1, p1, q1, rfl, rfl, rfl, h1, r1⟩ := trodAll_cons r0
  obtain ⟨rfl, rfl, rfl⟩ := trodAll_nil r1
  obtain rfl : args = #[v0, v1] := by cases args; simp_all
  obtain ⟨rfl, rfl⟩ := trodVars_none hV
  have k0 := h0
  have lt0 : ∀ x ∈ p0, x.block < W.heap.size := by obtain ⟨m, hm⟩ := k0; exact DataW.trod_lt m _ _ _ hm
  obtain ⟨cs0, rfl, _⟩ := Go.WideShapes.okWide_struct Try.underlying33 (hval 0 33 v0 rfl rfl)
  obtain ⟨x0, hs0, hl0, hc0, F0, G0⟩ := open_arg open33 h0
  obtain ⟨A0_1, c0_1, A0_2, c0_2, A0_3, c0_3, rfl⟩ := K.hs3 hl0
  obtain rfl : cs0 = #[.int .i64 x0.f0, .slice A0_1 x0.f1.length c0_1, .slice A0_2 x0.f2.length c0_2, .slice A0_3 x0.f3.length c0_3, .int .i64 x0.f4] := Array.toList_inj.1 hc0
  obtain ⟨a1, rfl, rfl, rfl, w1⟩ := open_int Try.underlying3 (hval 1 3 v1 rfl rfl) h1
  clear hA0 hval0 hsz0 hsz
  obtain ⟨k, hk⟩ := K.pure_FnExactPartitionDepth x0 a1 G0 w1
  refine (law_calls (laws_FnExactPartitionDepth.ok k x0.f0 x0.f1 A0_1 c0_1 x0.f2 A0_2 c0_2 x0.f3 A0_3 c0_3 x0.f4 a1 true hk) (facts_app F0 facts_nil)).mono fun e W' he => ?_
  obtain ⟨rfl, bel⟩ := he
  exact ⟨_, rfl, _, _, _, [], _, [], hW', trodAll_mk1 (shut_bool Try.underlying4 _), (trodAll_cons_mk (Below.trod laidOut (by kernel_rfl) (of_decide_eq_true (by kernel_rfl)) k0 bel lt0) (trodAll_cons_mk (shut_int Try.underlying3 w1) trodAll_mk0)), rfl, bel.frame _, fun h => by cases h⟩
theorem over : Rows.fnExactPartitionDepthRow.holds Try.pinned (OpenSpec.ofChange Rows.fnExactPartitionDepthSpec) :=
  OpenClaim.holds_of_wide 12 Try.f12 rfl rfl rfl rfl rfl rfl rfl ⟨rfl, rfl, rfl, rfl, rfl⟩ rfl rfl rfl rfl rfl (by kernel_rfl) Try.func12 (by kernel_rfl)
    (of_decide_eq_true (by kernel_rfl)) (by unfold Func.isWrapper; first | (rw [if_pos (by decide +kernel)]; kernel_rfl) | (rw [if_neg (by decide +kernel)]; exact ⟨rfl, rfl⟩))
    (fun os started H enc _ => lifted os started H enc)
theorem proved : Rows.FnExactPartitionDepthSaid := over
#print axioms proved
end Go.Proofs.Ythciieopabndcaa.fnExactPartitionDepth
namespace Go.Proofs.Ythciieopabndcaa
/-- The row, under a short name, for the claim. -/
theorem fnExactPartitionDepth_holds : Rows.FnExactPartitionDepthSaid := fnExactPartitionDepth.proved
end Go.Proofs.Ythciieopabndcaa
