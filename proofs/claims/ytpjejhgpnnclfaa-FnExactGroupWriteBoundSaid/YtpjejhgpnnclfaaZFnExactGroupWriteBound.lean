/- FnExactGroupWriteBound answers true at every input. -/
import Derived.Below
import Derived.Carry
import Derived.ChangeOld
import Derived.OpenShut
import Derived.ProofKit
import Derived.ShutString
import Derived.SizedLaws
import Derived.Test.YtpjejhgpnnclfaaChecked
import Derived.Test.YtpjejhgpnnclfaaRows
import Derived.WalkKit
import Derived.Test.YtpjejhgpnnclfaaVFnExactGroupWriteBounda
namespace Go.Proofs.Ytpjejhgpnnclfaa.K
open Go Go.RowKit
set_option linter.unusedVariables false
set_option linter.unusedSimpArgs false
def Ev {α : Type} (f : Nat → Option α) (r : α) : Prop := ∃ K, ∀ k, K ≤ k → f k = some r
theorem Ev.p {α : Type} {r : α} : Ev (fun _ => some r) r := ⟨0, fun _ _ => rfl⟩
theorem Ev.c {α : Type} {o : Option α} {r : α} (h : o = some r) : Ev (fun _ => o) r := ⟨0, fun _ _ => h⟩
theorem Ev.b {α β : Type} {f : Nat → Option α} {g : Nat → α → Option β} {a : α} {r : β} (hf : Ev f a) (hg : Ev (fun k => g k a) r) : Ev (fun k => (f k).bind (g k)) r := by
  obtain ⟨K, h⟩ := hf; obtain ⟨L, h'⟩ := hg
  exact ⟨max K L, fun k hk => by show (f k).bind (g k) = some r; rw [h k (by omega)]; exact h' k (by omega)⟩
theorem Ev.t {α : Type} {p : Prop} [Decidable p] {f g : Nat → Option α} {r : α} (h : p) (hf : Ev f r) : Ev (fun k => if p then f k else g k) r := by
  obtain ⟨K, h'⟩ := hf
  exact ⟨K, fun k hk => by show (if p then f k else g k) = some r; rw [if_pos h]; exact h' k hk⟩
theorem Ev.e {α : Type} {p : Prop} [Decidable p] {f g : Nat → Option α} {r : α} (h : ¬ p) (hg : Ev g r) : Ev (fun k => if p then f k else g k) r := by
  obtain ⟨K, h'⟩ := hg
  exact ⟨K, fun k hk => by show (if p then f k else g k) = some r; rw [if_neg h]; exact h' k hk⟩
theorem Ev.i {α : Type} {p : Prop} [Decidable p] {f g : Nat → Option α} {r : α} (hf : p → Ev f r) (hg : ¬ p → Ev g r) : Ev (fun k => if p then f k else g k) r := by
  by_cases h : p
  · exact Ev.t h (hf h)
  · exact Ev.e h (hg h)
theorem Ev.s {α : Type} {L f : Nat → Option α} {r : α} (h : ∀ k, L (k + 1) = f k) (hf : Ev f r) : Ev L r := by
  obtain ⟨K, h'⟩ := hf
  refine ⟨K + 1, fun k hk => ?_⟩
  obtain ⟨m, rfl⟩ : ∃ m, k = m + 1 := ⟨k - 1, by omega⟩
  rw [h]; exact h' m (by omega)
theorem Ev.u {α : Type} {L f : Nat → Option α} {r : α} (h : ∀ k, L k = f k) (hf : Ev f r) : Ev L r := by
  obtain ⟨K, h'⟩ := hf
  exact ⟨K, fun k hk => by rw [h]; exact h' k hk⟩
theorem Ev.r {α : Type} {f : Nat → Option α} {r r' : α} (h : Ev f r) (e : r = r') : Ev f r' := e ▸ h
theorem Ev.r' {α : Type} {f g : Nat → Option α} {r r' : α} (h : Ev f r) (e1 : ∀ k, f k = g k) (e : r = r') : Ev g r' := by
  subst e; obtain ⟨K, h'⟩ := h
  exact ⟨K, fun k hk => by rw [← e1]; exact h' k hk⟩
theorem Ev.ex {α : Type} {f : Nat → Option α} {r : α} (h : Ev f r) : ∃ k, f k = some r := by
  obtain ⟨K, h'⟩ := h
  exact ⟨K, h' K (Nat.le_refl _)⟩
theorem drop_nil' {α : Type} {l : List α} {i : Nat} (h : l.drop i = []) : l.length ≤ i := List.drop_eq_nil_iff.1 h
theorem drop_cons' {α : Type} {l : List α} {i : Nat} {x : α} {t : List α} (h : l.drop i = x :: t) : i < l.length ∧ l.drop (i + 1) = t ∧ (∀ d, l.getD i d = x) ∧ l.length = i + 1 + t.length := by
  have hl := congrArg List.length h
  rw [List.length_drop, List.length_cons] at hl
  refine ⟨by omega, ?_, fun d => ?_, by omega⟩
  · rw [← List.drop_drop, h]; rfl
  · have : l[i]? = some x := by rw [← List.head?_drop, h]; rfl
    rw [List.getD_eq_getElem?_getD, this]; rfl
theorem w64 {x : Int} (h0 : -9223372036854775808 ≤ x) (h1 : x ≤ 9223372036854775807) : wrap64 x = x := by unfold wrap64; omega
theorem w64s {i n : Nat} (h : i < n) (hn : n ≤ 9223372036854775807) : wrap64 ((i : Int) + 1) = ((i + 1 : Nat) : Int) := by rw [w64 (by omega) (by omega)]; rfl
theorem maxLen_eq : maxLen = 9223372036854775807 := rfl
theorem wf64 {n : Int} (h : (Lit.int .i64 n).wf = true) : (-9223372036854775808 : Int) ≤ n ∧ n ≤ 9223372036854775807 := by
  simp [Lit.wf, IntKind.min, IntKind.max, IntKind.signed, IntKind.bits] at h
  exact h
theorem ob {α β : Type} {o : Option α} {a : α} {f : α → Option β} (h : o = some a) : o.bind f = f a := by subst h; rfl

def inB (n a b : Int) : Bool := decide (a ≤ n ∧ n ≤ b)
theorem within_eq (n a b : Int) : impl_within.f n a b = some (inB n a b) := by
  unfold impl_within.f inB; split <;> simp <;> omega
theorem l1In_eq (n a b : Int) : spec_l1In.f n a b = some (inB n a b) := by
  unfold spec_l1In.f inB; split <;> simp <;> omega
def vRow (a b c : Int) : Bool := inB a 0 9 && inB b 0 99 && inB c 0 3
theorem impl_IsValidRow_eq (a b c : Int) : impl_IsValidRow.f a b c = some (vRow a b c) := by
  unfold impl_IsValidRow.f vRow
  rw [within_eq, within_eq, within_eq, ob rfl]
  cases inB a 0 9
  · simp
  · rw [if_pos rfl, ob rfl]; cases inB b 0 99 <;> simp
theorem spec_IsValidRow_eq (a b c : Int) : spec_IsValidRow.f a b c = some (vRow a b c) := by
  unfold spec_IsValidRow.f vRow
  rw [l1In_eq, l1In_eq, l1In_eq, ob rfl]
  cases inB a 0 9
  · simp
  · rw [if_pos rfl, ob rfl]; cases inB b 0 99 <;> simp
def cRow (x : S40) : Int := if vRow x.f0 x.f1 x.f2 = true then 1 + x.f2 else 0
theorem cRow_b (x : S40) : 0 ≤ cRow x ∧ cRow x ≤ 4 := by
  unfold cRow
  by_cases h : vRow x.f0 x.f1 x.f2 = true
  · rw [if_pos h]; simp [vRow, inB] at h; omega
  · rw [if_neg h]; omega
theorem impl_RowCost_eq (x : S40) : impl_RowCost.f x.f0 x.f1 x.f2 = some (cRow x) := by
  unfold impl_RowCost.f cRow
  rw [impl_IsValidRow_eq, ob rfl]
  by_cases h : vRow x.f0 x.f1 x.f2 = true
  · rw [if_pos h, if_pos h]; simp [vRow, inB] at h; rw [w64 (by omega) (by omega)]
  · rw [if_neg h, if_neg h]
theorem spec_RowCost_eq (x : S40) : spec_RowCost.f x.f0 x.f1 x.f2 = some (cRow x) := by
  unfold spec_RowCost.f cRow
  rw [spec_IsValidRow_eq, ob rfl]
  by_cases h : vRow x.f0 x.f1 x.f2 = true
  · rw [if_pos h, if_pos h]; simp [vRow, inB] at h; rw [w64 (by omega) (by omega)]
  · rw [if_neg h, if_neg h]
def tCost (l : List S40) : Int := (l.map cRow).sum
theorem tCost_cons (x : S40) (l : List S40) : tCost (x :: l) = cRow x + tCost l := by simp [tCost]
theorem rdR (l : List S40) (i : Nat) : rd_T40 l (i : Int) = l.getD i z40 := rfl
theorem impl_TotalCost_l0 (l : List S40) (hl : l.length ≤ 1152921504606846975) : ∀ (s : List S40) (i : Nat) (acc : Int), l.drop i = s → 0 ≤ acc → acc ≤ 4 * i → Ev (fun k => impl_TotalCost.l0 k acc (l.length : Int) (i : Int) l) (acc + tCost s) := by
  intro s
  induction s with
  | nil =>
    intro i acc hd h0 h1
    have := drop_nil' hd
    exact Ev.s (fun k => by rw [impl_TotalCost.l0]) (Ev.e (by omega) (Ev.p.r (by simp [tCost])))
  | cons x t ih =>
    intro i acc hd h0 h1
    obtain ⟨hi, hd', hx, -⟩ := drop_cons' hd
    have := cRow_b x
    refine Ev.s (fun k => by rw [impl_TotalCost.l0]) (Ev.t (by omega) (Ev.t (by omega) (Ev.t (by omega) ?_)))
    rw [rdR, hx]
    refine Ev.b (Ev.c (impl_RowCost_eq x)) ?_
    rw [w64s hi (by omega), w64 (by omega) (by omega)]
    exact (ih (i + 1) (acc + cRow x) hd' (by omega) (by omega)).r (by rw [tCost_cons]; omega)
theorem impl_TotalCost_ev (l : List S40) (hl : l.length ≤ 1152921504606846975) : Ev (fun k => impl_TotalCost.f k l) (tCost l) :=
  Ev.u (fun _ => rfl) ((impl_TotalCost_l0 l hl l 0 0 rfl (by omega) (by omega)).r (by omega))
theorem spec_TotalCost_l0 (l : List S40) (hl : l.length ≤ 1152921504606846975) : ∀ (s : List S40) (i : Nat) (acc : Int), l.drop i = s → 0 ≤ acc → acc ≤ 4 * i → Ev (fun k => spec_TotalCost.l0 k acc (i : Int) l) (acc + tCost s) := by
  intro s
  induction s with
  | nil =>
    intro i acc hd h0 h1
    have := drop_nil' hd
    exact Ev.s (fun k => by rw [spec_TotalCost.l0]) (Ev.e (by omega) (Ev.p.r (by simp [tCost])))
  | cons x t ih =>
    intro i acc hd h0 h1
    obtain ⟨hi, hd', hx, -⟩ := drop_cons' hd
    have := cRow_b x
    refine Ev.s (fun k => by rw [spec_TotalCost.l0]) (Ev.t (by omega) (Ev.t (by omega) ?_))
    rw [rdR, hx]
    refine Ev.b (Ev.c (spec_RowCost_eq x)) ?_
    rw [w64s hi (by omega), w64 (by omega) (by omega)]
    exact (ih (i + 1) (acc + cRow x) hd' (by omega) (by omega)).r (by rw [tCost_cons]; omega)
theorem spec_TotalCost_ev (l : List S40) (hl : l.length ≤ 1152921504606846975) : Ev (fun k => spec_TotalCost.f k l) (tCost l) :=
  Ev.u (fun _ => rfl) ((spec_TotalCost_l0 l hl l 0 0 rfl (by omega) (by omega)).r (by omega))
def hBit (key level : Int) : Int := if inB level 0 3 && inB key 0 9 then andI (shrI (Int.tmod (key * 7) 16) level) 1 else 0
def hb (level : Int) (x : S40) : Bool := hBit x.f0 level == 0
theorem setP {α : Type} (pre : List α) (x y : α) (t : List α) : (pre ++ x :: t).set ((pre.length : Int)).toNat y = pre ++ y :: t := by
  rw [Int.toNat_natCast, List.set_append_right _ _ (Nat.le_refl _), Nat.sub_self]; rfl
theorem rdI (l : List Int) (i : Nat) : rdOf 0 l (i : Int) = l.getD i 0 := rfl
theorem eqRow_refl (x : S40) : laws_eqRow.f x.f0 x.f1 x.f2 x.f0 x.f1 x.f2 = some true := by
  unfold laws_eqRow.f; simp
theorem eqRowS_l0 (l : List S40) (hl : l.length ≤ 4611686018427387904) : ∀ (s : List S40) (i : Nat), l.drop i = s → Ev (fun f => laws_eqRowS.l0 f (i : Int) l l) true := by
  intro s
  induction s with
  | nil =>
    intro i hd
    have := drop_nil' hd
    exact Ev.s (fun f => by rw [laws_eqRowS.l0]) (Ev.e (by omega) (Ev.p.r (by rfl)))
  | cons x t ih =>
    intro i hd
    obtain ⟨hi, hd', hx, -⟩ := drop_cons' hd
    refine Ev.s (fun f => by rw [laws_eqRowS.l0]) (Ev.t (by omega) (Ev.t (by omega) (Ev.t (by omega) ?_)))
    rw [rdR, hx, w64s hi (by omega)]
    exact Ev.b (Ev.c (eqRow_refl _)) <| Ev.t rfl (ih (i + 1) hd')
theorem eqRowS_ev (l : List S40) (hl : l.length ≤ 4611686018427387904) : Ev (fun f => laws_eqRowS.f f l l) true :=
  Ev.u (fun _ => rfl) (Ev.t rfl (eqRowS_l0 l hl l 0 rfl))
theorem rdLRow (l : List S42) (i : Nat) : rd_T42 l (i : Int) = l.getD i z42 := rfl
def cvRow (x : S42) : S40 := ⟨x.f0, x.f1, x.f2⟩
theorem toRow_eq (x : S42) : laws_toRow.f x.f0 x.f1 x.f2 = some (x.f0, x.f1, x.f2) := by unfold laws_toRow.f; rfl
theorem toRowS_l0 (l : List S42) (hl : l.length ≤ 4611686018427387904) : ∀ (s : List S42) (r pre : List S40), l.drop pre.length = s → r.length = s.length → Ev (fun f => laws_toRowS.l0 f (pre ++ r) (pre.length : Int) l) (pre ++ s.map cvRow) := by
  intro s
  induction s with
  | nil =>
    intro r pre hd hr
    have := drop_nil' hd
    have : r = [] := List.eq_nil_of_length_eq_zero hr
    subst this
    exact Ev.s (fun f => by rw [laws_toRowS.l0]) (Ev.e (by omega) (Ev.p.r (by simp)))
  | cons x t ih =>
    intro r pre hd hr
    obtain ⟨hi, hd', hx, -⟩ := drop_cons' hd
    cases r with
    | nil => simp at hr
    | cons y r =>
      refine Ev.s (fun f => by rw [laws_toRowS.l0]) (Ev.t (by omega) (Ev.t (by omega) ?_))
      rw [rdLRow, hx, w64s hi (by omega)]
      refine Ev.b (Ev.c (toRow_eq x)) (Ev.t (by simp; omega) (Ev.b (Ev.c (congrArg some (setP pre _ _ r))) ?_))
      have h := ih r (pre ++ [cvRow x]) (by rw [List.length_append, List.length_singleton]; exact hd') (by simpa using hr)
      simp only [List.append_assoc, List.singleton_append, List.length_append, List.length_singleton] at h
      exact h.r (by simp)
theorem toRowS_ev (l : List S42) (hl : l.length ≤ 1048576) : Ev (fun f => laws_toRowS.f f l) (l.map cvRow) := by
  refine Ev.u (fun _ => rfl) (Ev.t (by omega) (Ev.t (by simp; omega) ?_))
  have h := toRowS_l0 l (by omega) l (List.replicate l.length z40) [] rfl (by simp)
  simpa using h
theorem szRowS_neg (l : List S42) (n : Int) (h0 : 0 ≤ n) (h1 : n ≤ 1048576) (hl : l.length ≤ maxLen) (h : n - l.length < 0) : laws_szRowS.f l n = some (-1) := by
  have hl' : l.length ≤ 9223372036854775807 := hl
  unfold laws_szRowS.f
  rw [w64 (by omega) (by omega), if_pos h]
theorem szRowS_pos (l : List S42) (n : Int) (h0 : 0 ≤ n) (h1 : n ≤ 1048576) (h : ¬ n - l.length < 0) : laws_szRowS.f l n = some (n - l.length) := by
  unfold laws_szRowS.f
  rw [w64 (by omega) (by omega), if_neg h]
def dk (acc : List Int) : List S40 → List Int
  | [] => acc
  | x :: s => dk (if acc.contains x.f0 = true then acc else acc ++ [x.f0]) s
theorem mGet_set {β : Type} : ∀ (m : List (Int × β)) (q : Int) (v : β) (z : Int), mGet (mSet m q v) z = bif q == z then some v else mGet m z
  | [], q, v, z => by
    cases h : q == z <;> simp only [mSet, mGet, h, cond_true, cond_false]
  | p :: r, q, v, z => by
    have ih := mGet_set r q v z
    cases hq : p.1 == q
    · cases h : p.1 == z
      · simp only [mSet, mGet, hq, h, cond_false, ih]
      · have e : (q == z) = false := by
          rw [beq_eq_false_iff_ne] at hq ⊢
          rw [beq_iff_eq] at h
          omega
        simp only [mSet, mGet, hq, h, cond_true, cond_false, e]
    · rw [beq_iff_eq] at hq
      cases h : q == z
      · simp only [mSet, mGet, hq, h, beq_self_eq_true, cond_true, cond_false]
      · simp only [mSet, mGet, hq, h, beq_self_eq_true, cond_true]
theorem impl_DistinctKeys_l0 (l : List S40) (hl : l.length ≤ 1099511627776) : ∀ (s : List S40) (i : Nat) (acc : List Int) (m : List (Int × Bool)), l.drop i = s → acc.length ≤ i → (∀ q, (mGet m q).getD false = acc.contains q) → Ev (fun k => impl_DistinctKeys.l0 k acc m (l.length : Int) (i : Int) l) (dk acc s) := by
  intro s
  induction s with
  | nil =>
    intro i acc m hd ha hm
    have := drop_nil' hd
    exact Ev.s (fun k => by rw [impl_DistinctKeys.l0]) (Ev.e (by omega) (Ev.p.r (by rfl)))
  | cons x t ih =>
    intro i acc m hd ha hm
    obtain ⟨hi, hd', hx, -⟩ := drop_cons' hd
    refine Ev.s (fun k => by rw [impl_DistinctKeys.l0]) (Ev.t (by omega) (Ev.t (by omega) (Ev.t (by omega) ?_)))
    rw [rdR, hx, w64s hi (by omega), hm, dk]
    refine Ev.i (fun h => ?_) (fun h => Ev.t (by omega) ?_)
    · rw [if_pos h]; exact ih (i + 1) acc m hd' (by omega) hm
    · rw [if_neg h]
      refine ih (i + 1) (acc ++ [x.f0]) (mSet m x.f0 true) hd' (by simp; omega) (fun q => ?_)
      rw [mGet_set]
      by_cases hq : x.f0 = q
      · simp [hq]
      · have : ¬ q = x.f0 := by omega
        rw [beq_eq_false_iff_ne.2 hq, cond_false, hm q]; simp [this]
theorem impl_DistinctKeys_ev (l : List S40) (hl : l.length ≤ 1099511627776) : Ev (fun k => impl_DistinctKeys.f k l) (dk [] l) :=
  Ev.u (fun _ => rfl) (impl_DistinctKeys_l0 l hl l 0 [] [] rfl (by simp) (fun q => by simp [mGet]))
theorem spec_DistinctKeys_l1 (l : List S40) (hl : l.length ≤ 1099511627776) (acc : List Int) (ha : acc.length ≤ 1099511627776) (i : Nat) (hi : i < l.length) (x : S40) (hx : ∀ d, l.getD i d = x) (r : List Int) : ∀ (s : List Int) (j : Nat) (b : Bool), acc.drop j = s → j ≤ acc.length →
    Ev (fun k => spec_DistinctKeys.l0 k (if (b || s.contains x.f0) = true then acc else acc ++ [x.f0]) ((i + 1 : Nat) : Int) l) r → Ev (fun k => spec_DistinctKeys.l1 k acc (i : Int) b (j : Int) l) r := by
  intro s
  induction s with
  | nil =>
    intro j b hd hj h
    have := drop_nil' hd
    refine Ev.s (fun k => by rw [spec_DistinctKeys.l1]) (Ev.e (by omega) ?_)
    rw [w64s hi (by omega)]
    refine Ev.i (fun hb => ?_) (fun hb => Ev.t (by omega) (Ev.t (by omega) (Ev.t (by omega) ?_)))
    · simpa [hb] using h
    · rw [rdR, hx]
      simpa [hb] using h
  | cons y t ih =>
    intro j b hd hj h
    obtain ⟨hj', hd', hy, -⟩ := drop_cons' hd
    refine Ev.s (fun k => by rw [spec_DistinctKeys.l1]) (Ev.t (by omega) ?_)
    rw [w64s hj' (by omega)]
    refine Ev.i (fun hb => ?_) (fun hb => Ev.t (by omega) (Ev.t (by omega) (Ev.t (by omega) ?_)))
    · exact ih (j + 1) true hd' (by omega) (by simpa [hb] using h)
    · rw [rdR, hx, rdI, hy]
      have hb' : b = false := by simpa using hb
      subst hb'
      refine ih (j + 1) _ hd' (by omega) ?_
      have e : (decide (y = x.f0) || t.contains x.f0) = (false || (y :: t).contains x.f0) := by
        rw [List.contains_cons, Bool.false_or]
        congr 1
        by_cases hxy : y = x.f0
        · simp [hxy]
        · have : ¬ x.f0 = y := fun h => hxy h.symm
          simp [hxy, this]
      rw [e]; exact h
theorem spec_DistinctKeys_l0 (l : List S40) (hl : l.length ≤ 1099511627776) : ∀ (s : List S40) (i : Nat) (acc : List Int), l.drop i = s → acc.length ≤ i → Ev (fun k => spec_DistinctKeys.l0 k acc (i : Int) l) (dk acc s) := by
  intro s
  induction s with
  | nil =>
    intro i acc hd ha
    have := drop_nil' hd
    exact Ev.s (fun k => by rw [spec_DistinctKeys.l0]) (Ev.e (by omega) (Ev.p.r (by rfl)))
  | cons x t ih =>
    intro i acc hd ha
    obtain ⟨hi, hd', hx, -⟩ := drop_cons' hd
    refine Ev.s (fun k => by rw [spec_DistinctKeys.l0]) (Ev.t (by omega) ?_)
    refine spec_DistinctKeys_l1 l hl acc (by omega) i hi x hx _ acc 0 false rfl (by omega) ?_
    rw [dk, Bool.false_or]
    exact ih (i + 1) _ hd' (by split <;> (try simp only [List.length_append, List.length_cons, List.length_nil]) <;> omega)
theorem spec_DistinctKeys_ev (l : List S40) (hl : l.length ≤ 1099511627776) : Ev (fun k => spec_DistinctKeys.f k l) (dk [] l) :=
  Ev.u (fun _ => rfl) (spec_DistinctKeys_l0 l hl l 0 [] rfl (by simp))

def gwb (l : List S40) : Int := wrap64 (tCost l * (wrap64 ((wrap64 (Int.tdiv ((dk [] l).length : Int) 2)) + 1)))
theorem spec_GroupWriteBound_ev (l : List S40) (hl : l.length ≤ 1048576) : Ev (fun k => spec_GroupWriteBound.f k l) (gwb l) :=
  Ev.u (fun _ => rfl) (Ev.b (spec_TotalCost_ev l (by omega)) (Ev.b (spec_DistinctKeys_ev l (by omega)) Ev.p))
theorem impl_GroupWriteBound_ev (l : List S40) (hl : l.length ≤ 1048576) : Ev (fun k => impl_GroupWriteBound.f k l) (gwb l) := by
  refine Ev.u (fun _ => rfl) (Ev.b (impl_TotalCost_ev l (by omega)) (Ev.b (impl_DistinctKeys_ev l (by omega)) ?_))
  unfold gwb
  rw [Int.add_comm 1]
  exact Ev.p
theorem pure_FnExactGroupWriteBound (l0 : List S42) (G0 : (l0.length ≤ maxLen ∧ ∀ y ∈ l0, good42 y)) : ∃ k, laws_FnExactGroupWriteBound.f k l0 = some true := by
  have g1 := G0.1
  refine Ev.ex ?_
  by_cases s1 : (1048576 : Int) - l0.length < 0
  · exact Ev.u (fun _ => rfl) (Ev.b (Ev.c (szRowS_neg l0 _ (by omega) (by omega) g1 s1)) (Ev.t (by omega) Ev.p))
  refine Ev.u (fun _ => rfl) (Ev.b (Ev.c (szRowS_pos l0 _ (by omega) (by omega) s1)) (Ev.e s1 ?_))
  have t1 := toRowS_ev l0 (by omega)
  have n1 : (l0.map cvRow).length ≤ 1048576 := by rw [List.length_map]; omega
  generalize l0.map cvRow = A at *
  have es := spec_GroupWriteBound_ev A (by omega)
  have ei := impl_GroupWriteBound_ev A (by omega)
  generalize gwb A = J at *
  have qa := eqRowS_ev A (by omega)
  exact Ev.b t1 (Ev.b es (Ev.b t1 (Ev.b ei (Ev.t rfl (Ev.b t1 (Ev.b qa (Ev.t rfl Ev.p)))))))

end Go.Proofs.Ytpjejhgpnnclfaa.K
namespace Go.Proofs.Ytpjejhgpnnclfaa.fnExactGroupWriteBound
open Go Go.ChangeShapes Go.WideShapes Go.ChangeAt Go.RowKit Go.Proofs.Ytpjejhgpnnclfaa.K
open Go.ChangeMaps (open_string shut_string)
set_option linter.unusedVariables false
theorem own : ownKnob Try.prog.godebug = none := by kernel_rfl
theorem laidOut : laidOutB Try.prog = true := by kernel_rfl
set_option maxRecDepth 100000 in
theorem lifted (os : Os) (started : os.Started) (H : Type) (enc : TypeId × Value → H) :
    ReturnsInHanded {} Try.checked os 8 .any (Rows.fnExactGroupWriteBoundSpec.pre6 enc Try.prog Try.f8 Rows.fnExactGroupWriteBoundRow.domain false) (Rows.fnExactGroupWriteBoundSpec.post enc Try.prog Try.f8 false true false false) := by
  refine returnsInHanded_of_change_sized (C := Try.checked) own started (by kernel_rfl) Try.func8
    (ChangeSpec.witness6 (enc := enc) (C := Try.checked) false ⟨#[], #[.slice none 0 0], []⟩ 8 (by kernel_rfl) (by kernel_rfl) (by kernel_rfl) (by kernel_rfl)) ?_
  intro W base args ds gs before hval0 hW hcnd hsz0 _
  have hsz : (DataW.weightsEach Try.prog (Try.f8.params.toList ++ Rows.fnExactGroupWriteBoundSpec.plain.varTypes Try.prog) (ds ++ gs)).all (· ≤ reachBytes) = true := hsz0
  have hval : ∀ (j : Nat) t v, Try.f8.params[j]? = some t → args[j]? = some v → Value.okWide Try.prog W .any base t v := hval0
  have hW' := hW
  obtain ⟨p, q, hA0, hV, rfl, hfz, hnd⟩ := hW
  have hA : DataW.TrodAll enc Try.prog W 0 (fun _ => true) true Try.f8.params.toList args.toList ds p := hA0
  rw [Try.params8] at hA hval hsz
  obtain ⟨v0, vs0, d0, ds0, p0, q0, hargs, rfl, rfl, h0, r0⟩ := trodAll_cons hA
  obtain ⟨rfl, rfl, rfl⟩ := trodAll_nil r0
  obtain rfl : args = #[v0] := by cases args; simp_all
  obtain ⟨rfl, rfl⟩ := trodVars_none hV
  have k0 := h0
  have lt0 : ∀ x ∈ p0, x.block < W.heap.size := by obtain ⟨m, hm⟩ := k0; exact DataW.trod_lt m _ _ _ hm
  obtain ⟨A0, len0, c0, rfl⟩ := okWide_slice Try.underlying27 (hval 0 27 v0 rfl rfl)
  obtain ⟨l0, rfl, F0, G0⟩ := slice_arg (opens_slice Try.underlying27 (by kernel_rfl) (by kernel_rfl) open42) h0
  clear hA0 hval0 hsz0 hsz
  obtain ⟨k, hk⟩ := K.pure_FnExactGroupWriteBound l0 G0
  refine (law_calls (laws_FnExactGroupWriteBound.ok k l0 A0 c0 true hk) (facts_app F0 facts_nil)).mono fun e W' he => ?_
  obtain ⟨rfl, bel⟩ := he
  exact ⟨_, rfl, _, _, _, [], _, [], hW', trodAll_mk1 (shut_bool Try.underlying4 _), (trodAll_cons_mk (Below.trod laidOut (by kernel_rfl) (of_decide_eq_true (by kernel_rfl)) k0 bel lt0) trodAll_mk0), rfl, bel.frame _, fun h => by cases h⟩
theorem over : Rows.fnExactGroupWriteBoundRow.holds Try.pinned (OpenSpec.ofChange Rows.fnExactGroupWriteBoundSpec) :=
  OpenClaim.holds_of_wide 8 Try.f8 rfl rfl rfl rfl rfl rfl rfl ⟨rfl, rfl, rfl, rfl, rfl⟩ rfl rfl rfl rfl rfl (by kernel_rfl) Try.func8 (by kernel_rfl)
    (of_decide_eq_true (by kernel_rfl)) (by unfold Func.isWrapper; first | (rw [if_pos (by decide +kernel)]; kernel_rfl) | (rw [if_neg (by decide +kernel)]; exact ⟨rfl, rfl⟩))
    (fun os started H enc _ => lifted os started H enc)
theorem proved : Rows.FnExactGroupWriteBoundSaid := over
#print axioms proved
end Go.Proofs.Ytpjejhgpnnclfaa.fnExactGroupWriteBound
namespace Go.Proofs.Ytpjejhgpnnclfaa
/-- The row, under a short name, for the claim. -/
theorem fnExactGroupWriteBound_holds : Rows.FnExactGroupWriteBoundSaid := fnExactGroupWriteBound.proved
end Go.Proofs.Ytpjejhgpnnclfaa
