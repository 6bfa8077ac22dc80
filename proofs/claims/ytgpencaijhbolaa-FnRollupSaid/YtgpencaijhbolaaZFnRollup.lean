/- FnRollup answers true at every input. -/
import Derived.Below
import Derived.Carry
import Derived.ChangeOld
import Derived.OpenShut
import Derived.ProofKit
import Derived.ShutString
import Derived.SizedLaws
import Derived.Test.YtgpencaijhbolaaChecked
import Derived.Test.YtgpencaijhbolaaRows
import Derived.WalkKit
import Derived.Test.YtgpencaijhbolaaVFnRollupb
namespace Go.Proofs.Ytgpencaijhbolaa.K
open Go Go.RowKit
set_option linter.unusedVariables false
set_option linter.unusedSimpArgs false
def Ev {α : Type} (f : Nat → Option α) (r : α) : Prop := ∃ K, ∀ k, K ≤ k → f k = some r
theorem Ev.p {α : Type} {r : α} : Ev (fun _ => some r) r := ⟨0, fun _ _ => rfl⟩
theorem Ev.c {α : Type} {o : Option α} {r : α} (h : o = some r) : Ev (fun _ => o) r := ⟨0, fun _ _ => h⟩
theorem Ev.b {α β : Type} {f : Nat → Option α} {g : Nat → α → Option β} {a : α} {r : β} (hf : Ev f a) (hg : Ev (fun k => g k a) r) : Ev (fun k => (f k).bind (g k)) r := by
  obtain ⟨K, h⟩ := hf; obtain ⟨L, h'⟩ := hg
  exact ⟨max K L, fun k hk => by show (f k).bind (g k) = some r; rw [h k (by omega)]; exact h' k (by omega)⟩
theorem Ev.t {α : Type} {p : Prop} [Decidable p] {f g : Nat → Option α} {r : α} (h : p) (hf : Ev f r) : Ev (fun k => if p then f k else g k) r := by
  obtain ⟨K, h'⟩ := hf
  exact ⟨K, fun k hk => by show (if p then f k else g k) = some r; rw [if_pos h]; exact h' k hk⟩
theorem Ev.e {α : Type} {p : Prop} [Decidable p] {f g : Nat → Option α} {r : α} (h : ¬ p) (hg : Ev g r) : Ev (fun k => if p then f k else g k) r := by
  obtain ⟨K, h'⟩ := hg
  exact ⟨K, fun k hk => by show (if p then f k else g k) = some r; rw [if_neg h]; exact h' k hk⟩
theorem Ev.i {α : Type} {p : Prop} [Decidable p] {f g : Nat → Option α} {r : α} (hf : p → Ev f r) (hg : ¬ p → Ev g r) : Ev (fun k => if p then f k else g k) r := by
  by_cases h : p
  · exact Ev.t h (hf h)
  · exact Ev.e h (hg h)
theorem Ev.s {α : Type} {L f : Nat → Option α} {r : α} (h : ∀ k, L (k + 1) = f k) (hf : Ev f r) : Ev L r := by
  obtain ⟨K, h'⟩ := hf
  refine ⟨K + 1, fun k hk => ?_⟩
  obtain ⟨m, rfl⟩ : ∃ m, k = m + 1 := ⟨k - 1, by omega⟩
  rw [h]; exact h' m (by omega)
theorem Ev.u {α : Type} {L f : Nat → Option α} {r : α} (h : ∀ k, L k = f k) (hf : Ev f r) : Ev L r := by
  obtain ⟨K, h'⟩ := hf
  exact ⟨K, fun k hk => by rw [h]; exact h' k hk⟩
theorem Ev.r {α : Type} {f : Nat → Option α} {r r' : α} (h : Ev f r) (e : r = r') : Ev f r' := e ▸ h
theorem Ev.r' {α : Type} {f g : Nat → Option α} {r r' : α} (h : Ev f r) (e1 : ∀ k, f k = g k) (e : r = r') : Ev g r' := by
  subst e; obtain ⟨K, h'⟩ := h
  exact ⟨K, fun k hk => by rw [← e1]; exact h' k hk⟩
theorem Ev.ex {α : Type} {f : Nat → Option α} {r : α} (h : Ev f r) : ∃ k, f k = some r := by
  obtain ⟨K, h'⟩ := h
  exact ⟨K, h' K (Nat.le_refl _)⟩
theorem drop_nil' {α : Type} {l : List α} {i : Nat} (h : l.drop i = []) : l.length ≤ i := List.drop_eq_nil_iff.1 h
theorem drop_cons' {α : Type} {l : List α} {i : Nat} {x : α} {t : List α} (h : l.drop i = x :: t) : i < l.length ∧ l.drop (i + 1) = t ∧ (∀ d, l.getD i d = x) ∧ l.length = i + 1 + t.length := by
  have hl := congrArg List.length h
  rw [List.length_drop, List.length_cons] at hl
  refine ⟨by omega, ?_, fun d => ?_, by omega⟩
  · rw [← List.drop_drop, h]; rfl
  · have : l[i]? = some x := by rw [← List.head?_drop, h]; rfl
    rw [List.getD_eq_getElem?_getD, this]; rfl
theorem w64 {x : Int} (h0 : -9223372036854775808 ≤ x) (h1 : x ≤ 9223372036854775807) : wrap64 x = x := by unfold wrap64; omega
theorem w64s {i n : Nat} (h : i < n) (hn : n ≤ 9223372036854775807) : wrap64 ((i : Int) + 1) = ((i + 1 : Nat) : Int) := by rw [w64 (by omega) (by omega)]; rfl
theorem maxLen_eq : maxLen = 9223372036854775807 := rfl
theorem wf64 {n : Int} (h : (Lit.int .i64 n).wf = true) : (-9223372036854775808 : Int) ≤ n ∧ n ≤ 9223372036854775807 := by
  simp [Lit.wf, IntKind.min, IntKind.max, IntKind.signed, IntKind.bits] at h
  exact h
theorem ob {α β : Type} {o : Option α} {a : α} {f : α → Option β} (h : o = some a) : o.bind f = f a := by subst h; rfl

def inB (n a b : Int) : Bool := decide (a ≤ n ∧ n ≤ b)
def vRow (a b c : Int) : Bool := inB a 0 9 && inB b 0 99 && inB c 0 3
theorem rdR (l : List S75) (i : Nat) : rd_T75 l (i : Int) = l.getD i z75 := rfl
def vAll (l : List S75) : Bool := l.all fun x => vRow x.f0 x.f1 x.f2
def hBit (key level : Int) : Int := if inB level 0 3 && inB key 0 9 then andI (shrI (Int.tmod (key * 7) 16) level) 1 else 0
def hb (level : Int) (x : S75) : Bool := hBit x.f0 level == 0
theorem setP {α : Type} (pre : List α) (x y : α) (t : List α) : (pre ++ x :: t).set ((pre.length : Int)).toNat y = pre ++ y :: t := by
  rw [Int.toNat_natCast, List.set_append_right _ _ (Nat.le_refl _), Nat.sub_self]; rfl
theorem getP {α : Type} (pre : List α) (x d : α) (t : List α) : (pre ++ x :: t).getD ((pre.length : Int)).toNat d = x := by
  rw [Int.toNat_natCast, List.getD_eq_getElem?_getD, List.getElem?_append_right (Nat.le_refl _), Nat.sub_self]; rfl
theorem rdI (l : List Int) (i : Nat) : rdOf 0 l (i : Int) = l.getD i 0 := rfl
theorem rdPGroup (pre : List S49) (x : S49) (t : List S49) : rd_T49 (pre ++ x :: t) (pre.length : Int) = x := getP pre x z49 t
def dk (acc : List Int) : List S75 → List Int
  | [] => acc
  | x :: s => dk (if acc.contains x.f0 = true then acc else acc ++ [x.f0]) s
theorem dk_len : ∀ (s : List S75) (acc : List Int), (dk acc s).length ≤ acc.length + s.length
  | [], acc => by simp [dk]
  | x :: s, acc => by
    rw [dk]
    refine Nat.le_trans (dk_len s _) ?_
    split <;> simp <;> omega
theorem mGet_set {β : Type} : ∀ (m : List (Int × β)) (q : Int) (v : β) (z : Int), mGet (mSet m q v) z = bif q == z then some v else mGet m z
  | [], q, v, z => by
    cases h : q == z <;> simp only [mSet, mGet, h, cond_true, cond_false]
  | p :: r, q, v, z => by
    have ih := mGet_set r q v z
    cases hq : p.1 == q
    · cases h : p.1 == z
      · simp only [mSet, mGet, hq, h, cond_false, ih]
      · have e : (q == z) = false := by
          rw [beq_eq_false_iff_ne] at hq ⊢
          rw [beq_iff_eq] at h
          omega
        simp only [mSet, mGet, hq, h, cond_true, cond_false, e]
    · rw [beq_iff_eq] at hq
      cases h : q == z
      · simp only [mSet, mGet, hq, h, beq_self_eq_true, cond_true, cond_false]
      · simp only [mSet, mGet, hq, h, beq_self_eq_true, cond_true]
theorem rdG (l : List S49) (i : Nat) : rd_T49 l (i : Int) = l.getD i z49 := rfl
def comb (h g : S49) : S49 := ⟨h.f0, wrap64 (h.f1 + g.f1), wrap64 (h.f2 + g.f2), mn h.f3 g.f3, mx h.f4 g.f4⟩
def ins (g : S49) : List S49 → List S49
  | [] => [g]
  | h :: t => if h.f0 < g.f0 then h :: ins g t else if h.f0 = g.f0 then comb h g :: t else g :: h :: t
def mgs (acc : List S49) (l : List S49) : List S49 := l.foldl (fun a g => ins g a) acc
def upd (g : S49) : List S49 → List S49
  | [] => [g]
  | h :: t => if h.f0 = g.f0 then comb h g :: t else h :: upd g t
def upds (acc : List S49) (l : List S49) : List S49 := l.foldl (fun a g => upd g a) acc
theorem ins_len (g : S49) : ∀ l, (ins g l).length ≤ l.length + 1
  | [] => by simp [ins]
  | h :: t => by
    have := ins_len g t
    rw [ins]; split
    · simp only [List.length_cons]; omega
    · split <;> simp
theorem upd_len (g : S49) : ∀ l, (upd g l).length ≤ l.length + 1
  | [] => by simp [upd]
  | h :: t => by
    have := upd_len g t
    rw [upd]; split <;> simp only [List.length_cons] <;> omega
theorem impl_CombineGroups_eq (h g : S49) (e : h.f0 = g.f0) : impl_CombineGroups.f h.f0 h.f1 h.f2 h.f3 h.f4 g.f0 g.f1 g.f2 g.f3 g.f4 = some ((comb h g).f0, (comb h g).f1, (comb h g).f2, (comb h g).f3, (comb h g).f4) := by
  unfold impl_CombineGroups.f; rw [if_pos e]; rfl
theorem spec_CombineGroups_eq (h g : S49) (e : h.f0 = g.f0) : spec_CombineGroups.f h.f0 h.f1 h.f2 h.f3 h.f4 g.f0 g.f1 g.f2 g.f3 g.f4 = some ((comb h g).f0, (comb h g).f1, (comb h g).f2, (comb h g).f3, (comb h g).f4) := by
  unfold spec_CombineGroups.f; rw [if_pos e]; rfl
theorem spec_MergeGroups_l1 (l : List S49) (hl : l.length ≤ 1099511627776) (i : Nat) (hi : i < l.length) (g : S49) (hg : ∀ d, l.getD i d = g) (r : List S49) : ∀ (s pre : List S49), pre.length + s.length ≤ 1099511627776 →
    Ev (fun k => spec_MergeGroups.l0 k (pre ++ ins g s) ((i + 1 : Nat) : Int) l) r → Ev (fun k => spec_MergeGroups.l1 k (pre ++ s) (i : Int) (pre.length : Int) l) r := by
  have J1 : ∀ (s pre : List S49), pre.length + s.length ≤ 1099511627776 → Ev (fun k => spec_MergeGroups.l0 k (pre ++ g :: s) ((i + 1 : Nat) : Int) l) r → Ev (fun k => spec_MergeGroups.j1 k (pre ++ s) (i : Int) (pre.length : Int) l) r := by
    intro s pre hp h
    refine Ev.s (fun k => by rw [spec_MergeGroups.j1]) (Ev.t (by omega) (Ev.t (by omega) (Ev.t (by omega) (Ev.t (by rw [List.length_append]; omega) ?_))))
    have e1 : (pre ++ s).take (pre.length : Int).toNat = pre := by simp
    have e2 : (pre ++ s).drop (pre.length : Int).toNat = s := by simp
    rw [e1, e2, rdG, hg, w64s hi (by omega)]
    refine Ev.t (by simp; omega) (Ev.t (by omega) (Ev.t (by simp; omega) ?_))
    exact h
  intro s
  induction s with
  | nil =>
    intro pre hp h
    rw [ins] at h
    refine Ev.s (fun k => by rw [spec_MergeGroups.l1]) (Ev.e (by simp) ?_)
    refine Ev.s (fun k => by rw [spec_MergeGroups.j0]) (Ev.e (by simp) ?_)
    exact J1 [] pre hp h
  | cons x t ih =>
    intro pre hp h
    rw [List.length_cons] at hp
    rw [ins] at h
    have hlt : pre.length < (pre ++ x :: t).length := by simp
    refine Ev.s (fun k => by rw [spec_MergeGroups.l1]) (Ev.t (by simp; omega) (Ev.t (by omega) (Ev.t (by omega) (Ev.t (by omega) ?_))))
    rw [rdG l i, hg, rdPGroup]
    refine Ev.i (fun q => ?_) (fun q => ?_)
    · rw [if_pos q] at h
      rw [show wrap64 ((pre.length : Int) + 1) = ((pre.length + 1 : Nat) : Int) by rw [w64 (by omega) (by omega)]; rfl]
      have := ih (pre ++ [x]) (by simp; omega) (by simpa using h)
      simpa using this
    · rw [if_neg q] at h
      refine Ev.s (fun k => by rw [spec_MergeGroups.j0]) (Ev.t (by simp; omega) (Ev.t (by omega) (Ev.t (by omega) (Ev.t (by omega) ?_))))
      rw [rdG l i, hg, rdPGroup, w64s hi (by omega)]
      refine Ev.i (fun q2 => ?_) (fun q2 => ?_)
      · rw [if_pos q2] at h
        exact Ev.b (Ev.c (spec_CombineGroups_eq x g q2)) (Ev.b (Ev.c (congrArg some (setP pre x (comb x g) t))) h)
      · rw [if_neg q2] at h
        exact J1 (x :: t) pre (by rw [List.length_cons]; omega) h
theorem spec_MergeGroups_l0 (l : List S49) (hl : l.length ≤ 1099511627776) : ∀ (s : List S49) (i : Nat) (acc : List S49), l.drop i = s → acc.length ≤ i → Ev (fun k => spec_MergeGroups.l0 k acc (i : Int) l) (mgs acc s) := by
  intro s
  induction s with
  | nil =>
    intro i acc hd ha
    have := drop_nil' hd
    exact Ev.s (fun k => by rw [spec_MergeGroups.l0]) (Ev.e (by omega) (Ev.p.r (by rfl)))
  | cons x t ih =>
    intro i acc hd ha
    obtain ⟨hi, hd', hx, -⟩ := drop_cons' hd
    refine Ev.s (fun k => by rw [spec_MergeGroups.l0]) (Ev.t (by omega) ?_)
    have := ins_len x acc
    have h := spec_MergeGroups_l1 l hl i hi x hx (mgs acc (x :: t)) acc [] (by simp; omega) (ih (i + 1) (ins x acc) hd' (by omega))
    exact h
theorem spec_MergeGroups_ev (l : List S49) (hl : l.length ≤ 1099511627776) : Ev (fun k => spec_MergeGroups.f k l) (mgs [] l) :=
  Ev.u (fun _ => rfl) (spec_MergeGroups_l0 l hl l 0 [] rfl (by simp))

def idx (q : Int) : List S49 → Option Int
  | [] => none
  | h :: t => if h.f0 = q then some 0 else (idx q t).map (· + 1)
theorem upd_cases (g : S49) : ∀ acc : List S49,
    (∃ pre h t, acc = pre ++ h :: t ∧ h.f0 = g.f0 ∧ idx g.f0 acc = some (pre.length : Int) ∧ upd g acc = pre ++ comb h g :: t ∧ ∀ z, idx z (upd g acc) = idx z acc) ∨
    (idx g.f0 acc = none ∧ upd g acc = acc ++ [g] ∧ ∀ z, idx z (upd g acc) = if z = g.f0 then some (acc.length : Int) else idx z acc)
  | [] => .inr ⟨rfl, rfl, fun z => by
      by_cases h : z = g.f0
      · simp [upd, idx, h]
      · have : ¬ g.f0 = z := fun e => h e.symm
        simp [upd, idx, h, this]⟩
  | h :: t => by
    by_cases e : h.f0 = g.f0
    · refine .inl ⟨[], h, t, rfl, e, by simp [idx, e], by simp [upd, e], fun z => ?_⟩
      simp only [upd, if_pos e]
      rfl
    · rcases upd_cases g t with ⟨pre, h', t', h1, h2, h3, h4, h5⟩ | ⟨h1, h2, h3⟩
      · refine .inl ⟨h :: pre, h', t', by rw [h1]; rfl, h2, ?_, ?_, fun z => ?_⟩
        · simp only [idx, if_neg e, h3, Option.map_some, List.length_cons]; rfl
        · simp only [upd, if_neg e, h4]; rfl
        · simp only [upd, if_neg e, idx, h5]
      · refine .inr ⟨by simp only [idx, if_neg e, h1, Option.map_none], by simp only [upd, if_neg e, h2]; rfl, fun z => ?_⟩
        simp only [upd, if_neg e, idx, h3]
        by_cases hz : z = g.f0
        · have : ¬ h.f0 = z := fun k => e (k.trans hz)
          simp only [if_pos hz, if_neg this, Option.map_some, List.length_cons]; rfl
        · simp only [if_neg hz]
theorem impl_MergeGroups_l0 (l : List S49) (hl : l.length ≤ 1099511627776) (r : List S49) : ∀ (s : List S49) (i : Nat) (acc : List S49) (m : List (Int × Int)), l.drop i = s → acc.length ≤ i → (∀ q, mGet m q = idx q acc) →
    Ev (fun k => slices_SortFunc_impl_Group_impl_Group_at83.f k (upds acc s)) r → Ev (fun k => impl_MergeGroups.l0 k acc m (l.length : Int) (i : Int) l) r := by
  intro s
  induction s with
  | nil =>
    intro i acc m hd ha hm h
    have := drop_nil' hd
    refine Ev.s (fun k => by rw [impl_MergeGroups.l0]) (Ev.e (by omega) ?_)
    exact Ev.b h Ev.p
  | cons x t ih =>
    intro i acc m hd ha hm h
    obtain ⟨hi, hd', hx, -⟩ := drop_cons' hd
    have hu : upds acc (x :: t) = upds (upd x acc) t := rfl
    rw [hu] at h
    refine Ev.s (fun k => by rw [impl_MergeGroups.l0]) (Ev.t (by omega) (Ev.t (by omega) (Ev.t (by omega) ?_)))
    rw [rdG l i, hx, w64s hi (by omega), hm x.f0]
    rcases upd_cases x acc with ⟨pre, h', t', h1, h2, h3, h4, h5⟩ | ⟨h1, h2, h3⟩
    · have hla : (acc.length : Int) = pre.length + t'.length + 1 := by rw [h1]; simp; omega
      rw [h3]
      refine Ev.t rfl (Ev.t (by simp) (Ev.t (by simp only [Option.getD_some]; omega) ?_))
      simp only [Option.getD_some]
      rw [h1, rdPGroup]
      refine Ev.b (Ev.c (impl_CombineGroups_eq h' x h2)) (Ev.b (Ev.c (congrArg some (setP pre h' (comb h' x) t'))) ?_)
      have e := ih (i + 1) (upd x acc) m hd' (by have := upd_len x acc; omega) (fun q => by rw [h5]; exact hm q) h
      rw [h4] at e
      exact e
    · rw [h1]
      refine Ev.e (by simp) (Ev.t (by omega) ?_)
      have e := ih (i + 1) (upd x acc) (mSet m x.f0 (acc.length : Int)) hd' (by have := upd_len x acc; omega) (fun q => by
        rw [mGet_set, h3]
        by_cases hq : q = x.f0
        · rw [if_pos hq, hq, beq_self_eq_true, cond_true]
        · rw [if_neg hq, beq_eq_false_iff_ne.2 (fun e => hq e.symm), cond_false]; exact hm q) h
      rw [h2] at e
      exact e
theorem impl_MergeGroups_ev (l : List S49) (hl : l.length ≤ 1099511627776) (r : List S49) (h : Ev (fun k => slices_SortFunc_impl_Group_impl_Group_at83.f k (upds [] l)) r) : Ev (fun k => impl_MergeGroups.f k l) r :=
  Ev.u (fun _ => rfl) (impl_MergeGroups_l0 l hl r l 0 [] [] rfl (by simp) (fun q => rfl) h)

def bub (x : S49) : List S49 → List S49 → List S49
  | [], q => x :: q
  | y :: rp, q => if x.f0 < y.f0 then bub x rp (y :: q) else (y :: rp).reverse ++ x :: q
def isr (P : List S49) (l : List S49) : List S49 := l.foldl (fun P x => bub x P.reverse []) P
theorem bub_len (x : S49) : ∀ rp q, (bub x rp q).length = rp.length + q.length + 1
  | [], q => by simp [bub]
  | y :: rp, q => by
    rw [bub]
    split
    · rw [bub_len x rp]; simp; omega
    · simp; omega
theorem ord_lt (a b : S49) : impl_MergeGroups_1.f a.f0 a.f1 a.f2 a.f3 a.f4 b.f0 b.f1 b.f2 b.f3 b.f4 = some (if a.f0 < b.f0 then -1 else if a.f0 > b.f0 then 1 else 0) := by
  unfold impl_MergeGroups_1.f impl_order.f
  split
  · rfl
  · split <;> rfl
theorem isort_l1 (a b : Int) (i : Nat) (hi : i ≤ 1099511627776) (x : S49) (ha : a = 0) (r : List S49) : ∀ (rp q suf : List S49), rp.length + q.length + suf.length ≤ 1099511627776 →
    Ev (fun k => slices_insertionSortCmpFunc_impl_Group_at83.l0 k (bub x rp q ++ suf) a b ((i + 1 : Nat) : Int)) r →
    Ev (fun k => slices_insertionSortCmpFunc_impl_Group_at83.l1 k (rp.reverse ++ x :: (q ++ suf)) a b (i : Int) (rp.length : Int)) r := by
  subst ha
  intro rp
  have ew : wrap64 ((i : Int) + 1) = ((i + 1 : Nat) : Int) := by rw [w64 (by omega) (by omega)]; rfl
  induction rp with
  | nil =>
    intro q suf hp h
    refine Ev.s (fun k => by rw [slices_insertionSortCmpFunc_impl_Group_at83.l1]) (Ev.e (by simp) ?_)
    rw [ew]
    exact h
  | cons y rp ih =>
    intro q suf hp h
    rw [List.length_cons] at hp
    have e1 : wrap64 (((y :: rp).length : Int) - 1) = (rp.length : Int) := by rw [List.length_cons, w64 (by omega) (by omega)]; omega
    have el : ((y :: rp).reverse ++ x :: (q ++ suf)) = rp.reverse ++ y :: x :: (q ++ suf) := by simp
    have r1 : rd_T49 (rp.reverse ++ y :: x :: (q ++ suf)) ((y :: rp).length : Int) = x := by
      have := rdPGroup (rp.reverse ++ [y]) x (q ++ suf)
      simpa using this
    have r2 : rd_T49 (rp.reverse ++ y :: x :: (q ++ suf)) (rp.length : Int) = y := by
      have := rdPGroup rp.reverse y (x :: (q ++ suf))
      simpa using this
    refine Ev.s (fun k => by rw [slices_insertionSortCmpFunc_impl_Group_at83.l1]) (Ev.t (by rw [List.length_cons]; omega) (Ev.t (by omega) (Ev.t (by simp; omega) ?_)))
    rw [e1, el, r1, r2, ew]
    refine Ev.t (by omega) (Ev.t (by simp; omega) (Ev.b (Ev.c (ord_lt x y)) ?_))
    by_cases hxy : x.f0 < y.f0
    · rw [bub, if_pos hxy] at h
      rw [if_pos hxy]
      have s1 : (rp.reverse ++ y :: x :: (q ++ suf)).set ((y :: rp).length : Int).toNat y = rp.reverse ++ y :: y :: (q ++ suf) := by simp
      have s2 : (rp.reverse ++ y :: y :: (q ++ suf)).set (rp.length : Int).toNat x = rp.reverse ++ x :: y :: (q ++ suf) := by simp
      refine Ev.t (by omega) (Ev.b (Ev.c (congrArg some s1)) (Ev.t (by simp; omega) (Ev.b (Ev.c (congrArg some s2)) ?_)))
      have e := ih (y :: q) suf (by rw [List.length_cons]; omega) h
      simpa using e
    · rw [bub, if_neg hxy] at h
      rw [if_neg hxy]
      refine Ev.e (by split <;> omega) ?_
      simpa using h
theorem isort_l0 (r : List S49) : ∀ (s P : List S49), P.length + s.length ≤ 1099511627776 → isr P s = r → P ≠ [] →
    Ev (fun k => slices_insertionSortCmpFunc_impl_Group_at83.l0 k (P ++ s) 0 ((P.length + s.length : Nat) : Int) (P.length : Int)) r := by
  intro s
  induction s with
  | nil =>
    intro P hp h _
    refine Ev.s (fun k => by rw [slices_insertionSortCmpFunc_impl_Group_at83.l0]) (Ev.e (by simp) (Ev.p.r ?_))
    rw [List.append_nil]; exact h
  | cons x t ih =>
    intro P hp h hP
    rw [List.length_cons] at hp
    refine Ev.s (fun k => by rw [slices_insertionSortCmpFunc_impl_Group_at83.l0]) (Ev.t (by rw [List.length_cons]; omega) ?_)
    have hb : (bub x P.reverse []).length = P.length + 1 := by rw [bub_len]; simp
    have e := ih (bub x P.reverse []) (by omega) h (by intro h0; rw [h0] at hb; simp at hb)
    have e' := isort_l1 0 ((P.length + (x :: t).length : Nat) : Int) P.length (by omega) x rfl r P.reverse [] t (by simp; omega) (by
      rw [hb] at e
      rw [List.length_cons]
      rw [show P.length + 1 + t.length = P.length + (t.length + 1) by omega] at e
      exact e)
    simpa using e'
/-! the sort gives the merged groups -/
def kle (a b : S49) : Prop := a.f0 ≤ b.f0
def klt (a b : S49) : Prop := a.f0 < b.f0
theorem bub_perm (x : S49) : ∀ rp q : List S49, (bub x rp q).Perm (x :: (rp ++ q))
  | [], q => List.Perm.refl _
  | y :: rp, q => by
    rw [bub]
    split
    · exact (bub_perm x rp (y :: q)).trans (List.Perm.cons x (List.perm_middle))
    · refine List.perm_middle.trans (List.Perm.cons x ?_)
      exact (List.reverse_perm _).append_right q
theorem bub_sorted (x : S49) : ∀ rp q : List S49, (rp.reverse ++ q).Pairwise kle → (∀ y ∈ q, x.f0 ≤ y.f0) → (bub x rp q).Pairwise kle
  | [], q, h, hq => by
    rw [bub]; exact List.pairwise_cons.2 ⟨fun y hy => hq y hy, by simpa using h⟩
  | y :: rp, q, h, hq => by
    rw [bub]
    have h' : (rp.reverse ++ y :: q).Pairwise kle := by simpa using h
    split
    · rename_i hxy
      refine bub_sorted x rp (y :: q) h' (fun z hz => ?_)
      rcases List.mem_cons.1 hz with hz | hz
      · subst hz; omega
      · exact hq z hz
    · rename_i hxy
      have h2 := List.pairwise_append.1 h
      refine List.pairwise_append.2 ⟨h2.1, List.pairwise_cons.2 ⟨fun z hz => hq z hz, h2.2.1⟩, fun a ha b hb => ?_⟩
      rcases List.mem_cons.1 hb with hb | hb
      · subst hb
        have hy : a.f0 ≤ y.f0 := by
          rw [List.reverse_cons] at ha
          rcases List.mem_append.1 ha with ha | ha
          · exact (List.pairwise_append.1 h').2.2 a ha y (List.mem_cons_self ..)
          · rw [List.mem_singleton.1 ha]; exact Int.le_refl _
        show a.f0 ≤ b.f0
        omega
      · exact h2.2.2 a ha b hb
theorem isr_ps : ∀ (l P : List S49), P.Pairwise kle → (isr P l).Pairwise kle ∧ (isr P l).Perm (P ++ l)
  | [], P, h => ⟨h, by simp [isr]⟩
  | x :: l, P, h => by
    have hb := bub_sorted x P.reverse [] (by simpa using h) (fun y hy => by simp at hy)
    have ih := isr_ps l (bub x P.reverse []) hb
    refine ⟨ih.1, ih.2.trans ?_⟩
    have p1 : (bub x P.reverse []).Perm (x :: P) := (bub_perm x P.reverse []).trans (by rw [List.append_nil]; exact (List.reverse_perm P).cons x)
    exact (p1.append_right l).trans List.perm_middle.symm
theorem ins_mem (g : S49) (P : Int → Prop) (hg : P g.f0) : ∀ l : List S49, (∀ x ∈ l, P x.f0) → ∀ x ∈ ins g l, P x.f0
  | [], _, x, hx => by rw [ins, List.mem_singleton] at hx; rw [hx]; exact hg
  | h :: t, hl, x, hx => by
    rw [ins] at hx
    split at hx
    · rcases List.mem_cons.1 hx with hx | hx
      · rw [hx]; exact hl h (List.mem_cons_self ..)
      · exact ins_mem g P hg t (fun y hy => hl y (List.mem_cons_of_mem _ hy)) x hx
    · split at hx
      · rcases List.mem_cons.1 hx with hx | hx
        · rw [hx]; exact hl h (List.mem_cons_self ..)
        · exact hl x (List.mem_cons_of_mem _ hx)
      · rcases List.mem_cons.1 hx with hx | hx
        · rw [hx]; exact hg
        · exact hl x hx
theorem ins_sorted (g : S49) : ∀ l : List S49, l.Pairwise klt → (ins g l).Pairwise klt
  | [], _ => by simp [ins]
  | h :: t, hp => by
    obtain ⟨h1, h2⟩ := List.pairwise_cons.1 hp
    rw [ins]
    split
    · rename_i hlt
      exact List.pairwise_cons.2 ⟨ins_mem g (fun v => h.f0 < v) hlt t h1, ins_sorted g t h2⟩
    · split
      · exact List.pairwise_cons.2 ⟨h1, h2⟩
      · refine List.pairwise_cons.2 ⟨fun y hy => ?_, hp⟩
        rcases List.mem_cons.1 hy with hy | hy
        · subst hy; show g.f0 < y.f0; omega
        · have : h.f0 < y.f0 := h1 y hy
          show g.f0 < y.f0; omega
theorem upd_absent (g : S49) : ∀ l : List S49, (∀ x ∈ l, x.f0 ≠ g.f0) → upd g l = l ++ [g]
  | [], _ => rfl
  | h :: t, hl => by
    rw [upd, if_neg (hl h (List.mem_cons_self ..)), upd_absent g t (fun x hx => hl x (List.mem_cons_of_mem _ hx))]; rfl
theorem ins_upd (g : S49) : ∀ l : List S49, l.Pairwise klt → (ins g l).Perm (upd g l)
  | [], _ => List.Perm.refl _
  | h :: t, hp => by
    obtain ⟨h1, h2⟩ := List.pairwise_cons.1 hp
    rw [ins]
    split
    · rename_i hlt
      rw [upd, if_neg (by omega)]
      exact (ins_upd g t h2).cons h
    · split
      · rename_i he
        rw [upd, if_pos he]
      · rename_i hn he
        rw [upd, if_neg he, upd_absent g t (fun x hx => by have : h.f0 < x.f0 := h1 x hx; omega)]
        exact (List.perm_append_singleton g (h :: t)).symm
def ks (l : List S49) : List Int := l.map (·.f0)
theorem upd_perm (g : S49) {a b : List S49} (h : a.Perm b) : (ks a).Nodup → (upd g a).Perm (upd g b) := by
  induction h with
  | nil => intro _; exact List.Perm.refl _
  | cons x p ih =>
    intro hn
    have hn' := (List.nodup_cons.1 hn).2
    rw [upd, upd]
    split
    · exact p.cons _
    · exact (ih hn').cons x
  | swap x y l =>
    intro hn
    have hxy : y.f0 ≠ x.f0 := by
      intro e
      have := (List.nodup_cons.1 hn).1
      apply this
      show y.f0 ∈ x.f0 :: ks l
      rw [e]; exact List.mem_cons_self ..
    by_cases h1 : y.f0 = g.f0
    · have h2 : ¬ x.f0 = g.f0 := by omega
      simp only [upd, if_pos h1, if_neg h2]
      exact List.Perm.swap _ _ _
    · by_cases h2 : x.f0 = g.f0
      · simp only [upd, if_neg h1, if_pos h2]
        exact List.Perm.swap _ _ _
      · simp only [upd, if_neg h1, if_neg h2]
        exact List.Perm.swap _ _ _
  | trans p q ih1 ih2 =>
    intro hn
    exact (ih1 hn).trans (ih2 ((p.map (fun x : S49 => x.f0)).nodup_iff.1 hn))
theorem klt_nodup {l : List S49} (h : l.Pairwise klt) : (ks l).Nodup := by
  unfold ks
  rw [List.nodup_iff_pairwise_ne]
  refine List.pairwise_map.2 (h.imp fun {a b} hab => ?_)
  have : a.f0 < b.f0 := hab
  omega
theorem sorted_eq : ∀ {a b : List S49}, a.Pairwise klt → b.Pairwise klt → a.Perm b → a = b
  | [], b, _, _, h => (List.nil_perm.1 h).symm
  | x :: a, [], _, _, h => by simp at h
  | x :: a, y :: b, ha, hb, h => by
    obtain ⟨a1, a2⟩ := List.pairwise_cons.1 ha
    obtain ⟨b1, b2⟩ := List.pairwise_cons.1 hb
    have e : x = y := by
      have hx : x ∈ y :: b := h.subset (List.mem_cons_self ..)
      have hy : y ∈ x :: a := h.symm.subset (List.mem_cons_self ..)
      rcases List.mem_cons.1 hx with hx | hx
      · exact hx
      rcases List.mem_cons.1 hy with hy | hy
      · exact hy.symm
      have k1 : y.f0 < x.f0 := b1 x hx
      have k2 : x.f0 < y.f0 := a1 y hy
      omega
    subst e
    rw [sorted_eq a2 b2 (List.Perm.cons_inv h)]
theorem mgs_upds : ∀ (l S A : List S49), S.Pairwise klt → S.Perm A → (mgs S l).Pairwise klt ∧ (mgs S l).Perm (upds A l)
  | [], S, A, h, p => ⟨h, p⟩
  | x :: l, S, A, h, p => mgs_upds l (ins x S) (upd x A) (ins_sorted x S h) ((ins_upd x S h).trans (upd_perm x p (klt_nodup h)))
theorem mgs_sorted (l : List S49) : (mgs [] l).Pairwise klt := (mgs_upds l [] [] List.Pairwise.nil (List.Perm.refl _)).1
theorem isr_eq (l : List S49) : isr [] (upds [] l) = mgs [] l := by
  have h1 := isr_ps (upds [] l) [] List.Pairwise.nil
  have h2 := mgs_upds l [] [] List.Pairwise.nil (List.Perm.refl _)
  have p : (isr [] (upds [] l)).Perm (mgs [] l) := h1.2.trans (by rw [List.nil_append]; exact h2.2.symm)
  refine sorted_eq ?_ h2.1 p
  have hn : (ks (isr [] (upds [] l))).Nodup := (p.map (fun x : S49 => x.f0)).nodup_iff.2 (klt_nodup h2.1)
  unfold ks at hn
  rw [List.nodup_iff_pairwise_ne] at hn
  have hn' := List.pairwise_map.1 hn
  refine (h1.1.and hn').imp fun {a b} hab => ?_
  have k1 : a.f0 ≤ b.f0 := hab.1
  have k2 : a.f0 ≠ b.f0 := hab.2
  show a.f0 < b.f0
  omega

theorem u64w {x : Int} (h0 : 0 ≤ x) (h1 : x ≤ 9223372036854775807) : IntKind.u64.wrap x = x := by
  simp [IntKind.wrap, IntKind.bits, IntKind.signed]; omega
theorem u8w (x : Int) : 0 ≤ IntKind.u8.wrap x ∧ IntKind.u8.wrap x < 256 := by
  simp [IntKind.wrap, IntKind.bits, IntKind.signed]; omega
set_option maxRecDepth 100000 in
theorem bits_Len_small (n : Nat) (h : n ≤ 12) : ∃ r, Ev (fun k => bits_Len.f k (IntKind.u64.wrap (n : Int))) r := by
  rw [u64w (by omega) (by omega)]
  have hb := u8w (n : Int)
  refine ⟨_, Ev.u (fun _ => rfl) (Ev.b (Ev.u (fun _ => rfl) (Ev.e (by omega) (Ev.s (fun k => by rw [bits_Len64.j0]) (Ev.e (by omega) (Ev.s (fun k => by rw [bits_Len64.j1]) (Ev.e (by omega) (Ev.s (fun k => by rw [bits_Len64.j2]) (Ev.t hb.1 (Ev.t ?_ Ev.p))))))))) Ev.p)⟩
  exact hb.2
theorem SortFunc_small (A : List S49) (h : A.length ≤ 12) : Ev (fun k => slices_SortFunc_impl_Group_impl_Group_at83.f k A) (isr [] A) := by
  obtain ⟨r, hr⟩ := bits_Len_small A.length h
  have e1 : wrap64 ((0 : Int) + 1) = 1 := w64 (by omega) (by omega)
  refine Ev.u (fun _ => rfl) (Ev.b hr (Ev.b ?_ Ev.p))
  refine Ev.s (fun k => by rw [slices_pdqsortCmpFunc_impl_Group_at83.f]) ?_
  refine Ev.s (fun k => by rw [slices_pdqsortCmpFunc_impl_Group_at83.l0]) ?_
  rw [w64 (x := (A.length : Int) - 0) (by omega) (by omega)]
  refine Ev.t (by omega) (Ev.b ?_ Ev.p)
  cases A with
  | nil =>
    refine Ev.u (fun k => by rw [slices_insertionSortCmpFunc_impl_Group_at83.f, e1]) ?_
    refine Ev.s (fun k => by rw [slices_insertionSortCmpFunc_impl_Group_at83.l0]) ?_
    exact Ev.e (by simp) (Ev.p.r (by rfl))
  | cons x t =>
    rw [List.length_cons] at h
    have e := isort_l0 (isr [x] t) t [x] (by simp; omega) rfl (by simp)
    refine Ev.u (fun k => by rw [slices_insertionSortCmpFunc_impl_Group_at83.f, e1]) ?_
    have e2 : (([x] : List S49).length + t.length) = (x :: t).length := by simp; omega
    rw [e2] at e
    exact e
theorem impl_MergeGroups_small (l : List S49) (hl : l.length ≤ 1099511627776) (h : (mgs [] l).length ≤ 12) : Ev (fun k => impl_MergeGroups.f k l) (mgs [] l) := by
  have p := (mgs_upds l [] [] List.Pairwise.nil (List.Perm.refl _)).2
  have e := SortFunc_small (upds [] l) (by rw [← p.length_eq]; exact h)
  rw [isr_eq] at e
  exact impl_MergeGroups_ev l hl _ e
theorem mgs_mem (P : Int → Prop) : ∀ (l S : List S49), (∀ x ∈ S, P x.f0) → (∀ x ∈ l, P x.f0) → ∀ x ∈ mgs S l, P x.f0
  | [], S, hS, _ => hS
  | x :: l, S, hS, hl => mgs_mem P l (ins x S) (ins_mem x P (hl x (List.mem_cons_self ..)) S hS) (fun y hy => hl y (List.mem_cons_of_mem _ hy))
theorem klt_len : ∀ (l : List S49) (a b : Int), l.Pairwise klt → (∀ x ∈ l, a ≤ x.f0 ∧ x.f0 ≤ b) → a ≤ b + 1 → (l.length : Int) ≤ b - a + 1
  | [], a, b, _, _, hab => by simp; omega
  | x :: l, a, b, h, hm, hab => by
    obtain ⟨h1, h2⟩ := List.pairwise_cons.1 h
    have hx := hm x (List.mem_cons_self ..)
    have := klt_len l (x.f0 + 1) b h2 (fun y hy => ⟨by have k : x.f0 < y.f0 := h1 y hy; omega, (hm y (List.mem_cons_of_mem _ hy)).2⟩) (by omega)
    rw [List.length_cons]; omega
theorem mgs_len (l : List S49) (h : ∀ x ∈ l, 0 ≤ x.f0 ∧ x.f0 ≤ 9) : (mgs [] l).length ≤ 10 := by
  have := klt_len (mgs [] l) 0 9 (mgs_sorted l) (mgs_mem (fun v => 0 ≤ v ∧ v ≤ 9) l [] (fun x hx => by simp at hx) h) (by omega)
  omega
def gfr (x : S75) : S49 := ⟨x.f0, 1, x.f1, x.f1, x.f1⟩
def rgs (l : List S75) : List S49 := mgs [] (l.map gfr)
theorem spec_ReferenceGroups_l0 (l : List S75) (hl : l.length ≤ 1099511627776) : ∀ (s : List S75) (i : Nat) (acc : List S49), l.drop i = s → i ≤ l.length → acc.length ≤ i → Ev (fun k => spec_ReferenceGroups.l0 k acc (i : Int) l) (mgs [] (acc ++ s.map gfr)) := by
  intro s
  induction s with
  | nil =>
    intro i acc hd hil ha
    have := drop_nil' hd
    refine Ev.s (fun k => by rw [spec_ReferenceGroups.l0]) (Ev.e (by omega) ?_)
    rw [List.map_nil, List.append_nil]
    exact Ev.b (spec_MergeGroups_ev acc (by omega)) Ev.p
  | cons x t ih =>
    intro i acc hd hil ha
    obtain ⟨hi, hd', hx, -⟩ := drop_cons' hd
    refine Ev.s (fun k => by rw [spec_ReferenceGroups.l0]) (Ev.t (by omega) (Ev.t (by omega) ?_))
    rw [rdR, hx, w64s hi (by omega)]
    refine Ev.b (Ev.c rfl) (Ev.t (by omega) ?_)
    have h := ih (i + 1) (acc ++ [gfr x]) hd' (by omega) (by simp; omega)
    rw [List.append_assoc] at h
    exact h
theorem spec_ReferenceGroups_ev (l : List S75) (hl : l.length ≤ 1099511627776) : Ev (fun k => spec_ReferenceGroups.f k l) (rgs l) :=
  Ev.u (fun _ => rfl) (spec_ReferenceGroups_l0 l hl l 0 [] rfl (by omega) (by simp))
theorem impl_ReferenceGroups_l0 (l : List S75) (hl : l.length ≤ 1099511627776) (hm : (rgs l).length ≤ 12) : ∀ (s : List S75) (i : Nat) (acc : List S49), l.drop i = s → i ≤ l.length → acc.length ≤ i → acc ++ s.map gfr = l.map gfr → Ev (fun k => impl_ReferenceGroups.l0 k acc (l.length : Int) (i : Int) l) (rgs l) := by
  intro s
  induction s with
  | nil =>
    intro i acc hd hil ha he
    have := drop_nil' hd
    refine Ev.s (fun k => by rw [impl_ReferenceGroups.l0]) (Ev.e (by omega) ?_)
    rw [List.map_nil, List.append_nil] at he
    subst he
    exact Ev.b (impl_MergeGroups_small (l.map gfr) (by omega) hm) Ev.p
  | cons x t ih =>
    intro i acc hd hil ha he
    obtain ⟨hi, hd', hx, -⟩ := drop_cons' hd
    refine Ev.s (fun k => by rw [impl_ReferenceGroups.l0]) (Ev.t (by omega) (Ev.t (by omega) (Ev.t (by omega) ?_)))
    rw [rdR, hx, w64s hi (by omega)]
    refine Ev.b (Ev.c rfl) (Ev.t (by omega) ?_)
    exact ih (i + 1) (acc ++ [gfr x]) hd' (by omega) (by simp; omega) (by rw [List.append_assoc]; exact he)
theorem impl_ReferenceGroups_ev (l : List S75) (hl : l.length ≤ 1099511627776) (hm : (rgs l).length ≤ 12) : Ev (fun k => impl_ReferenceGroups.f k l) (rgs l) :=
  Ev.u (fun _ => rfl) (impl_ReferenceGroups_l0 l hl hm l 0 [] rfl (by omega) (by simp) rfl)
theorem rgs_mem (l : List S75) (h : ∀ x ∈ l, 0 ≤ x.f0 ∧ x.f0 ≤ 9) : ∀ x ∈ l.map gfr, 0 ≤ x.f0 ∧ x.f0 ≤ 9 := by
  intro x hx
  obtain ⟨y, hy, rfl⟩ := List.mem_map.1 hx
  exact h y hy
theorem rgs_len (l : List S75) (h : ∀ x ∈ l, 0 ≤ x.f0 ∧ x.f0 ≤ 9) : (rgs l).length ≤ 10 := mgs_len _ (rgs_mem l h)
theorem ks_upd (g : S49) : ∀ acc : List S49, ks (upd g acc) = if (ks acc).contains g.f0 = true then ks acc else ks acc ++ [g.f0]
  | [] => by simp [ks, upd]
  | h :: t => by
    have ih := ks_upd g t
    rw [upd]
    by_cases e : h.f0 = g.f0
    · rw [if_pos e]
      have : (ks (h :: t)).contains g.f0 = true := by simp [ks, e]
      rw [if_pos this]; rfl
    · rw [if_neg e]
      have e' : ¬ g.f0 = h.f0 := fun k => e k.symm
      have hc : (ks (h :: t)).contains g.f0 = (ks t).contains g.f0 := by
        show (h.f0 :: ks t).contains g.f0 = _
        rw [List.contains_cons, beq_eq_false_iff_ne.2 e', Bool.false_or]
      rw [hc]
      show h.f0 :: ks (upd g t) = _
      rw [ih]
      split <;> rfl
theorem ks_upds : ∀ (l : List S75) (acc : List S49), ks (upds acc (l.map gfr)) = dk (ks acc) l
  | [], acc => rfl
  | x :: l, acc => by
    show ks (upds (upd (gfr x) acc) (l.map gfr)) = _
    rw [ks_upds l, ks_upd]; rfl
theorem rgs_dk (l : List S75) : (rgs l).length = (dk [] l).length := by
  have p := (mgs_upds (l.map gfr) [] [] List.Pairwise.nil (List.Perm.refl _)).2
  have e := ks_upds l []
  have e2 := congrArg List.length e
  have e3 : (ks (upds [] (l.map gfr))).length = (upds [] (l.map gfr)).length := List.length_map ..
  show (mgs [] (l.map gfr)).length = _
  rw [p.length_eq, ← e3, e2]; rfl

theorem dk_app : ∀ (p s : List S75) (D : List Int), dk D (p ++ s) = dk (dk D p) s
  | [], s, D => rfl
  | x :: p, s, D => by rw [List.cons_append, dk, dk, dk_app p s]
theorem inB_iff' {n a b : Int} : inB n a b = true ↔ a ≤ n ∧ n ≤ b := by simp [inB]
theorem andI_255 (a : Int) : 0 ≤ andI a 255 ∧ andI a 255 ≤ 255 := by
  unfold andI
  have h1 : (BitVec.ofInt 64 a &&& BitVec.ofInt 64 255).toNat ≤ 255 := by
    rw [BitVec.toNat_and]
    exact Nat.and_le_right
  rw [w64 (by omega) (by omega)]
  omega
def Rd (l : List Int) (p : Int) : Prop := 0 ≤ p ∧ p ≤ (l.length : Int) ∧ l.length ≤ 1099511627776
theorem l1Byte_ex (l : List Int) (p z : Int) (h : Rd l p) : ∃ v p' z', spec_l1Byte.f l p z = some (v, p', z') ∧ 0 ≤ v ∧ v ≤ 255 ∧ Rd l p' := by
  obtain ⟨h0, h1, h2⟩ := h
  unfold spec_l1Byte.f
  by_cases hp : p < (l.length : Int)
  · rw [if_pos hp, if_pos h0]
    refine ⟨_, _, _, rfl, (andI_255 _).1, (andI_255 _).2, ?_⟩
    rw [w64 (by omega) (by omega)]
    exact ⟨by omega, by omega, h2⟩
  · rw [if_neg hp]
    exact ⟨_, _, _, rfl, (andI_255 _).1, (andI_255 _).2, h0, h1, h2⟩
theorem l1Below_ex (l : List Int) (p z n : Int) (h : Rd l p) (hn : n ≤ 256) : ∃ v p' z', spec_l1Below.f l p z n = some (v, p', z') ∧ 0 ≤ v ∧ (v < n ∨ (n ≤ 0 ∧ v = 0)) ∧ Rd l p' := by
  unfold spec_l1Below.f
  by_cases h0 : n ≤ 0
  · rw [if_pos h0]; exact ⟨0, p, z, rfl, by omega, .inr ⟨h0, rfl⟩, h⟩
  · rw [if_neg h0, if_pos hn]
    obtain ⟨v, p', z', e, v0, v1, hr⟩ := l1Byte_ex l p z h
    rw [ob e, if_pos (by omega)]
    have e2 : Int.tmod v n = v % n := Int.tmod_eq_emod_of_nonneg v0
    refine ⟨_, _, _, rfl, ?_, .inl ?_, hr⟩
    · show 0 ≤ Int.tmod v n
      rw [e2]; exact Int.emod_nonneg _ (by omega)
    · show Int.tmod v n < n
      rw [e2]; exact Int.emod_lt_of_pos _ (by omega)
theorem l1Once_ex (l : List Int) (p z n : Int) (h : Rd l p) (hn : n ≤ 256) : ∃ b p' z', spec_l1Once.f l p z n = some (b, p', z') ∧ Rd l p' := by
  obtain ⟨v, p', z', e, -, -, hr⟩ := l1Below_ex l p z n h hn
  unfold spec_l1Once.f
  rw [ob e]
  exact ⟨_, _, _, rfl, hr⟩
theorem l1PickInt_ex (l : List Int) (p z : Int) (c : List Int) (h : Rd l p) (hc : 0 < c.length) (hn : c.length ≤ 256) : ∃ v p' z', spec_l1PickInt.f l p z c = some (v, p', z') ∧ v ∈ c ∧ Rd l p' := by
  obtain ⟨v, p', z', e, v0, v1, hr⟩ := l1Below_ex l p z (c.length : Int) h (by omega)
  unfold spec_l1PickInt.f
  rw [ob e]
  show ∃ v' q q', (if 0 ≤ v then (if v < (c.length : Int) then some (rdOf 0 c v, p', z') else none) else none) = some (v', q, q') ∧ _
  rw [if_pos v0, if_pos (by omega)]
  refine ⟨_, _, _, rfl, ?_, hr⟩
  obtain ⟨n, rfl⟩ : ∃ n : Nat, v = n := ⟨v.toNat, by omega⟩
  rw [rdI, List.getD_eq_getElem?_getD, List.getElem?_eq_getElem (by omega)]
  exact List.getElem_mem (by omega)
theorem l2Row_ex (l : List Int) (p z n : Int) (h : Rd l p) (hn : n ≤ 256) : ∃ a b c p' z', spec_l2Row.f l p z n = some (a, b, c, p', z') ∧ 0 ≤ a ∧ (a < n ∨ (n ≤ 0 ∧ a = 0)) ∧ 0 ≤ b ∧ b ≤ 99 ∧ 0 ≤ c ∧ c ≤ 3 ∧ Rd l p' := by
  obtain ⟨v1, p1, z1, e1, a0, a1, h1⟩ := l1Below_ex l p z n h hn
  obtain ⟨v2, p2, z2, e2, b0, b1, h2⟩ := l1Below_ex l p1 z1 100 h1 (by omega)
  obtain ⟨v3, p3, z3, e3, c0, h3⟩ := l1PickInt_ex l p2 z2 [0, 0, 1, 2, 3] h2 (by simp) (by simp)
  unfold spec_l2Row.f
  rw [ob e1, ob e2, ob e3]
  refine ⟨_, _, _, _, _, rfl, a0, a1, b0, by omega, ?_, ?_, h3⟩
  · simp at c0; show 0 ≤ v3; omega
  · simp at c0; show v3 ≤ 3; omega

theorem l2Rows_l0 (l : List Int) (n : Int) (hn : 1 ≤ n ∧ n ≤ 10) : ∀ (m : Nat) (R : List S75) (p z : Int), Rd l p → vAll R = true → R.length + m ≤ 1000 → ∃ R' p' z', Ev (fun k => spec_l2Rows.l0 k R n (m : Int) p z l) (R', p', z') ∧ vAll R' = true ∧ R'.length = R.length + m ∧ Rd l p' := by
  intro m
  induction m with
  | zero =>
    intro R p z h hv hR
    exact ⟨R, p, z, Ev.s (fun k => by rw [spec_l2Rows.l0]) (Ev.e (by omega) Ev.p), hv, rfl, h⟩
  | succ m ih =>
    intro R p z h hv hR
    obtain ⟨a, b, c, p', z', e, a0, a1, b0, b1, c0, c1, hr⟩ := l2Row_ex l p z n h (by omega)
    have hv' : vAll (R ++ [⟨a, b, c⟩]) = true := by
      unfold vAll at hv ⊢
      rw [List.all_append, hv]
      simp [vRow, inB]; omega
    obtain ⟨R', p2, z2, e2, v2, l2, r2⟩ := ih (R ++ [⟨a, b, c⟩]) p' z' hr hv' (by simp; omega)
    refine ⟨R', p2, z2, ?_, v2, by rw [l2]; simp; omega, r2⟩
    refine Ev.s (fun k => by rw [spec_l2Rows.l0]) ?_
    rw [show wrap64 (((m + 1 : Nat) : Int) - 1) = (m : Int) by rw [w64 (by omega) (by omega)]; omega]
    refine Ev.t (by omega) (Ev.b (Ev.c e) ?_)
    exact Ev.t (by omega) e2
theorem l2Rows_ex (l : List Int) (p z n : Int) (h : Rd l p) (hn : 0 ≤ n ∧ n ≤ 100) : ∃ R p' z', Ev (fun k => spec_l2Rows.f k l p z n) (R, p', z') ∧ vAll R = true ∧ (R.length : Int) ≤ n ∧ Rd l p' := by
  obtain ⟨v1, p1, z1, e1, m1, h1⟩ := l1PickInt_ex l p z [1, 2, 4, 10] h (by simp) (by simp)
  obtain ⟨v2, p2, z2, e2, b0, b1, h2⟩ := l1Below_ex l p1 z1 (n + 1) h1 (by omega)
  have hv : 1 ≤ v1 ∧ v1 ≤ 10 := by simp at m1; omega
  obtain ⟨w, rfl⟩ : ∃ w : Nat, v2 = w := ⟨v2.toNat, by omega⟩
  obtain ⟨R, p', z', e, hvR, hl, hr⟩ := l2Rows_l0 l v1 hv w [] p2 z2 h2 rfl (by simp; omega)
  refine ⟨R, p', z', Ev.u (fun _ => rfl) (Ev.b (Ev.c e1) ?_), hvR, by rw [hl]; simp; omega, hr⟩
  rw [w64 (x := n + 1) (by omega) (by omega)]
  exact Ev.b (Ev.c e2) e
theorem l1New_ev (l : List Int) (hl : l.length ≤ 1048576) : ∃ z', Ev (fun k => spec_l1New.f k l) (0, z') := by
  have J : ∀ z : Int, Ev (fun k => spec_l1New.j0 k z l) (0, z) := fun z => Ev.s (fun k => by rw [spec_l1New.j0]) Ev.p
  have L : ∀ (s : List Int) (i : Nat) (z : Int), l.drop i = s → ∃ z', Ev (fun k => spec_l1New.l0 k z (i : Int) l) (0, z') := by
    intro s
    induction s with
    | nil =>
      intro i z hd
      have := drop_nil' hd
      exact ⟨z, Ev.s (fun k => by rw [spec_l1New.l0]) (Ev.e (by omega) (J z))⟩
    | cons x t ih =>
      intro i z hd
      obtain ⟨hi, hd', hx, -⟩ := drop_cons' hd
      by_cases h4 : (i : Int) < 4000
      · obtain ⟨z', e⟩ := ih (i + 1) _ hd'
        refine ⟨z', Ev.s (fun k => by rw [spec_l1New.l0]) ?_⟩
        rw [w64s hi (by omega)]
        exact Ev.t (by omega) (Ev.t h4 (Ev.t (by omega) e))
      · exact ⟨z, Ev.s (fun k => by rw [spec_l1New.l0]) (Ev.t (by omega) (Ev.e h4 (J z)))⟩
  obtain ⟨z', e⟩ := L l 0 _ rfl
  exact ⟨z', Ev.u (fun _ => rfl) e⟩
theorem Rd0 (l : List Int) (hl : l.length ≤ 1048576) : Rd l 0 := ⟨by omega, by omega, by omega⟩
theorem big_eq (l : List Int) : laws_big.f l = some (decide ((l.length : Int) > 1048576)) := rfl

def toB (l : List UInt8) : ByteArray := ⟨⟨l⟩⟩
def bs (s : ByteArray) : List UInt8 := s.data.toList
theorem toB_sz (l : List UInt8) : (toB l).size = l.length := rfl
theorem bs_inj {a b : ByteArray} (h : bs a = bs b) : a = b := ByteArray.ext (Array.toList_inj.1 h)
theorem bs_app (a b : ByteArray) : bs (a ++ b) = bs a ++ bs b := by unfold bs; rw [ByteArray.data_append, Array.toList_append]
theorem toB_app (a b : List UInt8) : toB a ++ toB b = toB (a ++ b) := bs_inj (bs_app _ _)
theorem u8x {x : Int} (h0 : 0 ≤ x) (h1 : x < 256) : IntKind.u8.wrap x = x := by
  simp only [IntKind.wrap, IntKind.signed, IntKind.bits, Bool.false_and, Bool.false_eq_true, if_false]
  omega
theorem u64x {x : Int} (h0 : 0 ≤ x) (h1 : x < 18446744073709551616) : IntKind.u64.wrap x = x := by
  simp only [IntKind.wrap, IntKind.signed, IntKind.bits, Bool.false_and, Bool.false_eq_true, if_false]
  omega
theorem u64m {x : Int} (h0 : -9223372036854775808 ≤ x) (h1 : x < 0) : IntKind.u64.wrap (-(IntKind.u64.wrap x)) = -x := by
  simp only [IntKind.wrap, IntKind.signed, IntKind.bits, Bool.false_and, Bool.false_eq_true, if_false]
  omega
def dg (n : Nat) : UInt8 := UInt8.ofNat (48 + n)
theorem strD {n : Nat} (h : n < 10) : strOfNums [IntKind.u8.wrap (wrap64 (48 + (n : Int)))] = toB [dg n] := by
  rw [w64 (by omega) (by omega), u8x (by omega) (by omega), show 48 + (n : Int) = ((48 + n : Nat) : Int) by omega]
  rfl
theorem strDu {n : Nat} (h : n < 10) : strOfNums [IntKind.u8.wrap (IntKind.u64.wrap (48 + (n : Int)))] = toB [dg n] := by
  rw [u64x (by omega) (by omega), u8x (by omega) (by omega), show 48 + (n : Int) = ((48 + n : Nat) : Int) by omega]
  rfl
def dgl (n : Nat) : List UInt8 := if h : n < 10 then [dg n] else dgl (n / 10) ++ [dg (n % 10)]
  termination_by n
theorem dgl_lt {n : Nat} (h : n < 10) : dgl n = [dg n] := by rw [dgl]; exact dif_pos h
theorem dgl_ge {n : Nat} (h : ¬ n < 10) : dgl n = dgl (n / 10) ++ [dg (n % 10)] := by rw [dgl]; exact dif_neg h
theorem dgl_len : ∀ (d n : Nat), n < 10 ^ (d + 1) → (dgl n).length ≤ d + 1 ∧ 1 ≤ (dgl n).length
  | 0, n, h => by rw [dgl_lt (by omega)]; simp
  | d + 1, n, h => by
    by_cases c : n < 10
    · rw [dgl_lt c]; simp
    · have := dgl_len d (n / 10) (by rw [Nat.pow_succ] at h; omega)
      rw [dgl_ge c, List.length_append, List.length_singleton]
      omega
theorem impl_decimal_ev : ∀ (d n : Nat), n < 10 ^ (d + 1) → n < 18446744073709551616 → d ≤ 30 → Ev (fun k => impl_decimal.f k (n : Int)) (toB (dgl n)) := by
  intro d
  induction d with
  | zero =>
    intro n h h2 h3
    refine Ev.s (fun k => by rw [impl_decimal.f]) (Ev.t (by omega) ?_)
    rw [strDu (by omega), dgl_lt (by omega)]; exact Ev.p
  | succ d ih =>
    intro n h h2 h3
    refine Ev.s (fun k => by rw [impl_decimal.f]) ?_
    by_cases c : n < 10
    · refine Ev.t (by omega) ?_
      rw [strDu c, dgl_lt c]; exact Ev.p
    · have hp : n / 10 < 10 ^ (d + 1) := by rw [Nat.pow_succ] at h; omega
      have hs := dgl_len d (n / 10) hp
      refine Ev.e (by omega) ?_
      rw [show Int.tdiv (n : Int) 10 = ((n / 10 : Nat) : Int) from rfl, u64x (x := ((n / 10 : Nat) : Int)) (by omega) (by omega), show Int.tmod (n : Int) 10 = ((n % 10 : Nat) : Int) from rfl, strDu (n := n % 10) (by omega)]
      refine Ev.b (ih (n / 10) hp (by omega) (by omega)) (Ev.t ?_ (Ev.p.r ?_))
      · show (dgl (n / 10)).length + 1 ≤ _; omega
      · rw [toB_app, dgl_ge c]
def fI (a : Int) : List UInt8 := if a < 0 then 45 :: dgl (-a).toNat else dgl a.toNat
theorem pow20 : 10 ^ (19 + 1) = 100000000000000000000 := by decide
theorem fI_len (a : Int) (h0 : -9223372036854775808 ≤ a) (h1 : a ≤ 9223372036854775807) : (fI a).length ≤ 21 ∧ 1 ≤ (fI a).length := by
  unfold fI
  split
  · have := dgl_len 19 (-a).toNat (by rw [pow20]; omega)
    rw [List.length_cons]; omega
  · have := dgl_len 19 a.toNat (by rw [pow20]; omega)
    omega
theorem impl_FormatInt_ev (a : Int) (h0 : -9223372036854775808 ≤ a) (h1 : a ≤ 9223372036854775807) : Ev (fun k => impl_FormatInt.f k a) (toB (fI a)) := by
  unfold fI
  refine Ev.u (fun _ => rfl) ?_
  by_cases c : a < 0
  · have hp : (-a).toNat < 10 ^ (19 + 1) := by rw [pow20]; omega
    have hs := dgl_len 19 (-a).toNat hp
    have hd := impl_decimal_ev 19 (-a).toNat hp (by omega) (by omega)
    rw [show (((-a).toNat : Nat) : Int) = -a by omega] at hd
    refine Ev.t c ?_
    rw [if_pos c, u64m h0 c]
    refine Ev.b hd (Ev.t ?_ (Ev.p.r ?_))
    · show 1 + (dgl (-a).toNat).length ≤ _; omega
    · exact toB_app [45] _
  · have hp : a.toNat < 10 ^ (19 + 1) := by rw [pow20]; omega
    have hd := impl_decimal_ev 19 a.toNat hp (by omega) (by omega)
    rw [show ((a.toNat : Nat) : Int) = a by omega] at hd
    refine Ev.e c ?_
    rw [if_neg c, u64x (by omega) (by omega)]
    exact Ev.b hd Ev.p
def dlz (n : Nat) : List UInt8 := if n = 0 then [] else dgl n
theorem dlz_step (n : Nat) (h : n ≠ 0) (acc : List UInt8) : dlz (n / 10) ++ ([dg (n % 10)] ++ acc) = dlz n ++ acc := by
  unfold dlz
  rw [if_neg h]
  by_cases c : n < 10
  · rw [if_pos (by omega), show n % 10 = n by omega, dgl_lt c]; rfl
  · rw [if_neg (by omega), dgl_ge c, List.append_assoc]
def ng1 (b : Bool) : List UInt8 := if b = true then [45] else []
theorem spec_FormatInt_l0 : ∀ (d n : Nat) (x : Int) (acc : List UInt8) (b : Bool), (x = (n : Int) ∨ x = -(n : Int)) → n < 10 ^ d → n ≤ 9223372036854775808 → d ≤ 30 → acc.length + d ≤ 1000 → Ev (fun k => spec_FormatInt.l0 k x (toB acc) b) (toB (ng1 b ++ (dlz n ++ acc))) := by
  have Z : ∀ (acc : List UInt8) (b : Bool), acc.length ≤ 1000 → Ev (fun k => spec_FormatInt.l0 k 0 (toB acc) b) (toB (ng1 b ++ (dlz 0 ++ acc))) := by
    intro acc b ha
    refine Ev.s (fun k => by rw [spec_FormatInt.l0]) (Ev.t rfl ?_)
    cases b with
    | true => exact Ev.t rfl (Ev.t (by show 1 + acc.length ≤ _; omega) (Ev.p.r (toB_app [45] acc)))
    | false => exact Ev.e (by simp) (Ev.p.r rfl)
  intro d
  induction d with
  | zero =>
    intro n x acc b hx h h2 h3 ha
    have hn : n = 0 := by simpa using h
    subst hn
    have hx0 : x = 0 := by omega
    subst hx0
    exact Z acc b (by omega)
  | succ d ih =>
    intro n x acc b hx h h2 h3 ha
    by_cases hn : n = 0
    · subst hn
      have hx0 : x = 0 := by omega
      subst hx0
      exact Z acc b (by omega)
    have hp : n / 10 < 10 ^ d := by rw [Nat.pow_succ] at h; omega
    have J : ∀ y : Int, y = ((n % 10 : Nat) : Int) → Ev (fun k => spec_FormatInt.j0 k x (toB acc) b y) (toB (ng1 b ++ (dlz n ++ acc))) := by
      intro y hy
      subst hy
      refine Ev.s (fun k => by rw [spec_FormatInt.j0]) ?_
      rw [strD (n := n % 10) (by omega), toB_app]
      refine Ev.t (by show 1 + acc.length ≤ _; omega) ?_
      have e : wrap64 (Int.tdiv x 10) = ((n / 10 : Nat) : Int) ∨ wrap64 (Int.tdiv x 10) = -((n / 10 : Nat) : Int) := by
        rcases hx with rfl | rfl
        · left; rw [show Int.tdiv (n : Int) 10 = ((n / 10 : Nat) : Int) from rfl, w64 (by omega) (by omega)]
        · right; rw [Int.neg_tdiv, show Int.tdiv (n : Int) 10 = ((n / 10 : Nat) : Int) from rfl, w64 (by omega) (by omega)]
      refine (ih (n / 10) _ ([dg (n % 10)] ++ acc) b e hp (by omega) (by omega) (by simp; omega)).r ?_
      rw [dlz_step n hn]
    refine Ev.s (fun k => by rw [spec_FormatInt.l0]) (Ev.e (by omega) ?_)
    rcases hx with hx | hx
    · have e : Int.tmod x 10 = ((n % 10 : Nat) : Int) := by rw [hx]; rfl
      rw [e]
      exact Ev.e (by omega) (J _ rfl)
    · have e : Int.tmod x 10 = -((n % 10 : Nat) : Int) := by rw [hx, Int.neg_tmod]; rfl
      rw [e, w64 (x := -(-((n % 10 : Nat) : Int))) (by omega) (by omega)]
      exact Ev.i (fun _ => J _ (by omega)) (fun _ => J _ (by omega))
theorem spec_FormatInt_ev (a : Int) (h0 : -9223372036854775808 ≤ a) (h1 : a ≤ 9223372036854775807) : Ev (fun k => spec_FormatInt.f k a) (toB (fI a)) := by
  unfold fI
  refine Ev.u (fun _ => rfl) ?_
  by_cases z : a = 0
  · subst z
    refine Ev.t rfl (Ev.p.r ?_)
    rw [if_neg (by omega), show (0 : Int).toNat = 0 from rfl, dgl_lt (by omega)]
    rfl
  refine Ev.e z ?_
  by_cases c : a < 0
  · have hd := spec_FormatInt_l0 20 (-a).toNat a [] (decide (a < 0)) (.inr (by omega)) (by rw [pow20]; omega) (by omega) (by omega) (by simp)
    refine hd.r ?_
    rw [if_pos c, decide_eq_true c]
    unfold dlz
    rw [if_neg (by omega), List.append_nil]
    rfl
  · have hd := spec_FormatInt_l0 20 a.toNat a [] (decide (a < 0)) (.inl (by omega)) (by rw [pow20]; omega) (by omega) (by omega) (by simp)
    refine hd.r ?_
    rw [if_neg c, decide_eq_false c]
    unfold dlz
    rw [if_neg (by omega), List.append_nil]
    rfl

def jnL (c : UInt8) : List (List UInt8) → List UInt8
  | [] => []
  | x :: t => x ++ t.flatMap fun y => c :: y
theorem rdS (l : List (List UInt8)) (i : Nat) : rdOf ByteArray.empty (l.map toB) (i : Int) = toB (l.getD i []) := by
  show (l.map toB).getD (i : Int).toNat ByteArray.empty = _
  rw [Int.toNat_natCast, List.getD_eq_getElem?_getD, List.getD_eq_getElem?_getD, List.getElem?_map]
  cases l[i]? <;> rfl
def tot (L : List (List UInt8)) : Nat := (L.map fun x => x.length + 1).sum
theorem tot_cons (x : List UInt8) (L : List (List UInt8)) : tot (x :: L) = x.length + 1 + tot L := by simp [tot]
theorem tot_app (a b : List (List UInt8)) : tot (a ++ b) = tot a + tot b := by simp [tot]
theorem impl_joined_l0 (c : UInt8) (L : List (List UInt8)) (hl : L.length ≤ 1000000000) : ∀ (s : List (List UInt8)) (i : Nat) (acc : List UInt8), L.drop i = s → 0 < i → acc.length + tot s ≤ 9000000000000000 → Ev (fun k => impl_joined.l0 k (toB [c]) (toB acc) (L.length : Int) (i : Int) (L.map toB)) (toB (acc ++ s.flatMap fun y => c :: y)) := by
  intro s
  induction s with
  | nil =>
    intro i acc hd h0 ha
    have := drop_nil' hd
    exact Ev.s (fun k => by rw [impl_joined.l0]) (Ev.e (by omega) (Ev.p.r (by simp)))
  | cons x t ih =>
    intro i acc hd h0 ha
    rw [tot_cons] at ha
    obtain ⟨hi, hd', hx, -⟩ := drop_cons' hd
    have h := ih (i + 1) (acc ++ [c] ++ x) hd' (by omega) (by simp; omega)
    refine Ev.s (fun k => by rw [impl_joined.l0]) (Ev.t (by omega) (Ev.t (by omega) (Ev.t (by rw [List.length_map]; omega) (Ev.t (by omega) ?_))))
    rw [rdS, hx, toB_app, toB_sz, toB_sz]
    refine Ev.t (by rw [List.length_singleton]; omega) (Ev.s (fun k => by rw [impl_joined.j0]) ?_)
    rw [toB_app, toB_sz, toB_sz, w64s hi (by omega)]
    refine Ev.t (by simp; omega) (h.r ?_)
    simp
theorem impl_joined_ev (c : UInt8) (L : List (List UInt8)) (hl : L.length ≤ 1000000000) (ht : tot L ≤ 1000000000000000) : Ev (fun k => impl_joined.f k (L.map toB) (toB [c])) (toB (jnL c L)) := by
  refine Ev.u (fun k => by rw [impl_joined.f, List.length_map]) ?_
  cases L with
  | nil => exact Ev.s (fun k => by rw [impl_joined.l0]) (Ev.e (by simp) (Ev.p.r (by rfl)))
  | cons x t =>
    rw [tot_cons] at ht
    have h := impl_joined_l0 c (x :: t) hl t 1 x rfl (by omega) (by omega)
    refine Ev.s (fun k => by rw [impl_joined.l0]) (Ev.t (by simp) (Ev.t (by omega) (Ev.t (by simp) (Ev.e (by omega) ?_))))
    have r0 : rdOf ByteArray.empty ((x :: t).map toB) 0 = toB x := rfl
    have e0 : (⟨#[]⟩ : ByteArray) ++ toB x = toB x := toB_app [] x
    rw [r0]
    refine Ev.s (fun k => by rw [impl_joined.j0]) ?_
    rw [e0, show wrap64 ((0 : Int) + 1) = ((1 : Nat) : Int) by rw [w64 (by omega) (by omega)]; rfl]
    exact Ev.t (by show 0 + x.length ≤ _; omega) h
/-! rows -/
def cnt (L : List S49) : Int := (L.map (·.f1)).sum
theorem cnt_cons (x : S49) (L : List S49) : cnt (x :: L) = x.f1 + cnt L := by simp [cnt]
theorem cnt_ins (g : S49) (hg : 0 ≤ g.f1) : ∀ S : List S49, (∀ x ∈ S, 0 ≤ x.f1) → cnt S + g.f1 ≤ 1000000000 → cnt (ins g S) = cnt S + g.f1 ∧ ∀ x ∈ ins g S, 0 ≤ x.f1
  | [], _, _ => by
    rw [ins]
    exact ⟨by simp [cnt], fun x hx => by rw [List.mem_singleton.1 hx]; exact hg⟩
  | x :: S, h, hb => by
    have hx := h x (List.mem_cons_self ..)
    have hS := fun y hy => h y (List.mem_cons_of_mem _ hy)
    have hp : 0 ≤ cnt S := by
      clear hb
      induction S with
      | nil => simp [cnt]
      | cons y S ih => rw [cnt_cons]; have := hS y (List.mem_cons_self ..); have := ih (fun z hz => by rcases List.mem_cons.1 hz with hz | hz; exact h z (by rw [hz]; exact List.mem_cons_self ..); exact h z (List.mem_cons_of_mem _ (List.mem_cons_of_mem _ hz))) (fun z hz => hS z (List.mem_cons_of_mem _ hz)); omega
    rw [cnt_cons] at hb
    have ih := cnt_ins g hg S hS (by omega)
    rw [ins]
    by_cases c1 : x.f0 < g.f0
    · rw [if_pos c1, cnt_cons, cnt_cons, ih.1]
      refine ⟨by omega, fun y hy => ?_⟩
      rcases List.mem_cons.1 hy with hy | hy
      · rw [hy]; exact hx
      · exact ih.2 y hy
    · rw [if_neg c1]
      by_cases c2 : x.f0 = g.f0
      · rw [if_pos c2, cnt_cons, cnt_cons]
        have e : (comb x g).f1 = x.f1 + g.f1 := w64 (by omega) (by omega)
        rw [e]
        refine ⟨by omega, fun y hy => ?_⟩
        rcases List.mem_cons.1 hy with hy | hy
        · rw [hy, e]; omega
        · exact hS y hy
      · rw [if_neg c2, cnt_cons, cnt_cons]
        refine ⟨by omega, fun y hy => ?_⟩
        rcases List.mem_cons.1 hy with hy | hy
        · rw [hy]; exact hg
        · exact h y hy
theorem cnt_nn : ∀ L : List S49, (∀ x ∈ L, 0 ≤ x.f1) → 0 ≤ cnt L
  | [], _ => by simp [cnt]
  | x :: L, h => by
    rw [cnt_cons]; have := h x (List.mem_cons_self ..); have := cnt_nn L (fun y hy => h y (List.mem_cons_of_mem _ hy)); omega
theorem cnt_mgs : ∀ (L S : List S49), (∀ x ∈ S, 0 ≤ x.f1) → (∀ x ∈ L, 0 ≤ x.f1) → cnt S + cnt L ≤ 1000000000 → cnt (mgs S L) = cnt S + cnt L ∧ ∀ x ∈ mgs S L, 0 ≤ x.f1
  | [], S, hS, _, _ => ⟨by simp [mgs, cnt], hS⟩
  | g :: L, S, hS, hL, hb => by
    have hg := hL g (List.mem_cons_self ..)
    have hL' := fun y hy => hL y (List.mem_cons_of_mem _ hy)
    have hn := cnt_nn L hL'
    rw [cnt_cons] at hb ⊢
    obtain ⟨i1, i2⟩ := cnt_ins g hg S hS (by omega)
    obtain ⟨j1, j2⟩ := cnt_mgs L (ins g S) i2 hL' (by omega)
    exact ⟨by show cnt (mgs (ins g S) L) = _; omega, j2⟩
theorem cnt_gfr : ∀ l : List S75, cnt (l.map gfr) = l.length
  | [] => rfl
  | x :: l => by rw [List.map_cons, cnt_cons, cnt_gfr l, List.length_cons]; show (1 : Int) + _ = _; omega
theorem cnt_rgs (l : List S75) (hl : l.length ≤ 1000000) : cnt (rgs l) = l.length ∧ ∀ x ∈ rgs l, 0 ≤ x.f1 := by
  have h : ∀ x ∈ l.map gfr, 0 ≤ x.f1 := fun x hx => by
    obtain ⟨r, -, rfl⟩ := List.mem_map.1 hx
    show (0 : Int) ≤ 1; omega
  have e := cnt_gfr l
  obtain ⟨h1, h2⟩ := cnt_mgs (l.map gfr) [] (by simp) h (by rw [e]; simp [cnt]; omega)
  rw [e] at h1
  exact ⟨by unfold rgs; rw [h1]; simp [cnt], h2⟩

def dn (R : List S75) : Nat := (dk [] R).length
theorem dn_le (l : List S75) : dn l ≤ l.length := by have := dk_len l []; unfold dn; simpa using this
def wI (n : Int) : Prop := -9223372036854775808 ≤ n ∧ n ≤ 9223372036854775807
def wG (g : S49) : Prop := wI g.f0 ∧ wI g.f1 ∧ wI g.f2 ∧ wI g.f3 ∧ wI g.f4
theorem wI_w (x : Int) : wI (wrap64 x) := by unfold wI wrap64; omega
theorem wI_mn {a b : Int} (ha : wI a) (hb : wI b) : wI (mn a b) := by unfold mn; split <;> assumption
theorem wI_mx {a b : Int} (ha : wI a) (hb : wI b) : wI (mx a b) := by unfold mx; split <;> assumption
theorem wG_ins {g : S49} (hg : wG g) : ∀ {S : List S49}, (∀ x ∈ S, wG x) → ∀ x ∈ ins g S, wG x
  | [], _, x, hx => by rw [ins, List.mem_singleton] at hx; rw [hx]; exact hg
  | y :: S, h, x, hx => by
    have hy := h y (List.mem_cons_self ..)
    have hS := fun z hz => h z (List.mem_cons_of_mem _ hz)
    rw [ins] at hx
    split at hx
    · rcases List.mem_cons.1 hx with hx | hx
      · rw [hx]; exact hy
      · exact wG_ins hg hS x hx
    · split at hx
      · rcases List.mem_cons.1 hx with hx | hx
        · rw [hx]; exact ⟨hy.1, wI_w _, wI_w _, wI_mn hy.2.2.2.1 hg.2.2.2.1, wI_mx hy.2.2.2.2 hg.2.2.2.2⟩
        · exact hS x hx
      · rcases List.mem_cons.1 hx with hx | hx
        · rw [hx]; exact hg
        · exact h x hx
theorem wG_mgs : ∀ (L S : List S49), (∀ x ∈ S, wG x) → (∀ x ∈ L, wG x) → ∀ x ∈ mgs S L, wG x
  | [], S, hS, _ => hS
  | g :: L, S, hS, hL => wG_mgs L (ins g S) (wG_ins (hL g (List.mem_cons_self ..)) hS) (fun y hy => hL y (List.mem_cons_of_mem _ hy))
theorem mgs_len_le : ∀ (L S : List S49), (mgs S L).length ≤ S.length + L.length
  | [], S => by simp [mgs]
  | g :: L, S => by
    have h1 := ins_len g S
    have h2 : (mgs (ins g S) L).length ≤ (ins g S).length + L.length := mgs_len_le L (ins g S)
    show (mgs (ins g S) L).length ≤ _
    rw [List.length_cons]; omega
def rk (a b : Int) : Int := if b = 0 then a else if b = 1 then wrap64 (Int.tdiv a 5) else 0
theorem impl_RollupKey_eq (a b : Int) : impl_RollupKey.f a b = some (rk a b) := by
  unfold impl_RollupKey.f rk; (repeat' split) <;> rfl
theorem spec_RollupKey_eq (a b : Int) : spec_RollupKey.f a b = some (rk a b) := by
  unfold spec_RollupKey.f rk; (repeat' split) <;> rfl
def rkG (lev : Int) (g : S49) : S49 := ⟨rk g.f0 lev, g.f1, g.f2, g.f3, g.f4⟩
def rlv (lev : Int) (L : List S49) : List S51 := (mgs [] (L.map (rkG lev))).map fun g => ⟨lev, g⟩
def rup (L : List S49) : List S51 := rlv 0 L ++ (rlv 1 L ++ rlv 2 L)
theorem rdRR (l : List S51) (i : Nat) : rd_T51 l (i : Int) = l.getD i z51 := rfl
theorem rlv_len (lev : Int) (L : List S49) : (rlv lev L).length ≤ L.length := by
  have := mgs_len_le (L.map (rkG lev)) []
  unfold rlv; rw [List.length_map]; rw [List.length_map] at this; simpa using this
theorem rup_len (L : List S49) : (rup L).length ≤ 3 * L.length := by
  have h0 := rlv_len 0 L; have h1 := rlv_len 1 L; have h2 := rlv_len 2 L
  unfold rup; rw [List.length_append, List.length_append]; omega
theorem impl_RollupGroups_l2 (l : List S49) (lev v : Int) (M : List S49) (hM : M.length ≤ 1048576) (r : List S51) : ∀ (s : List S49) (i : Nat) (P : List S51), M.drop i = s → P.length + s.length ≤ 1000000000 → Ev (fun k => impl_RollupGroups.l0 k (P ++ s.map fun g => ⟨lev, g⟩) (wrap64 (v + 1)) l) r → Ev (fun k => impl_RollupGroups.l2 k P lev v M (M.length : Int) (i : Int) l) r := by
  intro s
  induction s with
  | nil =>
    intro i P hd hP h
    have := drop_nil' hd
    refine Ev.s (fun k => by rw [impl_RollupGroups.l2]) (Ev.e (by omega) ?_)
    simpa using h
  | cons x s ih =>
    intro i P hd hP h
    rw [List.length_cons] at hP
    obtain ⟨hi, hd', hx, -⟩ := drop_cons' hd
    refine Ev.s (fun k => by rw [impl_RollupGroups.l2]) (Ev.t (by omega) (Ev.t (by omega) (Ev.t (by omega) (Ev.t (by omega) ?_))))
    rw [rdG, hx, w64s hi (by omega)]
    refine ih (i + 1) _ hd' (by simp; omega) ?_
    simpa using h
theorem impl_RollupGroups_l1 (l : List S49) (hl : l.length ≤ 1048576) (lev v : Int) (P : List S51) (hP : P.length ≤ 100000000) (r : List S51) (HM : Ev (fun k => impl_MergeGroups.f k (l.map (rkG lev))) (mgs [] (l.map (rkG lev)))) (h : Ev (fun k => impl_RollupGroups.l0 k (P ++ rlv lev l) (wrap64 (v + 1)) l) r) : ∀ (s : List S49) (i : Nat) (A : List S49), l.drop i = s → A.length ≤ i → A ++ s.map (rkG lev) = l.map (rkG lev) → Ev (fun k => impl_RollupGroups.l1 k P lev A v (l.length : Int) (i : Int) l) r := by
  intro s
  induction s with
  | nil =>
    intro i A hd hA he
    have := drop_nil' hd
    rw [List.map_nil, List.append_nil] at he
    have hm := mgs_len_le (l.map (rkG lev)) []
    rw [List.length_map] at hm
    simp only [List.length_nil] at hm
    subst he
    refine Ev.s (fun k => by rw [impl_RollupGroups.l1]) ?_
    refine Ev.e (by omega) (Ev.b HM ?_)
    exact impl_RollupGroups_l2 l lev v (mgs [] (l.map (rkG lev))) (by omega) r (mgs [] (l.map (rkG lev))) 0 P rfl (by omega) h
  | cons x s ih =>
    intro i A hd hA he
    obtain ⟨hi, hd', hx, -⟩ := drop_cons' hd
    refine Ev.s (fun k => by rw [impl_RollupGroups.l1]) (Ev.t (by omega) (Ev.t (by omega) (Ev.t (by omega) ?_)))
    rw [rdG, hx, w64s hi (by omega)]
    refine Ev.b (Ev.c (impl_RollupKey_eq x.f0 lev)) (Ev.t (by omega) ?_)
    exact ih (i + 1) _ hd' (by simp; omega) (by rw [← he]; simp [rkG])
theorem impl_RollupGroups_ev (l : List S49) (hl : l.length ≤ 1048576) (HM : ∀ lev : Int, 0 ≤ lev → lev ≤ 2 → Ev (fun k => impl_MergeGroups.f k (l.map (rkG lev))) (mgs [] (l.map (rkG lev)))) : Ev (fun k => impl_RollupGroups.f k l) (rup l) := by
  have h0 := rlv_len 0 l; have h1 := rlv_len 1 l
  refine Ev.u (fun k => by rw [impl_RollupGroups.f]) ?_
  have L := fun (lev : Int) (h1 : 0 ≤ lev) (h2 : lev ≤ 2) (P : List S51) (hP : P.length ≤ 100000000) (r : List S51) h => impl_RollupGroups_l1 l hl lev lev P hP r (HM lev h1 h2) h l 0 [] rfl (by simp) rfl
  have e1 : wrap64 ((0 : Int) + 1) = 1 := w64 (by omega) (by omega)
  have e2 : wrap64 ((1 : Int) + 1) = 2 := w64 (by omega) (by omega)
  have e3 : wrap64 ((2 : Int) + 1) = 3 := w64 (by omega) (by omega)
  refine Ev.s (fun k => by rw [impl_RollupGroups.l0]) ?_
  refine Ev.t (by omega) (L 0 (by omega) (by omega) [] (by simp) _ ?_)
  rw [e1]
  refine Ev.s (fun k => by rw [impl_RollupGroups.l0]) ?_
  refine Ev.t (by omega) (L 1 (by omega) (by omega) _ (by simp; omega) _ ?_)
  rw [e2]
  refine Ev.s (fun k => by rw [impl_RollupGroups.l0]) ?_
  refine Ev.t (by omega) (L 2 (by omega) (by omega) _ (by simp; omega) _ ?_)
  rw [e3]
  refine Ev.s (fun k => by rw [impl_RollupGroups.l0]) ?_
  exact Ev.e (by omega) (Ev.p.r (by simp [rup]))
theorem spec_RollupGroups_l2 (l : List S49) (lev : Int) (M : List S49) (hM : M.length ≤ 1048576) (r : List S51) : ∀ (s : List S49) (i : Nat) (P : List S51), M.drop i = s → P.length + s.length ≤ 1000000000 → Ev (fun k => spec_RollupGroups.l0 k (P ++ s.map fun g => ⟨lev, g⟩) (wrap64 (lev + 1)) l) r → Ev (fun k => spec_RollupGroups.l2 k P lev M (i : Int) l) r := by
  intro s
  induction s with
  | nil =>
    intro i P hd hP h
    have := drop_nil' hd
    refine Ev.s (fun k => by rw [spec_RollupGroups.l2]) (Ev.e (by omega) ?_)
    simpa using h
  | cons x s ih =>
    intro i P hd hP h
    rw [List.length_cons] at hP
    obtain ⟨hi, hd', hx, -⟩ := drop_cons' hd
    refine Ev.s (fun k => by rw [spec_RollupGroups.l2]) (Ev.t (by omega) (Ev.t (by omega) (Ev.t (by omega) ?_)))
    rw [rdG, hx, w64s hi (by omega)]
    refine ih (i + 1) _ hd' (by simp; omega) ?_
    simpa using h
theorem spec_RollupGroups_l1 (l : List S49) (hl : l.length ≤ 1048576) (lev : Int) (P : List S51) (hP : P.length ≤ 100000000) (r : List S51) (h : Ev (fun k => spec_RollupGroups.l0 k (P ++ rlv lev l) (wrap64 (lev + 1)) l) r) : ∀ (s : List S49) (i : Nat) (A : List S49), l.drop i = s → A.length ≤ i → A ++ s.map (rkG lev) = l.map (rkG lev) → Ev (fun k => spec_RollupGroups.l1 k P lev A (i : Int) l) r := by
  intro s
  induction s with
  | nil =>
    intro i A hd hA he
    have := drop_nil' hd
    rw [List.map_nil, List.append_nil] at he
    have hm := mgs_len_le (l.map (rkG lev)) []
    rw [List.length_map] at hm
    simp only [List.length_nil] at hm
    subst he
    refine Ev.s (fun k => by rw [spec_RollupGroups.l1]) ?_
    refine Ev.e (by omega) (Ev.b (spec_MergeGroups_ev _ (by rw [List.length_map]; omega)) ?_)
    exact spec_RollupGroups_l2 l lev (mgs [] (l.map (rkG lev))) (by omega) r (mgs [] (l.map (rkG lev))) 0 P rfl (by omega) h
  | cons x s ih =>
    intro i A hd hA he
    obtain ⟨hi, hd', hx, -⟩ := drop_cons' hd
    refine Ev.s (fun k => by rw [spec_RollupGroups.l1]) (Ev.t (by omega) (Ev.t (by omega) ?_))
    rw [rdG, hx, w64s hi (by omega)]
    refine Ev.b (Ev.c (spec_RollupKey_eq x.f0 lev)) (Ev.t (by omega) ?_)
    exact ih (i + 1) _ hd' (by simp; omega) (by rw [← he]; simp [rkG])
theorem spec_RollupGroups_ev (l : List S49) (hl : l.length ≤ 1048576) : Ev (fun k => spec_RollupGroups.f k l) (rup l) := by
  have h0 := rlv_len 0 l; have h1 := rlv_len 1 l
  refine Ev.u (fun k => by rw [spec_RollupGroups.f]) ?_
  have L := fun (lev : Int) (P : List S51) (hP : P.length ≤ 100000000) (r : List S51) h => spec_RollupGroups_l1 l hl lev P hP r h l 0 [] rfl (by simp) rfl
  have e1 : wrap64 ((0 : Int) + 1) = 1 := w64 (by omega) (by omega)
  have e2 : wrap64 ((1 : Int) + 1) = 2 := w64 (by omega) (by omega)
  have e3 : wrap64 ((2 : Int) + 1) = 3 := w64 (by omega) (by omega)
  refine Ev.s (fun k => by rw [spec_RollupGroups.l0]) ?_
  refine Ev.t (by omega) (L 0 [] (by simp) _ ?_)
  rw [e1]
  refine Ev.s (fun k => by rw [spec_RollupGroups.l0]) ?_
  refine Ev.t (by omega) (L 1 _ (by simp; omega) _ ?_)
  rw [e2]
  refine Ev.s (fun k => by rw [spec_RollupGroups.l0]) ?_
  refine Ev.t (by omega) (L 2 _ (by simp; omega) _ ?_)
  rw [e3]
  refine Ev.s (fun k => by rw [spec_RollupGroups.l0]) ?_
  exact Ev.e (by omega) (Ev.p.r (by simp [rup]))
/-! texts -/
def fGr (g : S49) : List UInt8 := fI g.f0 ++ [58] ++ fI g.f1 ++ [44] ++ fI g.f2 ++ [44] ++ fI g.f3 ++ [44] ++ fI g.f4
theorem fGr_len {g : S49} (h : wG g) : (fGr g).length ≤ 109 := by
  have a := fI_len g.f0 h.1.1 h.1.2
  have b := fI_len g.f1 h.2.1.1 h.2.1.2
  have c := fI_len g.f2 h.2.2.1.1 h.2.2.1.2
  have d := fI_len g.f3 h.2.2.2.1.1 h.2.2.2.1.2
  have e := fI_len g.f4 h.2.2.2.2.1 h.2.2.2.2.2
  unfold fGr; simp only [List.length_append, List.length_singleton]; omega
def fRR (x : S51) : List UInt8 := fI x.f0 ++ [47] ++ fGr x.f1
theorem fRR_len {x : S51} (h : wI x.f0 ∧ wG x.f1) : (fRR x).length ≤ 131 := by
  have a := fI_len x.f0 h.1.1 h.1.2
  have b := fGr_len h.2
  unfold fRR; simp only [List.length_append, List.length_singleton]; omega
theorem cB (a : List UInt8) (c : UInt8) : toB a ++ (⟨#[c]⟩ : ByteArray) = toB (a ++ [c]) := toB_app a [c]
theorem szB (a : List UInt8) (c : UInt8) : (toB a).size + (⟨#[c]⟩ : ByteArray).size = a.length + 1 := rfl
theorem impl_groupText_ev (g : S49) (h : wG g) : Ev (fun k => impl_groupText.f k g.f0 g.f1 g.f2 g.f3 g.f4) (toB (fGr g)) := by
  have a := fI_len g.f0 h.1.1 h.1.2
  have b := fI_len g.f1 h.2.1.1 h.2.1.2
  have c := fI_len g.f2 h.2.2.1.1 h.2.2.1.2
  have d := fI_len g.f3 h.2.2.2.1.1 h.2.2.2.1.2
  have e := fI_len g.f4 h.2.2.2.2.1 h.2.2.2.2.2
  have ea := impl_FormatInt_ev g.f0 h.1.1 h.1.2
  have eb' := impl_FormatInt_ev g.f1 h.2.1.1 h.2.1.2
  have ec := impl_FormatInt_ev g.f2 h.2.2.1.1 h.2.2.1.2
  have ed := impl_FormatInt_ev g.f3 h.2.2.2.1.1 h.2.2.2.1.2
  have ee := impl_FormatInt_ev g.f4 h.2.2.2.2.1 h.2.2.2.2.2
  unfold fGr
  generalize fI g.f0 = A at *
  generalize fI g.f1 = B at *
  generalize fI g.f2 = C at *
  generalize fI g.f3 = D at *
  generalize fI g.f4 = E at *
  refine Ev.u (fun _ => rfl) (Ev.b ea (Ev.t (by rw [szB]; omega) (Ev.b eb' ?_)))
  simp only [cB, toB_app]
  refine Ev.t (by simp only [toB_sz, List.length_append, List.length_singleton]; omega) (Ev.t (by rw [szB]; simp only [List.length_append, List.length_singleton]; omega) (Ev.b ec ?_))
  simp only [toB_app]
  refine Ev.t (by simp only [toB_sz, List.length_append, List.length_singleton]; omega) (Ev.t (by rw [szB]; simp only [List.length_append, List.length_singleton]; omega) (Ev.b ed ?_))
  simp only [cB, toB_app]
  refine Ev.t (by simp only [toB_sz, List.length_append, List.length_singleton]; omega) (Ev.t (by rw [szB]; simp only [List.length_append, List.length_singleton]; omega) (Ev.b ee ?_))
  simp only [cB, toB_app]
  exact Ev.t (by simp only [toB_sz, List.length_append, List.length_singleton]; omega) Ev.p
theorem spec_FormatGroups_one (g : S49) (h : wG g) : Ev (fun k => spec_FormatGroups.f k [g]) (toB (fGr g)) := by
  have a := fI_len g.f0 h.1.1 h.1.2
  have b := fI_len g.f1 h.2.1.1 h.2.1.2
  have c := fI_len g.f2 h.2.2.1.1 h.2.2.1.2
  have d := fI_len g.f3 h.2.2.2.1.1 h.2.2.2.1.2
  have e := fI_len g.f4 h.2.2.2.2.1 h.2.2.2.2.2
  have ea := spec_FormatInt_ev g.f0 h.1.1 h.1.2
  have eb' := spec_FormatInt_ev g.f1 h.2.1.1 h.2.1.2
  have ec := spec_FormatInt_ev g.f2 h.2.2.1.1 h.2.2.1.2
  have ed := spec_FormatInt_ev g.f3 h.2.2.2.1.1 h.2.2.2.1.2
  have ee := spec_FormatInt_ev g.f4 h.2.2.2.2.1 h.2.2.2.2.2
  unfold fGr
  have r0 : rd_T49 [g] 0 = g := rfl
  refine Ev.u (fun k => by rw [spec_FormatGroups.f]) ?_
  refine Ev.s (fun k => by rw [spec_FormatGroups.l0]) (Ev.t (by simp) (Ev.e (by omega) ?_))
  refine Ev.s (fun k => by rw [spec_FormatGroups.j0]) ?_
  rw [r0]
  generalize fI g.f0 = A at *
  generalize fI g.f1 = B at *
  generalize fI g.f2 = C at *
  generalize fI g.f3 = D at *
  generalize fI g.f4 = E at *
  have n0 : ∀ s : List UInt8, (⟨#[]⟩ : ByteArray) ++ toB s = toB s := fun s => toB_app [] s
  refine Ev.t (by omega) (Ev.t (by simp) (Ev.b ea ?_))
  simp only [n0, cB]
  refine Ev.t (by show 0 + A.length ≤ _; omega) (Ev.t (by rw [szB]; omega) (Ev.b eb' ?_))
  simp only [toB_app, cB]
  refine Ev.t (by simp only [toB_sz, List.length_append, List.length_singleton]; omega) (Ev.t (by rw [szB]; simp only [List.length_append, List.length_singleton]; omega) (Ev.b ec ?_))
  simp only [toB_app, cB]
  refine Ev.t (by simp only [toB_sz, List.length_append, List.length_singleton]; omega) (Ev.t (by rw [szB]; simp only [List.length_append, List.length_singleton]; omega) (Ev.b ed ?_))
  simp only [toB_app, cB]
  refine Ev.t (by simp only [toB_sz, List.length_append, List.length_singleton]; omega) (Ev.t (by rw [szB]; simp only [List.length_append, List.length_singleton]; omega) (Ev.b ee ?_))
  simp only [toB_app, cB]
  refine Ev.t (by simp only [toB_sz, List.length_append, List.length_singleton]; omega) ?_
  refine Ev.s (fun k => by rw [spec_FormatGroups.l0]) ?_
  exact Ev.e (by rw [w64 (by omega) (by omega)]; simp) Ev.p
theorem impl_FormatRollup_ev (l : List S51) (hl : l.length ≤ 1048576) (hf : ∀ x ∈ l, wI x.f0 ∧ wG x.f1) : Ev (fun k => impl_FormatRollup.f k l) (toB (jnL 32 (l.map fRR))) := by
  have L : ∀ (s : List S51) (i : Nat) (A : List (List UInt8)), l.drop i = s → A.length ≤ i → i ≤ l.length → tot A ≤ 132 * i → Ev (fun k => impl_FormatRollup.l0 k (A.map toB) (l.length : Int) (i : Int) l) (toB (jnL 32 (A ++ s.map fRR))) := by
    intro s
    induction s with
    | nil =>
      intro i A hd hA hi ht
      have := drop_nil' hd
      refine Ev.s (fun k => by rw [impl_FormatRollup.l0]) ?_
      exact Ev.e (by omega) (Ev.b (impl_joined_ev 32 A (by omega) (by omega)) (Ev.p.r (by simp)))
    | cons x t ih =>
      intro i A hd hA hi ht
      obtain ⟨hi', hd', hx, -⟩ := drop_cons' hd
      have hw := hf x (List.mem_of_mem_drop (by rw [hd]; exact List.mem_cons_self ..))
      have hlen := fRR_len hw
      have a := fI_len x.f0 hw.1.1 hw.1.2
      have b := fGr_len hw.2
      have h := ih (i + 1) (A ++ [fRR x]) hd' (by simp; omega) (by omega) (by rw [tot_app, tot_cons, show tot [] = 0 from rfl]; omega)
      refine Ev.s (fun k => by rw [impl_FormatRollup.l0]) ?_
      rw [rdRR, hx, w64s hi' (by omega)]
      refine Ev.t (by omega) (Ev.t (by omega) (Ev.t (by omega) (Ev.t (by rw [List.length_map]; omega) (Ev.b (impl_FormatInt_ev x.f0 hw.1.1 hw.1.2) (Ev.t (by rw [szB]; omega) (Ev.b (impl_groupText_ev x.f1 hw.2) ?_))))))
      rw [cB, toB_app, toB_sz, toB_sz]
      refine Ev.t (by simp; omega) ?_
      rw [List.map_append, List.append_assoc] at h
      exact h
  exact Ev.u (fun _ => rfl) (L l 0 [] rfl (by simp) (by omega) (by simp [tot]))
theorem spec_FormatRollup_ev (l : List S51) (hl : l.length ≤ 1048576) (hf : ∀ x ∈ l, wI x.f0 ∧ wG x.f1) : Ev (fun k => spec_FormatRollup.f k l) (toB (jnL 32 (l.map fRR))) := by
  have J : ∀ (x : S51) (i : Nat) (acc : List UInt8) (r : ByteArray), i < l.length → (∀ d, l.getD i d = x) → (wI x.f0 ∧ wG x.f1) → acc.length ≤ 1000000000 → Ev (fun k => spec_FormatRollup.l0 k (toB (acc ++ fRR x)) ((i + 1 : Nat) : Int) l) r → Ev (fun k => spec_FormatRollup.j0 k (toB acc) (i : Int) l) r := by
    intro x i acc r hi hx hw ha h
    have a := fI_len x.f0 hw.1.1 hw.1.2
    have b := fGr_len hw.2
    refine Ev.s (fun k => by rw [spec_FormatRollup.j0]) ?_
    rw [rdRR, hx, w64s hi (by omega)]
    refine Ev.t (by omega) (Ev.t (by omega) (Ev.b (spec_FormatInt_ev x.f0 hw.1.1 hw.1.2) ?_))
    rw [toB_app, cB, szB, toB_sz, toB_sz]
    refine Ev.t (by omega) (Ev.t (by simp; omega) (Ev.b (spec_FormatGroups_one x.f1 hw.2) ?_))
    rw [toB_app, toB_sz, toB_sz]
    refine Ev.t (by simp; omega) ?_
    have e : acc ++ fI x.f0 ++ [47] ++ fGr x.f1 = acc ++ fRR x := by simp [fRR]
    rw [e]; exact h
  have L : ∀ (s : List S51) (i : Nat) (acc : List UInt8), l.drop i = s → 0 < i → acc.length + 132 * s.length ≤ 900000000 → Ev (fun k => spec_FormatRollup.l0 k (toB acc) (i : Int) l) (toB (acc ++ (s.map fRR).flatMap fun y => 32 :: y)) := by
    intro s
    induction s with
    | nil =>
      intro i acc hd h0 ha
      have := drop_nil' hd
      exact Ev.s (fun k => by rw [spec_FormatRollup.l0]) (Ev.e (by omega) (Ev.p.r (by simp)))
    | cons x t ih =>
      intro i acc hd h0 ha
      rw [List.length_cons] at ha
      obtain ⟨hi', hd', hx, -⟩ := drop_cons' hd
      have hw := hf x (List.mem_of_mem_drop (by rw [hd]; exact List.mem_cons_self ..))
      have hlen := fRR_len hw
      refine Ev.s (fun k => by rw [spec_FormatRollup.l0]) ?_
      rw [cB, szB]
      refine Ev.t (by omega) (Ev.t (by omega) (Ev.t (by omega) ?_))
      refine J x i (acc ++ [32]) _ hi' hx hw (by simp; omega) ((ih (i + 1) _ hd' (by omega) (by simp; omega)).r ?_)
      simp
  refine Ev.u (fun k => by rw [spec_FormatRollup.f]) ?_
  cases l with
  | nil => exact Ev.s (fun k => by rw [spec_FormatRollup.l0]) (Ev.e (by simp) (Ev.p.r (by rfl)))
  | cons x t =>
    have hw := hf x (List.mem_cons_self ..)
    have hlen := fRR_len hw
    rw [List.length_cons] at hl
    refine Ev.s (fun k => by rw [spec_FormatRollup.l0]) ?_
    refine Ev.t (by simp) (Ev.e (by omega) ?_)
    exact J x 0 [] _ (by simp) (fun _ => rfl) hw (by simp) (L t 1 (fRR x) rfl (by omega) (by omega))
theorem wI_rk {a lev : Int} (h : wI a) : wI (rk a lev) := by
  unfold rk
  split
  · exact h
  · split
    · exact wI_w _
    · exact ⟨by omega, by omega⟩
theorem rlv_w {lev : Int} (hlev : 0 ≤ lev ∧ lev ≤ 2) {L : List S49} (h : ∀ x ∈ L, wG x) : ∀ x ∈ rlv lev L, wI x.f0 ∧ wG x.f1 := by
  intro x hx
  unfold rlv at hx
  obtain ⟨g, hg, rfl⟩ := List.mem_map.1 hx
  refine ⟨⟨by show _ ≤ lev; omega, by show lev ≤ _; omega⟩, ?_⟩
  refine wG_mgs _ [] (by simp) (fun y hy => ?_) g hg
  obtain ⟨z, hz, rfl⟩ := List.mem_map.1 hy
  have := h z hz
  exact ⟨wI_rk this.1, this.2⟩
theorem rup_w {L : List S49} (h : ∀ x ∈ L, wG x) : ∀ x ∈ rup L, wI x.f0 ∧ wG x.f1 := by
  intro x hx
  unfold rup at hx
  rcases List.mem_append.1 hx with hx | hx
  · exact rlv_w (by omega) h x hx
  rcases List.mem_append.1 hx with hx | hx
  · exact rlv_w (by omega) h x hx
  · exact rlv_w (by omega) h x hx
/-! sums of the levels -/
def sLv (j : Int) (s : List S51) : Int := (s.map fun x => if x.f0 = j then x.f1.f1 else 0).sum
theorem sLv_cons (j : Int) (x : S51) (s : List S51) : sLv j (x :: s) = (if x.f0 = j then x.f1.f1 else 0) + sLv j s := by simp [sLv]
theorem sLv_app (j : Int) (a b : List S51) : sLv j (a ++ b) = sLv j a + sLv j b := by simp [sLv]
theorem sLv_same (j : Int) : ∀ M : List S49, sLv j (M.map fun g => (⟨j, g⟩ : S51)) = cnt M
  | [] => rfl
  | x :: M => by rw [List.map_cons, sLv_cons, sLv_same j M, cnt_cons]; simp
theorem sLv_other {i j : Int} (h : ¬ i = j) : ∀ M : List S49, sLv j (M.map fun g => (⟨i, g⟩ : S51)) = 0
  | [] => rfl
  | x :: M => by rw [List.map_cons, sLv_cons, sLv_other h M]; simp [h]
theorem cnt_rk (lev : Int) : ∀ L : List S49, cnt (L.map (rkG lev)) = cnt L
  | [] => rfl
  | x :: L => by rw [List.map_cons, cnt_cons, cnt_cons, cnt_rk lev L]; rfl
theorem rup_cnt {L : List S49} (h : ∀ x ∈ L, 0 ≤ x.f1) (hb : cnt L ≤ 1000000) : sLv 0 (rup L) = cnt L ∧ sLv 1 (rup L) = cnt L ∧ sLv 2 (rup L) = cnt L ∧ ∀ x ∈ rup L, 0 ≤ x.f1.f1 ∧ (x.f0 = 0 ∨ x.f0 = 1 ∨ x.f0 = 2) := by
  have hn := cnt_nn L h
  have key : ∀ lev : Int, cnt (mgs [] (L.map (rkG lev))) = cnt L ∧ ∀ x ∈ mgs [] (L.map (rkG lev)), 0 ≤ x.f1 := fun lev => by
    have := cnt_mgs (L.map (rkG lev)) [] (by simp) (fun x hx => by obtain ⟨z, hz, rfl⟩ := List.mem_map.1 hx; exact h z hz) (by rw [cnt_rk]; show 0 + cnt L ≤ _; omega)
    rw [cnt_rk] at this
    exact ⟨by rw [this.1]; show 0 + cnt L = _; omega, this.2⟩
  unfold rup rlv
  refine ⟨?_, ?_, ?_, fun x hx => ?_⟩
  · rw [sLv_app, sLv_app, sLv_same, sLv_other (by omega), sLv_other (by omega), (key 0).1]; omega
  · rw [sLv_app, sLv_app, sLv_same, sLv_other (by omega), sLv_other (by omega), (key 1).1]; omega
  · rw [sLv_app, sLv_app, sLv_same, sLv_other (by omega), sLv_other (by omega), (key 2).1]; omega
  · rcases List.mem_append.1 hx with hx | hx
    · obtain ⟨g, hg, rfl⟩ := List.mem_map.1 hx; exact ⟨(key 0).2 g hg, .inl rfl⟩
    rcases List.mem_append.1 hx with hx | hx
    · obtain ⟨g, hg, rfl⟩ := List.mem_map.1 hx; exact ⟨(key 1).2 g hg, .inr (.inl rfl)⟩
    · obtain ⟨g, hg, rfl⟩ := List.mem_map.1 hx; exact ⟨(key 2).2 g hg, .inr (.inr rfl)⟩
/-! what is drawn -/
def sRw (x : S75) : Prop := (-1 ≤ x.f0 ∧ x.f0 ≤ 100) ∧ (-1 ≤ x.f1 ∧ x.f1 ≤ 100)
theorem l2Any_ex2 (l : List Int) (p z : Int) (h : Rd l p) : ∃ a b c p' z', spec_l2Any.f l p z = some (a, b, c, p', z') ∧ sRw ⟨a, b, c⟩ ∧ Rd l p' := by
  obtain ⟨a, b, c, p1, z1, e1, a0, a1, b0, b1, c0, c1, h1⟩ := l2Row_ex l p z 10 h (by omega)
  obtain ⟨v, p2, z2, e2, -, -, h2⟩ := l1Below_ex l p1 z1 8 h1 (by omega)
  unfold spec_l2Any.f
  rw [ob e1, ob e2]
  dsimp only
  by_cases k0 : v = 0
  · obtain ⟨w, p3, z3, e3, m3, h3⟩ := l1PickInt_ex l p2 z2 [-1, 10] h2 (by simp) (by simp)
    simp only [List.mem_cons, List.not_mem_nil, or_false] at m3
    rw [if_pos k0, ob e3]; exact ⟨_, _, _, _, _, rfl, ⟨⟨by show -1 ≤ w; omega, by show w ≤ 100; omega⟩, ⟨by show -1 ≤ b; omega, by show b ≤ 100; omega⟩⟩, h3⟩
  rw [if_neg k0]
  by_cases k1 : v = 1
  · obtain ⟨w, p3, z3, e3, m3, h3⟩ := l1PickInt_ex l p2 z2 [-1, 100, 99] h2 (by simp) (by simp)
    simp only [List.mem_cons, List.not_mem_nil, or_false] at m3
    rw [if_pos k1, ob e3]; exact ⟨_, _, _, _, _, rfl, ⟨⟨by show -1 ≤ a; omega, by show a ≤ 100; omega⟩, ⟨by show -1 ≤ w; omega, by show w ≤ 100; omega⟩⟩, h3⟩
  rw [if_neg k1]
  by_cases k2 : v = 2
  · obtain ⟨w, p3, z3, e3, -, h3⟩ := l1PickInt_ex l p2 z2 [-1, 4] h2 (by simp) (by simp)
    rw [if_pos k2, ob e3]; exact ⟨_, _, _, _, _, rfl, ⟨⟨by show -1 ≤ a; omega, by show a ≤ 100; omega⟩, ⟨by show -1 ≤ b; omega, by show b ≤ 100; omega⟩⟩, h3⟩
  rw [if_neg k2]; exact ⟨_, _, _, _, _, rfl, ⟨⟨by show -1 ≤ a; omega, by show a ≤ 100; omega⟩, ⟨by show -1 ≤ b; omega, by show b ≤ 100; omega⟩⟩, h2⟩
theorem vAll_s {l : List S75} (h : vAll l = true) : ∀ x ∈ l, sRw x ∧ 0 ≤ x.f0 ∧ x.f0 ≤ 9 := fun x hx => by
  have := List.all_eq_true.1 h x hx
  simp only [vRow, Bool.and_eq_true, inB_iff'] at this
  exact ⟨⟨by omega, by omega⟩, this.1.1⟩
theorem dn_10 {l : List S75} (h : ∀ x ∈ l, 0 ≤ x.f0 ∧ x.f0 ≤ 9) : dn l ≤ 10 := by
  have := rgs_len l h
  rw [rgs_dk] at this; exact this
theorem l2Bent_ex2 (l : List Int) (p z n : Int) (h : Rd l p) (hn : 0 ≤ n ∧ n ≤ 100) : ∃ R p' z', Ev (fun k => spec_l2Bent.f k l p z n) (R, p', z') ∧ (R.length : Int) ≤ n + 1 ∧ dn R ≤ 11 ∧ (∀ x ∈ R, sRw x) ∧ Rd l p' := by
  obtain ⟨R, p1, z1, e1, hv, hl, h1⟩ := l2Rows_ex l p z n h hn
  obtain ⟨b, p2, z2, e2, h2⟩ := l1Once_ex l p1 z1 14 h1 (by omega)
  have hs := vAll_s hv
  have hd := dn_10 fun x hx => (hs x hx).2
  cases b with
  | true =>
    obtain ⟨a, b, c, p3, z3, e3, hsr, h3⟩ := l2Any_ex2 l p2 z2 h2
    refine ⟨R ++ [⟨a, b, c⟩], p3, z3, Ev.u (fun _ => rfl) (Ev.b e1 (Ev.b (Ev.c e2) (Ev.t rfl (Ev.b (Ev.c e3) ?_)))), by simp; omega, ?_, fun x hx => ?_, h3⟩
    · exact Ev.t (by show R.length < _; omega) Ev.p
    · unfold dn at hd ⊢
      rw [dk_app, dk]
      split
      · simpa [dk] using (Nat.le_trans hd (by omega))
      · rw [show ∀ D : List Int, dk D [] = D from fun _ => rfl, List.length_append, List.length_singleton]; omega
    · rcases List.mem_append.1 hx with hx | hx
      · exact (hs x hx).1
      · rw [List.mem_singleton.1 hx]; exact hsr
  | false => exact ⟨R, p2, z2, Ev.u (fun _ => rfl) (Ev.b e1 (Ev.b (Ev.c e2) (Ev.e (by simp) Ev.p))), by omega, by omega, fun x hx => (hs x hx).1, h2⟩
theorem DrawRollupRows_ex (l : List Int) (hl : l.length ≤ 1048576) : ∃ A, Ev (fun k => spec_DrawRollupRows.f k l) A ∧ A.length ≤ 13 ∧ dn A ≤ 11 ∧ ∀ x ∈ A, sRw x := by
  obtain ⟨z, e0⟩ := l1New_ev l hl
  obtain ⟨A, p2, z2, e2, a2, d2, s2, h2⟩ := l2Bent_ex2 l 0 z 12 (Rd0 l hl) (by omega)
  exact ⟨A, Ev.u (fun _ => rfl) (Ev.b e0 (Ev.b e2 Ev.p)), by omega, d2, s2⟩
theorem DrawRollupKey_ex (l : List Int) (hl : l.length ≤ 1048576) : ∃ a b, Ev (fun k => spec_DrawRollupKey.f k l) (a, b) := by
  obtain ⟨z, e0⟩ := l1New_ev l hl
  obtain ⟨v, p1, z1, e1, -, -, h1⟩ := l1Below_ex l 0 z 12 (Rd0 l hl) (by omega)
  obtain ⟨w, p2, z2, e2, -, -, h2⟩ := l1Below_ex l p1 z1 5 h1 (by omega)
  exact ⟨_, _, Ev.u (fun _ => rfl) (Ev.b e0 (Ev.b (Ev.c e1) (Ev.b (Ev.c e2) Ev.p)))⟩
def gOK (g : S49) : Prop := wG g ∧ 0 ≤ g.f0 ∧ g.f0 ≤ 9
theorem wG_gfr {x : S75} (h : sRw x) : wG (gfr x) := by
  obtain ⟨h1, h2⟩ := h
  exact ⟨⟨by show _ ≤ x.f0; omega, by show x.f0 ≤ _; omega⟩, ⟨by show _ ≤ (1 : Int); omega, by show (1 : Int) ≤ _; omega⟩, ⟨by show _ ≤ x.f1; omega, by show x.f1 ≤ _; omega⟩, ⟨by show _ ≤ x.f1; omega, by show x.f1 ≤ _; omega⟩, ⟨by show _ ≤ x.f1; omega, by show x.f1 ≤ _; omega⟩⟩
theorem wG_rgs {l : List S75} (h : ∀ x ∈ l, sRw x) : ∀ g ∈ rgs l, wG g := wG_mgs _ [] (by simp) fun y hy => by
  obtain ⟨x, hx, rfl⟩ := List.mem_map.1 hy
  exact wG_gfr (h x hx)
theorem l8Groups_l0 (l : List Int) : ∀ (m : Nat) (P : List S49) (p z : Int), Rd l p → (∀ g ∈ P, gOK g) → P.length + 3 * m ≤ 1000 → ∃ P' p' z', Ev (fun k => spec_l8Groups.l0 k P (m : Int) p z l) (P', p', z') ∧ (∀ g ∈ P', gOK g) ∧ P'.length ≤ P.length + 3 * m ∧ Rd l p' := by
  intro m
  induction m with
  | zero =>
    intro P p z h hP hl
    refine ⟨P, p, z, Ev.s (fun k => by rw [spec_l8Groups.l0]) ?_, hP, by omega, h⟩
    exact Ev.e (by omega) Ev.p
  | succ m ih =>
    intro P p z h hP hl
    obtain ⟨R, p1, z1, e1, hv, hR, h1⟩ := l2Rows_ex l p z 3 h (by omega)
    have hs := vAll_s hv
    have hw := wG_rgs fun x hx => (hs x hx).1
    have hk := mgs_mem (fun v => 0 ≤ v ∧ v ≤ 9) (R.map gfr) [] (fun x hx => by simp at hx) (rgs_mem R fun x hx => (hs x hx).2)
    have hrl : (rgs R).length ≤ 3 := by rw [rgs_dk]; have := dn_le R; unfold dn at this; omega
    obtain ⟨P', p', z', e, q1, q2, q3⟩ := ih (P ++ rgs R) p1 z1 h1 (fun g hg => by rcases List.mem_append.1 hg with hg | hg; exact hP g hg; exact ⟨hw g hg, hk g hg⟩) (by rw [List.length_append]; omega)
    refine ⟨P', p', z', Ev.s (fun k => by rw [spec_l8Groups.l0]) ?_, q1, by rw [List.length_append] at q2; omega, q3⟩
    rw [show wrap64 (((m + 1 : Nat) : Int) - 1) = (m : Int) by rw [w64 (by omega) (by omega)]; omega]
    exact Ev.t (by omega) (Ev.b e1 (Ev.b (spec_ReferenceGroups_ev R (by omega)) (Ev.t (by omega) e)))
theorem DrawRollupGroups_ex (l : List Int) (hl : l.length ≤ 1048576) : ∃ P, Ev (fun k => spec_DrawRollupGroups.f k l) P ∧ (∀ g ∈ P, gOK g) ∧ P.length ≤ 15 := by
  obtain ⟨z, e0⟩ := l1New_ev l hl
  obtain ⟨w, p5, z5, e5, w0, w1, h5⟩ := l1Below_ex l 0 z 6 (Rd0 l hl) (by omega)
  obtain ⟨m, rfl⟩ : ∃ m : Nat, w = m := ⟨w.toNat, by omega⟩
  obtain ⟨P', p', z', e, q1, q2, -⟩ := l8Groups_l0 l m [] p5 z5 h5 (by simp) (by simp; omega)
  exact ⟨P', Ev.u (fun _ => rfl) (Ev.b e0 (Ev.b (Ev.u (fun _ => rfl) (Ev.b (Ev.c e5) e)) Ev.p)), q1, by simp at q2; omega⟩
theorem mg_small {l : List S49} (lev : Int) (hl : l.length ≤ 1000) (h : l.length ≤ 11 ∨ ((∀ g ∈ l, gOK g) ∧ 0 ≤ lev ∧ lev ≤ 2)) : Ev (fun k => impl_MergeGroups.f k (l.map (rkG lev))) (mgs [] (l.map (rkG lev))) := by
  refine impl_MergeGroups_small _ (by rw [List.length_map]; omega) ?_
  rcases h with h | ⟨h, h1, h2⟩
  · have := mgs_len_le (l.map (rkG lev)) []
    rw [List.length_map] at this; simp only [List.length_nil] at this; omega
  · have := mgs_len (l.map (rkG lev)) fun x hx => by
      obtain ⟨g, hg, rfl⟩ := List.mem_map.1 hx
      have := (h g hg).2
      show 0 ≤ rk g.f0 lev ∧ rk g.f0 lev ≤ 9
      unfold rk
      split
      · exact this
      · split
        · rw [Int.tdiv_eq_ediv_of_nonneg (by omega), w64 (by omega) (by omega)]; omega
        · omega
    omega

theorem pure_FnRollup (l0 : List Int) (G0 : (l0.length ≤ maxLen ∧ ∀ y ∈ l0, (Lit.int .u8 y).wf = true)) : ∃ k, laws_FnRollup.f k l0 = some true := by
  refine Ev.ex ?_
  by_cases s0 : (l0.length : Int) > 1048576
  · exact Ev.u (fun _ => rfl) (Ev.b (Ev.c (big_eq l0)) (Ev.t (by simpa using s0) Ev.p))
  obtain ⟨A, e1, lA, dA, sA⟩ := DrawRollupRows_ex l0 (by omega)
  obtain ⟨a, b, e2⟩ := DrawRollupKey_ex l0 (by omega)
  obtain ⟨P, e3, oP, lP⟩ := DrawRollupGroups_ex l0 (by omega)
  have hr : (rgs A).length ≤ 11 := by rw [rgs_dk]; exact dA
  have g1 := impl_ReferenceGroups_ev A (by omega) (by omega)
  have g2 := spec_ReferenceGroups_ev A (by omega)
  have u1 := impl_RollupGroups_ev (rgs A) (by omega) fun lev _ _ => mg_small lev (by omega) (.inl hr)
  have u2 := spec_RollupGroups_ev (rgs A) (by omega)
  have v1 := impl_RollupGroups_ev P (by omega) fun lev h1 h2 => mg_small lev (by omega) (.inr ⟨oP, h1, h2⟩)
  have v2 := spec_RollupGroups_ev P (by omega)
  have r1 : Ev (fun k => impl_RollupRows.f k A) (rup (rgs A)) := Ev.u (fun _ => rfl) (Ev.b g1 (Ev.b u1 Ev.p))
  have r2 : Ev (fun k => spec_RollupRows.f k A) (rup (rgs A)) := Ev.u (fun _ => rfl) (Ev.b g2 (Ev.b u2 Ev.p))
  have hw := rup_w (wG_rgs sA)
  have hp := rup_w (fun g hg => (oP g hg).1)
  have z1 := rup_len (rgs A)
  have z2 := rup_len P
  have t1 := impl_FormatRollup_ev (rup (rgs A)) (by omega) hw
  have t2 := spec_FormatRollup_ev (rup (rgs A)) (by omega) hw
  have t3 := impl_FormatRollup_ev (rup P) (by omega) hp
  have t4 := spec_FormatRollup_ev (rup P) (by omega) hp
  obtain ⟨c1, c2⟩ := cnt_rgs A (by omega)
  obtain ⟨k0, k1, k2, k3⟩ := rup_cnt c2 (by omega)
  rw [c1] at k0 k1 k2
  generalize rup (rgs A) = R at *
  refine Ev.u (fun _ => rfl) (Ev.b (Ev.c (big_eq l0)) (Ev.e (by simpa using s0) (Ev.b e1 (Ev.b r1 (Ev.b r2 (Ev.b g1 (Ev.b u1 (Ev.b e2 (Ev.b e3 ?_)))))))))
  refine Ev.t rfl (Ev.t rfl (Ev.b (Ev.c (impl_RollupKey_eq a b)) (Ev.b (Ev.c (spec_RollupKey_eq a b)) (Ev.t rfl (Ev.b t1 (Ev.b t2 (Ev.t rfl ?_)))))))
  refine Ev.b v1 (Ev.b t3 (Ev.b v2 (Ev.b t4 (Ev.t rfl ?_))))
  have L : ∀ (s : List S51) (i : Nat) (x y z : Int), R.drop i = s → 0 ≤ x → 0 ≤ y → 0 ≤ z → x + sLv 0 s = A.length → y + sLv 1 s = A.length → z + sLv 2 s = A.length → (∀ r ∈ s, 0 ≤ r.f1.f1 ∧ (r.f0 = 0 ∨ r.f0 = 1 ∨ r.f0 = 2)) → Ev (fun k => laws_FnRollup.l0 k A R R R [x, y, z] (i : Int)) true := by
    intro s
    induction s with
    | nil =>
      intro i x y z hd hx hy hz h0 h1 h2 _
      have := drop_nil' hd
      rw [show sLv 0 [] = 0 from rfl] at h0
      rw [show sLv 1 [] = 0 from rfl] at h1
      rw [show sLv 2 [] = 0 from rfl] at h2
      refine Ev.s (fun k => by rw [laws_FnRollup.l0]) ?_
      rw [show rdOf 0 [x, y, z] 0 = x from rfl, show rdOf 0 [x, y, z] 1 = y from rfl, show rdOf 0 [x, y, z] 2 = z from rfl]
      exact Ev.e (by omega) (Ev.t (by simp) (Ev.t (by omega) (Ev.t (by simp) (Ev.t (by omega) (Ev.t (by simp) (Ev.p.r (decide_eq_true (by omega))))))))
    | cons r s ih =>
      intro i x y z hd hx hy hz h0 h1 h2 hs
      obtain ⟨hi, hd', hr, -⟩ := drop_cons' hd
      obtain ⟨q1, q2⟩ := hs r (List.mem_cons_self ..)
      have hs' := fun q hq => hs q (List.mem_cons_of_mem _ hq)
      have nn : ∀ j : Int, 0 ≤ sLv j s := by
        intro j
        clear ih hd hd' h0 h1 h2 hs
        induction s with
        | nil => exact Int.le_refl 0
        | cons w s ih2 =>
          rw [sLv_cons]
          have := (hs' w (List.mem_cons_self ..)).1
          have := ih2 (fun q hq => hs' q (List.mem_cons_of_mem _ hq))
          split <;> omega
      have n0 := nn 0; have n1 := nn 1; have n2 := nn 2
      rw [sLv_cons] at h0 h1 h2
      refine Ev.s (fun k => by rw [laws_FnRollup.l0]) ?_
      rw [rdRR, hr, w64s hi (by omega)]
      refine Ev.t (by omega) (Ev.t (by omega) (Ev.t (by omega) (Ev.t (by simp) (Ev.t (by omega) (Ev.t (by simp) ?_)))))
      rcases q2 with q | q | q
      · rw [q] at h0 h1 h2 ⊢
        simp only [if_pos] at h0
        rw [if_neg (by omega)] at h1 h2
        rw [show rdOf 0 [x, y, z] 0 = x from rfl, show [x, y, z].set (0 : Int).toNat (wrap64 (x + r.f1.f1)) = [wrap64 (x + r.f1.f1), y, z] from rfl, w64 (by omega) (by omega)]
        exact Ev.e (by omega) (Ev.e (by omega) (Ev.t (by omega) (Ev.t (by simp) (ih (i + 1) _ y z hd' (by omega) hy hz (by omega) (by omega) (by omega) hs'))))
      · rw [q] at h0 h1 h2 ⊢
        simp only [if_pos] at h1
        rw [if_neg (by omega)] at h0 h2
        rw [show rdOf 0 [x, y, z] 1 = y from rfl, show [x, y, z].set (1 : Int).toNat (wrap64 (y + r.f1.f1)) = [x, wrap64 (y + r.f1.f1), z] from rfl, w64 (by omega) (by omega)]
        exact Ev.e (by omega) (Ev.e (by omega) (Ev.t (by omega) (Ev.t (by simp) (ih (i + 1) x _ z hd' hx (by omega) hz (by omega) (by omega) (by omega) hs'))))
      · rw [q] at h0 h1 h2 ⊢
        simp only [if_pos] at h2
        rw [if_neg (by omega)] at h0 h1
        rw [show rdOf 0 [x, y, z] 2 = z from rfl, show [x, y, z].set (2 : Int).toNat (wrap64 (z + r.f1.f1)) = [x, y, wrap64 (z + r.f1.f1)] from rfl, w64 (by omega) (by omega)]
        exact Ev.e (by omega) (Ev.e (by omega) (Ev.t (by omega) (Ev.t (by simp) (ih (i + 1) x y _ hd' hx hy (by omega) (by omega) (by omega) (by omega) hs'))))
  exact L R 0 0 0 0 rfl (by omega) (by omega) (by omega) (by omega) (by omega) (by omega) k3

end Go.Proofs.Ytgpencaijhbolaa.K
namespace Go.Proofs.Ytgpencaijhbolaa.fnRollup
open Go Go.ChangeShapes Go.WideShapes Go.ChangeAt Go.RowKit Go.Proofs.Ytgpencaijhbolaa.K
open Go.ChangeMaps (open_string shut_string)
set_option linter.unusedVariables false
theorem own : ownKnob Try.prog.godebug = none := by kernel_rfl
theorem laidOut : laidOutB Try.prog = true := by kernel_rfl
set_option maxRecDepth 100000 in
theorem lifted (os : Os) (started : os.Started) (H : Type) (enc : TypeId × Value → H) :
    ReturnsInHanded {} Try.checked os 4 .any (Rows.fnRollupSpec.pre6 enc Try.prog Try.f4 Rows.fnRollupRow.domain false) (Rows.fnRollupSpec.post enc Try.prog Try.f4 false true false false) := by
  refine returnsInHanded_of_change_sized (C := Try.checked) own started (by kernel_rfl) Try.func4
    (ChangeSpec.witness6 (enc := enc) (C := Try.checked) false ⟨#[], #[.slice none 0 0], []⟩ 8 (by kernel_rfl) (by kernel_rfl) (by kernel_rfl) (by kernel_rfl)) ?_
  intro W base args ds gs before hval0 hW hcnd hsz0 _
  have hsz : (DataW.weightsEach Try.prog (Try.f4.params.toList ++ Rows.fnRollupSpec.plain.varTypes Try.prog) (ds ++ gs)).all (· ≤ reachBytes) = true := hsz0
  have hval : ∀ (j : Nat) t v, Try.f4.params[j]? = some t → args[j]? = some v → Value.okWide Try.prog W .any base t v := hval0
  have hW' := hW
  obtain ⟨p, q, hA0, hV, rfl, hfz, hnd⟩ := hW
  have hA : DataW.TrodAll enc Try.prog W 0 (fun _ => true) true Try.f4.params.toList args.toList ds p := hA0
  rw [Try.params4] at hA hval hsz
  obtain ⟨v0, vs0, d0, ds0, p0, q0, hargs, rfl, rfl, h0, r0⟩ := trodAll_cons hA
  obtain ⟨rfl, rfl, rfl⟩ := trodAll_nil r0
  obtain rfl : args = #[v0] := by cases args; simp_all
  obtain ⟨rfl, rfl⟩ := trodVars_none hV
  have k0 := h0
  have lt0 : ∀ x ∈ p0, x.block < W.heap.size := by obtain ⟨m, hm⟩ := k0; exact DataW.trod_lt m _ _ _ hm
  obtain ⟨A0, len0, c0, rfl⟩ := okWide_slice Try.underlying22 (hval 0 22 v0 rfl rfl)
  obtain ⟨l0, rfl, F0, G0⟩ := slice_arg (opens_slice Try.underlying22 (by kernel_rfl) (by kernel_rfl) (opens_int Try.underlying5 (by kernel_rfl))) h0
  clear hA0 hval0 hsz0 hsz
  obtain ⟨k, hk⟩ := K.pure_FnRollup l0 G0
  refine (law_calls (laws_FnRollup.ok k l0 A0 c0 true hk) (facts_app F0 facts_nil)).mono fun e W' he => ?_
  obtain ⟨rfl, bel⟩ := he
  exact ⟨_, rfl, _, _, _, [], _, [], hW', trodAll_mk1 (shut_bool Try.underlying4 _), (trodAll_cons_mk (Below.trod laidOut (by kernel_rfl) (of_decide_eq_true (by kernel_rfl)) k0 bel lt0) trodAll_mk0), rfl, bel.frame _, fun h => by cases h⟩
theorem over : Rows.fnRollupRow.holds Try.pinned (OpenSpec.ofChange Rows.fnRollupSpec) :=
  OpenClaim.holds_of_wide 4 Try.f4 rfl rfl rfl rfl rfl rfl rfl ⟨rfl, rfl, rfl, rfl, rfl⟩ rfl rfl rfl rfl rfl (by kernel_rfl) Try.func4 (by kernel_rfl)
    (of_decide_eq_true (by kernel_rfl)) (by unfold Func.isWrapper; first | (rw [if_pos (by decide +kernel)]; kernel_rfl) | (rw [if_neg (by decide +kernel)]; exact ⟨rfl, rfl⟩))
    (fun os started H enc _ => lifted os started H enc)
theorem proved : Rows.FnRollupSaid := over
#print axioms proved
end Go.Proofs.Ytgpencaijhbolaa.fnRollup
namespace Go.Proofs.Ytgpencaijhbolaa
/-- The row, under a short name, for the claim. -/
theorem fnRollup_holds : Rows.FnRollupSaid := fnRollup.proved
end Go.Proofs.Ytgpencaijhbolaa
