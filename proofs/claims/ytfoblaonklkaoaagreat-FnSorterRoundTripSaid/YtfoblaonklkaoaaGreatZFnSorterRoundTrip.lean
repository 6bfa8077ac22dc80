/- FnSorterRoundTrip answers true at every input. -/
import Derived.Below
import Derived.Carry
import Derived.ChangeOld
import Derived.OpenShut
import Derived.ProofKit
import Derived.ShutString
import Derived.SizedLaws
import Derived.Test.YtfoblaonklkaoaaGreatChecked
import Derived.Test.YtfoblaonklkaoaaGreatRows
import Derived.WalkKit
import Derived.Test.YtfoblaonklkaoaaGreatVFnSorterRoundTripg
namespace Go.Proofs.YtfoblaonklkaoaaGreat.K
open Go Go.RowKit
set_option linter.unusedVariables false
set_option linter.unusedSimpArgs false
def Ev {α : Type} (f : Nat → Option α) (r : α) : Prop := ∃ K, ∀ k, K ≤ k → f k = some r
theorem Ev.p {α : Type} {r : α} : Ev (fun _ => some r) r := ⟨0, fun _ _ => rfl⟩
theorem Ev.c {α : Type} {o : Option α} {r : α} (h : o = some r) : Ev (fun _ => o) r := ⟨0, fun _ _ => h⟩
theorem Ev.b {α β : Type} {f : Nat → Option α} {g : Nat → α → Option β} {a : α} {r : β} (hf : Ev f a) (hg : Ev (fun k => g k a) r) : Ev (fun k => (f k).bind (g k)) r := by
 obtain ⟨K, h⟩ := hf; obtain ⟨L, h'⟩ := hg
 exact ⟨max K L, fun k hk => by show (f k).bind (g k) = some r; rw [h k (by omega)]; exact h' k (by omega)⟩
theorem Ev.t {α : Type} {p : Prop} [Decidable p] {f g : Nat → Option α} {r : α} (h : p) (hf : Ev f r) : Ev (fun k => if p then f k else g k) r := by
 obtain ⟨K, h'⟩ := hf
 exact ⟨K, fun k hk => by show (if p then f k else g k) = some r; rw [if_pos h]; exact h' k hk⟩
theorem Ev.e {α : Type} {p : Prop} [Decidable p] {f g : Nat → Option α} {r : α} (h : ¬ p) (hg : Ev g r) : Ev (fun k => if p then f k else g k) r := by
 obtain ⟨K, h'⟩ := hg
 exact ⟨K, fun k hk => by show (if p then f k else g k) = some r; rw [if_neg h]; exact h' k hk⟩
theorem Ev.i {α : Type} {p : Prop} [Decidable p] {f g : Nat → Option α} {r : α} (hf : p → Ev f r) (hg : ¬ p → Ev g r) : Ev (fun k => if p then f k else g k) r := by
 by_cases h : p
 ·exact Ev.t h (hf h)
 ·exact Ev.e h (hg h)
theorem Ev.s {α : Type} {L f : Nat → Option α} {r : α} (h : ∀ k, L (k + 1) = f k) (hf : Ev f r) : Ev L r := by
 obtain ⟨K, h'⟩ := hf
 refine ⟨K + 1, fun k hk => ?_⟩
 obtain ⟨m, rfl⟩ : ∃ m, k = m + 1 := ⟨k - 1, by omega⟩
 rw [h]; exact h' m (by omega)
theorem Ev.u {α : Type} {L f : Nat → Option α} {r : α} (h : ∀ k, L k = f k) (hf : Ev f r) : Ev L r := by
 obtain ⟨K, h'⟩ := hf
 exact ⟨K, fun k hk => by rw [h]; exact h' k hk⟩
theorem Ev.r {α : Type} {f : Nat → Option α} {r r' : α} (h : Ev f r) (e : r = r') : Ev f r' := e ▸ h
theorem Ev.r' {α : Type} {f g : Nat → Option α} {r r' : α} (h : Ev f r) (e1 : ∀ k, f k = g k) (e : r = r') : Ev g r' := by
 subst e; obtain ⟨K, h'⟩ := h
 exact ⟨K, fun k hk => by rw [← e1]; exact h' k hk⟩
theorem Ev.ex {α : Type} {f : Nat → Option α} {r : α} (h : Ev f r) : ∃ k, f k = some r := by
 obtain ⟨K, h'⟩ := h
 exact ⟨K, h' K (Nat.le_refl _)⟩
theorem dQ {α : Type} {l : List α} {i : Nat} (h : l.drop i = []) : l.length ≤ i := List.drop_eq_nil_iff.1 h
theorem cV {α : Type} {l : List α} {i : Nat} {x : α} {t : List α} (h : l.drop i = x :: t) : i < l.length ∧ l.drop (i + 1) = t ∧ (∀ d, l.getD i d = x) ∧ l.length = i + 1 + t.length := by
 have hl := congrArg List.length h
 rw [List.length_drop, List.length_cons] at hl
 refine ⟨by omega, ?_, fun d => ?_, by omega⟩
 ·rw [← List.drop_drop, h]; rfl
 ·have : l[i]? = some x := by rw [← List.head?_drop, h]; rfl
  rw [List.getD_eq_getElem?_getD, this]; rfl
theorem eC {x : Int} (h0 : -9223372036854775808 ≤ x) (h1 : x ≤ 9223372036854775807) : wrap64 x = x := by unfold wrap64; omega
theorem iu {i n : Nat} (h : i < n) (hn : n ≤ 9223372036854775807) : wrap64 ((i : Int) + 1) = ((i + 1 : Nat) : Int) := by rw [eC (by omega) (by omega)]; rfl
theorem ael : maxLen = 9223372036854775807 := rfl
theorem ahN {n : Int} (h : (Lit.int .i64 n).wf = true) : (-9223372036854775808 : Int) ≤ n ∧ n ≤ 9223372036854775807 := by
 simp [Lit.wf, IntKind.min, IntKind.max, IntKind.signed, IntKind.bits] at h
 exact h
theorem ob {α β : Type} {o : Option α} {a : α} {f : α → Option β} (h : o = some a) : o.bind f = f a := by subst h; rfl
def pk (n a b : Int) : Bool := decide (a ≤ n ∧ n ≤ b)
theorem pX (n a b : Int) : fD.f n a b = some (pk n a b) := by
 unfold fD.f pk; split <;> simp <;> omega
theorem uT (n a b : Int) : gO.f n a b = some (pk n a b) := by
 unfold gO.f pk; split <;> simp <;> omega
def vX (a b c : Int) : Bool := pk a 0 9 && pk b 0 99 && pk c 0 3
theorem qw (a b c : Int) : gV.f a b c = some (vX a b c) := by
 unfold gV.f vX
 rw [pX, pX, pX, ob rfl]
 cases pk a 0 9
 ·simp
 ·rw [if_pos rfl, ob rfl]; cases pk b 0 99 <;> simp
theorem uz (a b c : Int) : iv.f a b c = some (vX a b c) := by
 unfold iv.f vX
 rw [uT, uT, uT, ob rfl]
 cases pk a 0 9
 ·simp
 ·rw [if_pos rfl, ob rfl]; cases pk b 0 99 <;> simp
def sU (x : ah) : Int := if vX x.f0 x.f1 x.f2 = true then 1 + x.f2 else 0
theorem o5 (x : ah) : 0 ≤ sU x ∧ sU x ≤ 4 := by
 unfold sU
 by_cases h : vX x.f0 x.f1 x.f2 = true
 ·rw [if_pos h]; simp [vX, pk] at h; omega
 ·rw [if_neg h]; omega
theorem qu (x : ah) : fE.f x.f0 x.f1 x.f2 = some (sU x) := by
 unfold fE.f sU
 rw [qw, ob rfl]
 by_cases h : vX x.f0 x.f1 x.f2 = true
 ·rw [if_pos h, if_pos h]; simp [vX, pk] at h; rw [eC (by omega) (by omega)]
 ·rw [if_neg h, if_neg h]
theorem lA (x : ah) : gp.f x.f0 x.f1 x.f2 = some (sU x) := by
 unfold gp.f sU
 rw [uz, ob rfl]
 by_cases h : vX x.f0 x.f1 x.f2 = true
 ·rw [if_pos h, if_pos h]; simp [vX, pk] at h; rw [eC (by omega) (by omega)]
 ·rw [if_neg h, if_neg h]
def jw (l : List ah) : Int := (l.map sU).sum
theorem FY (x : ah) (l : List ah) : jw (x :: l) = sU x + jw l := by simp [jw]
theorem uQ : ∀ l : List ah, 0 ≤ jw l ∧ jw l ≤ 4 * l.length
 | [] => by simp [jw]
 | x :: l => by have := uQ l; have := o5 x; rw [FY, List.length_cons]; omega
theorem rO (l : List ah) (i : Nat) : aa l (i : Int) = l.getD i cK := rfl
theorem JD (l : List ah) (hl : l.length ≤ 1152921504606846975) : ∀ (s : List ah) (i : Nat) (acc : Int), l.drop i = s → 0 ≤ acc → acc ≤ 4 * i → Ev (fun k => fY.l0 k acc (l.length : Int) (i : Int) l) (acc + jw s) := by
 intro s
 induction s with
 | nil =>
  intro i acc hd h0 h1
  have := dQ hd
  exact Ev.s (fun k => by rw [fY.l0]) (Ev.e (by omega) (Ev.p.r (by simp [jw])))
 | cons x t ih =>
  intro i acc hd h0 h1
  obtain ⟨hi, hd', hx, -⟩ := cV hd
  have := o5 x
  refine Ev.s (fun k => by rw [fY.l0]) (Ev.t (by omega) (Ev.t (by omega) (Ev.t (by omega) ?_)))
  rw [rO, hx]
  refine Ev.b (Ev.c (qu x)) ?_
  rw [iu hi (by omega), eC (by omega) (by omega)]
  exact (ih (i + 1) (acc + sU x) hd' (by omega) (by omega)).r (by rw [FY]; omega)
theorem AB (l : List ah) (hl : l.length ≤ 1152921504606846975) : Ev (fun k => fY.f k l) (jw l) :=
 Ev.u (fun _ => rfl) ((JD l hl l 0 0 rfl (by omega) (by omega)).r (by omega))
theorem Jy (l : List ah) (hl : l.length ≤ 1152921504606846975) : ∀ (s : List ah) (i : Nat) (acc : Int), l.drop i = s → 0 ≤ acc → acc ≤ 4 * i → Ev (fun k => eu.l0 k acc (i : Int) l) (acc + jw s) := by
 intro s
 induction s with
 | nil =>
  intro i acc hd h0 h1
  have := dQ hd
  exact Ev.s (fun k => by rw [eu.l0]) (Ev.e (by omega) (Ev.p.r (by simp [jw])))
 | cons x t ih =>
  intro i acc hd h0 h1
  obtain ⟨hi, hd', hx, -⟩ := cV hd
  have := o5 x
  refine Ev.s (fun k => by rw [eu.l0]) (Ev.t (by omega) (Ev.t (by omega) ?_))
  rw [rO, hx]
  refine Ev.b (Ev.c (lA x)) ?_
  rw [iu hi (by omega), eC (by omega) (by omega)]
  exact (ih (i + 1) (acc + sU x) hd' (by omega) (by omega)).r (by rw [FY]; omega)
theorem Av (l : List ah) (hl : l.length ≤ 1152921504606846975) : Ev (fun k => eu.f k l) (jw l) :=
 Ev.u (fun _ => rfl) ((Jy l hl l 0 0 rfl (by omega) (by omega)).r (by omega))
def po (l : List ah) : Bool := l.all fun x => vX x.f0 x.f1 x.f2
theorem Kq (l : List ah) (hl : l.length ≤ 1152921504606846975) : ∀ (s : List ah) (i : Nat), l.drop i = s → Ev (fun k => gY.l0 k (l.length : Int) (i : Int) l) (po s) := by
 intro s
 induction s with
 | nil =>
  intro i hd
  have := dQ hd
  exact Ev.s (fun k => by rw [gY.l0]) (Ev.e (by omega) (Ev.p.r (by rfl)))
 | cons x t ih =>
  intro i hd
  obtain ⟨hi, hd', hx, -⟩ := cV hd
  refine Ev.s (fun k => by rw [gY.l0]) (Ev.t (by omega) (Ev.t (by omega) (Ev.t (by omega) ?_)))
  rw [rO, hx]
  refine Ev.b (Ev.c (qw ..)) (Ev.i (fun h => ?_) (fun h => ?_))
  ·rw [iu hi (by omega)]
   exact (ih (i + 1) hd').r (by simp [po, h])
  ·exact Ev.p.r (by simp [po, h])
theorem Kr (l : List ah) (hl : l.length ≤ 1152921504606846975) : Ev (fun k => gY.f k l) (po l) :=
 Ev.u (fun _ => rfl) (Kq l hl l 0 rfl)
def hH (l : List ah) : Bool := po l && decide (l.length ≤ 24)
theorem ox (l : List ah) (hl : l.length ≤ 1152921504606846975) : Ev (fun k => gG.f k l) (hH l) :=
 Ev.u (fun _ => rfl) (Ev.i (fun h => Ev.b (Kr l hl) (Ev.p.r (by simp [hH]; omega))) (fun h => Ev.p.r (by simp [hH]; omega)))
theorem F8 (l : List ah) (hl : l.length ≤ 1152921504606846975) : ∀ (s : List ah) (i : Nat), l.drop i = s → Ev (fun k => dA.l0 k (i : Int) l) (po s && decide (l.length ≤ 24)) := by
 intro s
 induction s with
 | nil =>
  intro i hd
  have := dQ hd
  exact Ev.s (fun k => by rw [dA.l0]) (Ev.e (by omega) (Ev.p.r (by simp [po]; omega)))
 | cons x t ih =>
  intro i hd
  obtain ⟨hi, hd', hx, -⟩ := cV hd
  refine Ev.s (fun k => by rw [dA.l0]) (Ev.t (by omega) (Ev.t (by omega) ?_))
  rw [rO, hx]
  refine Ev.b (Ev.c (uz ..)) (Ev.i (fun h => ?_) (fun h => ?_))
  ·rw [iu hi (by omega)]
   exact (ih (i + 1) hd').r (by simp [po, h])
  ·exact Ev.p.r (by simp [po, h])
theorem lB (l : List ah) (hl : l.length ≤ 1152921504606846975) : Ev (fun k => dA.f k l) (hH l) :=
 Ev.u (fun _ => rfl) (F8 l hl l 0 rfl)
def AW (x y : ah) : Bool := x.f0 == y.f0 && (x.f1 == y.f1 && x.f2 == y.f2)
def iy (a b : List ah) : Bool := match a, b with
 | [], [] => true
 | x :: a, y :: b => AW x y && iy a b
 | _, _ => false
theorem UC {x y : ah} : AW x y = true ↔ x = y := by
 obtain ⟨a, b, c⟩ := x; obtain ⟨d, e, f⟩ := y; simp [AW]
theorem jV : ∀ {a b : List ah}, iy a b = true ↔ a = b
 | [], [] => by simp [iy]
 | x :: a, y :: b => by simp [iy, UC, jV]
 | [], y :: b => by simp [iy]
 | x :: a, [] => by simp [iy]
theorem S1 {a b : List ah} (h : iy a b = true) : a.length = b.length := by rw [jV.1 h]
theorem OD (l m : List ah) (hl : l.length ≤ 1152921504606846975) (hm : l.length = m.length) : ∀ (s t : List ah) (i : Nat), l.drop i = s → m.drop i = t → Ev (fun k => eP.l0 k (l.length : Int) (i : Int) l m) (iy s t) := by
 intro s
 induction s with
 | nil =>
  intro t i hd he
  have := dQ hd
  have ht : t = [] := by rw [← he]; exact List.drop_eq_nil_iff.2 (by omega)
  subst ht
  exact Ev.s (fun k => by rw [eP.l0]) (Ev.e (by omega) (Ev.p.r (by rfl)))
 | cons x s ih =>
  intro t i hd he
  obtain ⟨hi, hd', hx, -⟩ := cV hd
  cases t with
  | nil => have := dQ he; omega
  | cons y t =>
   obtain ⟨hj, he', hy, -⟩ := cV he
   refine Ev.s (fun k => by rw [eP.l0]) (Ev.t (by omega) (Ev.t (by omega) (Ev.t (by omega) (Ev.t (by omega) ?_))))
   rw [rO, rO, hx, hy]
   refine Ev.i (fun h => ?_) (fun h => ?_)
   ·rw [iu hi (by omega)]
    exact (ih t (i + 1) hd' he').r (by have h' : AW x y = true := h; simp [iy, h'])
   ·exact Ev.p.r (by have h' : ¬ AW x y = true := h; simp [iy, h'])
theorem Dj {a b : List ah} (h : a.length ≠ b.length) : iy a b = false := by
 cases e : iy a b with
 | false => rfl
 | true => exact absurd (S1 e) h
theorem lP (l m : List ah) (hl : l.length ≤ 1152921504606846975) : Ev (fun k => eP.f k l m) (iy l m) :=
 Ev.u (fun _ => rfl) (Ev.i (fun h => OD l m hl (by omega) l m 0 rfl rfl) (fun h => Ev.p.r (Dj (by omega)).symm))
theorem M5 (l m : List ah) (hl : l.length ≤ 1152921504606846975) (hm : l.length = m.length) : ∀ (s t : List ah) (i : Nat), l.drop i = s → m.drop i = t → Ev (fun k => eM.l0 k (i : Int) l m) (iy s t) := by
 intro s
 induction s with
 | nil =>
  intro t i hd he
  have := dQ hd
  have ht : t = [] := by rw [← he]; exact List.drop_eq_nil_iff.2 (by omega)
  subst ht
  exact Ev.s (fun k => by rw [eM.l0]) (Ev.e (by omega) (Ev.p.r (by rfl)))
 | cons x s ih =>
  intro t i hd he
  obtain ⟨hi, hd', hx, -⟩ := cV hd
  cases t with
  | nil => have := dQ he; omega
  | cons y t =>
   obtain ⟨hj, he', hy, -⟩ := cV he
   refine Ev.s (fun k => by rw [eM.l0]) (Ev.t (by omega) (Ev.t (by omega) (Ev.t (by omega) ?_)))
   rw [rO, rO, hx, hy]
   refine Ev.i (fun h => ?_) (fun h => ?_)
   ·rw [iu hi (by omega)]
    exact (ih t (i + 1) hd' he').r (by have h' : AW x y = true := h; simp [iy, h'])
   ·exact Ev.p.r (by have h' : ¬ AW x y = true := h; simp [iy, h'])
theorem mq (l m : List ah) (hl : l.length ≤ 1152921504606846975) : Ev (fun k => eM.f k l m) (iy l m) :=
 Ev.u (fun _ => rfl) (Ev.i (fun h => M5 l m hl (by omega) l m 0 rfl rfl) (fun h => Ev.p.r (Dj (by omega)).symm))
theorem nO (l : List ah) (hl : l.length ≤ 5864062014805) : hP.f l = some l := by
 unfold hP.f; rw [if_pos hl]
def afx (key level : Int) : Int := if pk level 0 3 && pk key 0 9 then andI (eo (Int.tmod (key * 7) 16) level) 1 else 0
def hb (level : Int) (x : ah) : Bool := afx x.f0 level == 0
theorem rdI (l : List Int) (i : Nat) : bu 0 l (i : Int) = l.getD i 0 := rfl
theorem iH {l : List ah} (h : hH l = true) : l.length ≤ 24 := by
 unfold hH at h; rw [Bool.and_eq_true] at h; exact of_decide_eq_true h.2
theorem N0 {l : List ah} : hH l = true ↔ po l = true ∧ l.length ≤ 24 := by unfold hH; rw [Bool.and_eq_true, decide_eq_true_iff]
theorem afg {x : Int} (h0 : 0 ≤ x) (h1 : x ≤ 9223372036854775807) : IntKind.u64.wrap x = x := by
 simp [IntKind.wrap, IntKind.bits, IntKind.signed]; omega
def Nz (x y : ah) : Int := if x.f0 < y.f0 then -1 else if x.f0 > y.f0 then 1 else if x.f1 < y.f1 then -1 else if x.f1 > y.f1 then 1 else if x.f2 < y.f2 then -1 else if x.f2 > y.f2 then 1 else 0
theorem jm (x y : ah) : Ev (fun k => cY.f k x.f0 x.f1 x.f2 y.f0 y.f1 y.f2) (Nz x y) := by
 have w1 : wrap64 ((0 : Int) + 1) = 1 := eC (by omega) (by omega)
 have w2 : wrap64 ((1 : Int) + 1) = 2 := eC (by omega) (by omega)
 have w3 : wrap64 ((2 : Int) + 1) = 3 := eC (by omega) (by omega)
 unfold Nz
 refine Ev.u (fun k => by rw [cY.f]) ?_
 refine Ev.s (fun k => by rw [cY.l0]) (Ev.t (by omega) (Ev.t (by omega) (Ev.t (by simp) (Ev.t (by simp) ?_))))
 rw [show bu 0 [x.f0, x.f1, x.f2] 0 = x.f0 from rfl, show bu 0 [y.f0, y.f1, y.f2] 0 = y.f0 from rfl, w1]
 refine Ev.i (fun h => by rw [if_pos h]; exact Ev.p) (fun h => ?_)
 rw [if_neg h]
 refine Ev.i (fun h => by rw [if_pos h]; exact Ev.p) (fun h => ?_)
 rw [if_neg h]
 refine Ev.s (fun k => by rw [cY.l0]) (Ev.t (by omega) (Ev.t (by omega) (Ev.t (by simp) (Ev.t (by simp) ?_))))
 rw [show bu 0 [x.f0, x.f1, x.f2] 1 = x.f1 from rfl, show bu 0 [y.f0, y.f1, y.f2] 1 = y.f1 from rfl, w2]
 refine Ev.i (fun h => by rw [if_pos h]; exact Ev.p) (fun h => ?_)
 rw [if_neg h]
 refine Ev.i (fun h => by rw [if_pos h]; exact Ev.p) (fun h => ?_)
 rw [if_neg h]
 refine Ev.s (fun k => by rw [cY.l0]) (Ev.t (by omega) (Ev.t (by omega) (Ev.t (by simp) (Ev.t (by simp) ?_))))
 rw [show bu 0 [x.f0, x.f1, x.f2] 2 = x.f2 from rfl, show bu 0 [y.f0, y.f1, y.f2] 2 = y.f2 from rfl, w3]
 refine Ev.i (fun h => by rw [if_pos h]; exact Ev.p) (fun h => ?_)
 rw [if_neg h]
 refine Ev.i (fun h => by rw [if_pos h]; exact Ev.p) (fun h => ?_)
 rw [if_neg h]
 refine Ev.s (fun k => by rw [cY.l0]) ?_
 exact Ev.e (by omega) Ev.p
theorem GC (a : Int) : 0 ≤ andI a 255 ∧ andI a 255 ≤ 255 := by
 unfold andI
 have h1 : (BitVec.ofInt 64 a &&& BitVec.ofInt 64 255).toNat ≤ 255 := by
  rw [BitVec.toNat_and]
  exact Nat.and_le_right
 rw [eC (by omega) (by omega)]
 omega
def Rd (l : List Int) (p : Int) : Prop := 0 ≤ p ∧ p ≤ (l.length : Int) ∧ l.length ≤ 1099511627776
theorem uD (l : List Int) (p z : Int) (h : Rd l p) : ∃ v p' z', gI.f l p z = some (v, p', z') ∧ 0 ≤ v ∧ v ≤ 255 ∧ Rd l p' := by
 obtain ⟨h0, h1, h2⟩ := h
 unfold gI.f
 by_cases hp : p < (l.length : Int)
 ·rw [if_pos hp, if_pos h0]
  refine ⟨_, _, _, rfl, (GC _).1, (GC _).2, ?_⟩
  rw [eC (by omega) (by omega)]
  exact ⟨by omega, by omega, h2⟩
 ·rw [if_neg hp]
  exact ⟨_, _, _, rfl, (GC _).1, (GC _).2, h0, h1, h2⟩
theorem iw (l : List Int) (p z n : Int) (h : Rd l p) (hn : n ≤ 256) : ∃ v p' z', cP.f l p z n = some (v, p', z') ∧ 0 ≤ v ∧ (v < n ∨ (n ≤ 0 ∧ v = 0)) ∧ Rd l p' := by
 unfold cP.f
 by_cases h0 : n ≤ 0
 ·rw [if_pos h0]; exact ⟨0, p, z, rfl, by omega, .inr ⟨h0, rfl⟩, h⟩
 ·rw [if_neg h0, if_pos hn]
  obtain ⟨v, p', z', e, v0, v1, hr⟩ := uD l p z h
  rw [ob e, if_pos (by omega)]
  have e2 : Int.tmod v n = v % n := Int.tmod_eq_emod_of_nonneg v0
  refine ⟨_, _, _, rfl, ?_, .inl ?_, hr⟩
  ·show 0 ≤ Int.tmod v n
   rw [e2]; exact Int.emod_nonneg _ (by omega)
  ·show Int.tmod v n < n
   rw [e2]; exact Int.emod_lt_of_pos _ (by omega)
theorem Oc (l : List Int) (p z n : Int) (h : Rd l p) (hn : n ≤ 256) : ∃ b p' z', mI.f l p z n = some (b, p', z') ∧ Rd l p' := by
 obtain ⟨v, p', z', e, -, -, hr⟩ := iw l p z n h hn
 unfold mI.f
 rw [ob e]
 exact ⟨_, _, _, rfl, hr⟩
theorem CA (l : List Int) (p z : Int) (c : List Int) (h : Rd l p) (hc : 0 < c.length) (hn : c.length ≤ 256) : ∃ v p' z', hZ.f l p z c = some (v, p', z') ∧ v ∈ c ∧ Rd l p' := by
 obtain ⟨v, p', z', e, v0, v1, hr⟩ := iw l p z (c.length : Int) h (by omega)
 unfold hZ.f
 rw [ob e]
 show ∃ v' q q', (if 0 ≤ v then (if v < (c.length : Int) then some (bu 0 c v, p', z') else none) else none) = some (v', q, q') ∧ _
 rw [if_pos v0, if_pos (by omega)]
 refine ⟨_, _, _, rfl, ?_, hr⟩
 obtain ⟨n, rfl⟩ : ∃ n : Nat, v = n := ⟨v.toNat, by omega⟩
 rw [rdI, List.getD_eq_getElem?_getD, List.getElem?_eq_getElem (by omega)]
 exact List.getElem_mem (by omega)
theorem PR (l : List Int) (p z n : Int) (h : Rd l p) (hn : n ≤ 256) : ∃ a b c p' z', ot.f l p z n = some (a, b, c, p', z') ∧ 0 ≤ a ∧ (a < n ∨ (n ≤ 0 ∧ a = 0)) ∧ 0 ≤ b ∧ b ≤ 99 ∧ 0 ≤ c ∧ c ≤ 3 ∧ Rd l p' := by
 obtain ⟨v1, p1, z1, e1, a0, a1, h1⟩ := iw l p z n h hn
 obtain ⟨v2, p2, z2, e2, b0, b1, h2⟩ := iw l p1 z1 100 h1 (by omega)
 obtain ⟨v3, p3, z3, e3, c0, h3⟩ := CA l p2 z2 [0, 0, 1, 2, 3] h2 (by simp) (by simp)
 unfold ot.f
 rw [ob e1, ob e2, ob e3]
 refine ⟨_, _, _, _, _, rfl, a0, a1, b0, by omega, ?_, ?_, h3⟩
 ·simp at c0; show 0 ≤ v3; omega
 ·simp at c0; show v3 ≤ 3; omega
theorem Ub (l : List Int) (n : Int) (hn : 1 ≤ n ∧ n ≤ 10) : ∀ (m : Nat) (R : List ah) (p z : Int), Rd l p → po R = true → R.length + m ≤ 1000 → ∃ R' p' z', Ev (fun k => iB.l0 k R n (m : Int) p z l) (R', p', z') ∧ po R' = true ∧ R'.length = R.length + m ∧ Rd l p' := by
 intro m
 induction m with
 | zero =>
  intro R p z h hv hR
  exact ⟨R, p, z, Ev.s (fun k => by rw [iB.l0]) (Ev.e (by omega) Ev.p), hv, rfl, h⟩
 | succ m ih =>
  intro R p z h hv hR
  obtain ⟨a, b, c, p', z', e, a0, a1, b0, b1, c0, c1, hr⟩ := PR l p z n h (by omega)
  have hv' : po (R ++ [⟨a, b, c⟩]) = true := by
   unfold po at hv ⊢
   rw [List.all_append, hv]
   simp [vX, pk]; omega
  obtain ⟨R', p2, z2, e2, v2, l2, r2⟩ := ih (R ++ [⟨a, b, c⟩]) p' z' hr hv' (by simp; omega)
  refine ⟨R', p2, z2, ?_, v2, by rw [l2]; simp; omega, r2⟩
  refine Ev.s (fun k => by rw [iB.l0]) ?_
  rw [show wrap64 (((m + 1 : Nat) : Int) - 1) = (m : Int) by rw [eC (by omega) (by omega)]; omega]
  refine Ev.t (by omega) (Ev.b (Ev.c e) ?_)
  exact Ev.t (by omega) e2
theorem Uc (l : List Int) (p z n : Int) (h : Rd l p) (hn : 0 ≤ n ∧ n ≤ 100) : ∃ R p' z', Ev (fun k => iB.f k l p z n) (R, p', z') ∧ po R = true ∧ (R.length : Int) ≤ n ∧ Rd l p' := by
 obtain ⟨v1, p1, z1, e1, m1, h1⟩ := CA l p z [1, 2, 4, 10] h (by simp) (by simp)
 obtain ⟨v2, p2, z2, e2, b0, b1, h2⟩ := iw l p1 z1 (n + 1) h1 (by omega)
 have hv : 1 ≤ v1 ∧ v1 ≤ 10 := by simp at m1; omega
 obtain ⟨w, rfl⟩ : ∃ w : Nat, v2 = w := ⟨v2.toNat, by omega⟩
 obtain ⟨R, p', z', e, hvR, hl, hr⟩ := Ub l v1 hv w [] p2 z2 h2 rfl (by simp; omega)
 refine ⟨R, p', z', Ev.u (fun _ => rfl) (Ev.b (Ev.c e1) ?_), hvR, by rw [hl]; simp; omega, hr⟩
 rw [eC (x := n + 1) (by omega) (by omega)]
 exact Ev.b (Ev.c e2) e
theorem Ge (l : List Int) (hl : l.length ≤ 1048576) : ∃ z', Ev (fun k => eL.f k l) (0, z') := by
 have J : ∀ z : Int, Ev (fun k => eL.j0 k z l) (0, z) := fun z => Ev.s (fun k => by rw [eL.j0]) Ev.p
 have L : ∀ (s : List Int) (i : Nat) (z : Int), l.drop i = s → ∃ z', Ev (fun k => eL.l0 k z (i : Int) l) (0, z') := by
  intro s
  induction s with
  | nil =>
   intro i z hd
   have := dQ hd
   exact ⟨z, Ev.s (fun k => by rw [eL.l0]) (Ev.e (by omega) (J z))⟩
  | cons x t ih =>
   intro i z hd
   obtain ⟨hi, hd', hx, -⟩ := cV hd
   by_cases h4 : (i : Int) < 4000
   ·obtain ⟨z', e⟩ := ih (i + 1) _ hd'
    refine ⟨z', Ev.s (fun k => by rw [eL.l0]) ?_⟩
    rw [iu hi (by omega)]
    exact Ev.t (by omega) (Ev.t h4 (Ev.t (by omega) e))
   ·exact ⟨z, Ev.s (fun k => by rw [eL.l0]) (Ev.t (by omega) (Ev.e h4 (J z)))⟩
 obtain ⟨z', e⟩ := L l 0 _ rfl
 exact ⟨z', Ev.u (fun _ => rfl) e⟩
theorem Yb (l : List Int) (hl : l.length ≤ 1048576) : Rd l 0 := ⟨by omega, by omega, by omega⟩
theorem VH (l : List Int) : ye.f l = some (decide ((l.length : Int) > 1048576)) := rfl
def bT (l : List UInt8) : ByteArray := ⟨⟨l⟩⟩
def bs (s : ByteArray) : List UInt8 := s.data.toList
theorem xy (l : List UInt8) : bs (bT l) = l := rfl
theorem fw (l : List UInt8) : (bT l).size = l.length := rfl
theorem Mj (s : ByteArray) : (bs s).length = s.size := rfl
theorem Mk {a b : ByteArray} (h : bs a = bs b) : a = b := ByteArray.ext (Array.toList_inj.1 h)
theorem Bf {a b : List UInt8} (h : bT a = bT b) : a = b := congrArg bs h
theorem aaP (a b : ByteArray) : bs (a ++ b) = bs a ++ bs b := by unfold bs; rw [ByteArray.data_append, Array.toList_append]
theorem gm (a b : List UInt8) : bT a ++ bT b = bT (a ++ b) := Mk (aaP _ _)
theorem yb (a b : ByteArray) : a.toList = b.toList ↔ a = b := by
 rw [ByteArray.toList_eq, ByteArray.toList_eq]
 exact ⟨fun h => Mk h, fun h => congrArg bs h⟩
theorem M3 (a : ByteArray) : a.toList = (bT []).toList ↔ bs a = [] := by
 rw [yb]; exact ⟨fun h => by rw [h]; rfl, fun h => Mk h⟩
theorem Bm {s : ByteArray} {i : Nat} {b : UInt8} {t : List UInt8} (h : (bs s).drop i = b :: t) : bt s (i : Int) = (b.toNat : Int) ∧ i < s.size ∧ (bs s).drop (i + 1) = t := by
 obtain ⟨hi, hd, hx, -⟩ := cV h
 rw [Mj] at hi
 refine ⟨?_, hi, hd⟩
 unfold bt
 rw [Int.toNat_natCast, dif_pos hi]
 have : s[i] = b := by
  have e := hx 0
  rw [List.getD_eq_getElem?_getD, List.getElem?_eq_getElem (by rw [Mj]; exact hi)] at e
  exact e
 rw [this]
theorem u7 (s : ByteArray) (f i : Nat) : s.extract f i = bT (((bs s).drop f).take (i - f)) := by
 apply Mk
 unfold bs
 rw [ByteArray.data_extract, Array.toList_extract, List.extract_eq_take_drop]
 rfl
theorem Zb {x : Int} (h0 : 0 ≤ x) (h1 : x < 256) : IntKind.u8.wrap x = x := by
 simp only [IntKind.wrap, IntKind.signed, IntKind.bits, Bool.false_and, Bool.false_eq_true, if_false]
 omega
theorem Ww {x : Int} (h0 : 0 ≤ x) (h1 : x < 18446744073709551616) : IntKind.u64.wrap x = x := by
 simp only [IntKind.wrap, IntKind.signed, IntKind.bits, Bool.false_and, Bool.false_eq_true, if_false]
 omega
theorem afh {x : Int} (h0 : -9223372036854775808 ≤ x) (h1 : x < 0) : IntKind.u64.wrap (-(IntKind.u64.wrap x)) = -x := by
 simp only [IntKind.wrap, IntKind.signed, IntKind.bits, Bool.false_and, Bool.false_eq_true, if_false]
 omega
theorem afv {x : Int} (h0 : -9223372036854775808 ≤ x) (h1 : x ≤ 9223372036854775807) : IntKind.i64.wrap x = x := by
 simp [IntKind.wrap, IntKind.signed, IntKind.bits]
 omega
def dg (n : Nat) : UInt8 := UInt8.ofNat (48 + n)
theorem aae {n : Nat} (h : n < 10) : (dg n).toNat = 48 + n := (UInt8.toNat_ofNat' ..).trans (Nat.mod_eq_of_lt (Nat.lt_of_lt_of_le (show 48 + n < 58 by omega) (by decide)))
theorem afr {n : Nat} (h : n < 10) : strOfNums [IntKind.u8.wrap (wrap64 (48 + (n : Int)))] = bT [dg n] := by
 rw [eC (by omega) (by omega), Zb (by omega) (by omega), show 48 + (n : Int) = ((48 + n : Nat) : Int) by omega]
 rfl
theorem SO {n : Nat} (h : n < 10) : strOfNums [IntKind.u8.wrap (IntKind.u64.wrap (48 + (n : Int)))] = bT [dg n] := by
 rw [Ww (by omega) (by omega), Zb (by omega) (by omega), show 48 + (n : Int) = ((48 + n : Nat) : Int) by omega]
 rfl
def oX (n : Nat) : List UInt8 := if h : n < 10 then [dg n] else oX (n / 10) ++ [dg (n % 10)]
 termination_by n
theorem zU {n : Nat} (h : n < 10) : oX n = [dg n] := by rw [oX]; exact dif_pos h
theorem LF {n : Nat} (h : ¬ n < 10) : oX n = oX (n / 10) ++ [dg (n % 10)] := by rw [oX]; exact dif_neg h
theorem Bi : ∀ (d n : Nat), n < 10 ^ (d + 1) → (oX n).length ≤ d + 1 ∧ 1 ≤ (oX n).length
 | 0, n, h => by rw [zU (by omega)]; simp
 | d + 1, n, h => by
  by_cases c : n < 10
  ·rw [zU c]; simp
  ·have := Bi d (n / 10) (by rw [Nat.pow_succ] at h; omega)
   rw [LF c, List.length_append, List.length_singleton]
   omega
theorem Dg : ∀ (d n : Nat), n < 10 ^ (d + 1) → n < 18446744073709551616 → d ≤ 30 → Ev (fun k => jh.f k (n : Int)) (bT (oX n)) := by
 intro d
 induction d with
 | zero =>
  intro n h h2 h3
  refine Ev.s (fun k => by rw [jh.f]) (Ev.t (by omega) ?_)
  rw [SO (by omega), zU (by omega)]; exact Ev.p
 | succ d ih =>
  intro n h h2 h3
  refine Ev.s (fun k => by rw [jh.f]) ?_
  by_cases c : n < 10
  ·refine Ev.t (by omega) ?_
   rw [SO c, zU c]; exact Ev.p
  ·have hp : n / 10 < 10 ^ (d + 1) := by rw [Nat.pow_succ] at h; omega
   have hs := Bi d (n / 10) hp
   refine Ev.e (by omega) ?_
   rw [show Int.tdiv (n : Int) 10 = ((n / 10 : Nat) : Int) from rfl, Ww (x := ((n / 10 : Nat) : Int)) (by omega) (by omega), show Int.tmod (n : Int) 10 = ((n % 10 : Nat) : Int) from rfl, SO (n := n % 10) (by omega)]
   refine Ev.b (ih (n / 10) hp (by omega) (by omega)) (Ev.t ?_ (Ev.p.r ?_))
   ·show (oX (n / 10)).length + 1 ≤ _; omega
   ·rw [gm, LF c]
def fI (a : Int) : List UInt8 := if a < 0 then 45 :: oX (-a).toNat else oX a.toNat
theorem IH : 10 ^ (19 + 1) = 100000000000000000000 := by decide
theorem qA (a : Int) (h0 : -9223372036854775808 ≤ a) (h1 : a ≤ 9223372036854775807) : (fI a).length ≤ 21 ∧ 1 ≤ (fI a).length := by
 unfold fI
 split
 ·have := Bi 19 (-a).toNat (by rw [IH]; omega)
  rw [List.length_cons]; omega
 ·have := Bi 19 a.toNat (by rw [IH]; omega)
  omega
theorem iK (a : Int) (h0 : -9223372036854775808 ≤ a) (h1 : a ≤ 9223372036854775807) : Ev (fun k => eI.f k a) (bT (fI a)) := by
 unfold fI
 refine Ev.u (fun _ => rfl) ?_
 by_cases c : a < 0
 ·have hp : (-a).toNat < 10 ^ (19 + 1) := by rw [IH]; omega
  have hs := Bi 19 (-a).toNat hp
  have hd := Dg 19 (-a).toNat hp (by omega) (by omega)
  rw [show (((-a).toNat : Nat) : Int) = -a by omega] at hd
  refine Ev.t c ?_
  rw [if_pos c, afh h0 c]
  refine Ev.b hd (Ev.t ?_ (Ev.p.r ?_))
  ·show 1 + (oX (-a).toNat).length ≤ _; omega
  ·exact gm [45] _
 ·have hp : a.toNat < 10 ^ (19 + 1) := by rw [IH]; omega
  have hd := Dg 19 a.toNat hp (by omega) (by omega)
  rw [show ((a.toNat : Nat) : Int) = a by omega] at hd
  refine Ev.e c ?_
  rw [if_neg c, Ww (by omega) (by omega)]
  exact Ev.b hd Ev.p
def Om (n : Nat) : List UInt8 := if n = 0 then [] else oX n
theorem WP (n : Nat) (h : n ≠ 0) (acc : List UInt8) : Om (n / 10) ++ ([dg (n % 10)] ++ acc) = Om n ++ acc := by
 unfold Om
 rw [if_neg h]
 by_cases c : n < 10
 ·rw [if_pos (by omega), show n % 10 = n by omega, zU c]; rfl
 ·rw [if_neg (by omega), LF c, List.append_assoc]
def ZS (b : Bool) : List UInt8 := if b = true then [45] else []
theorem Ay : ∀ (d n : Nat) (x : Int) (acc : List UInt8) (b : Bool), (x = (n : Int) ∨ x = -(n : Int)) → n < 10 ^ d → n ≤ 9223372036854775808 → d ≤ 30 → acc.length + d ≤ 1000 → Ev (fun k => cy.l0 k x (bT acc) b) (bT (ZS b ++ (Om n ++ acc))) := by
 have Z : ∀ (acc : List UInt8) (b : Bool), acc.length ≤ 1000 → Ev (fun k => cy.l0 k 0 (bT acc) b) (bT (ZS b ++ (Om 0 ++ acc))) := by
  intro acc b ha
  refine Ev.s (fun k => by rw [cy.l0]) (Ev.t rfl ?_)
  cases b with
  | true => exact Ev.t rfl (Ev.t (by show 1 + acc.length ≤ _; omega) (Ev.p.r (gm [45] acc)))
  | false => exact Ev.e (by simp) (Ev.p.r rfl)
 intro d
 induction d with
 | zero =>
  intro n x acc b hx h h2 h3 ha
  have hn : n = 0 := by simpa using h
  subst hn
  have hx0 : x = 0 := by omega
  subst hx0
  exact Z acc b (by omega)
 | succ d ih =>
  intro n x acc b hx h h2 h3 ha
  by_cases hn : n = 0
  ·subst hn
   have hx0 : x = 0 := by omega
   subst hx0
   exact Z acc b (by omega)
  have hp : n / 10 < 10 ^ d := by rw [Nat.pow_succ] at h; omega
  have J : ∀ y : Int, y = ((n % 10 : Nat) : Int) → Ev (fun k => cy.j0 k x (bT acc) b y) (bT (ZS b ++ (Om n ++ acc))) := by
   intro y hy
   subst hy
   refine Ev.s (fun k => by rw [cy.j0]) ?_
   rw [afr (n := n % 10) (by omega), gm]
   refine Ev.t (by show 1 + acc.length ≤ _; omega) ?_
   have e : wrap64 (Int.tdiv x 10) = ((n / 10 : Nat) : Int) ∨ wrap64 (Int.tdiv x 10) = -((n / 10 : Nat) : Int) := by
    rcases hx with rfl | rfl
    ·left; rw [show Int.tdiv (n : Int) 10 = ((n / 10 : Nat) : Int) from rfl, eC (by omega) (by omega)]
    ·right; rw [Int.neg_tdiv, show Int.tdiv (n : Int) 10 = ((n / 10 : Nat) : Int) from rfl, eC (by omega) (by omega)]
   refine (ih (n / 10) _ ([dg (n % 10)] ++ acc) b e hp (by omega) (by omega) (by simp; omega)).r ?_
   rw [WP n hn]
  refine Ev.s (fun k => by rw [cy.l0]) (Ev.e (by omega) ?_)
  rcases hx with hx | hx
  ·have e : Int.tmod x 10 = ((n % 10 : Nat) : Int) := by rw [hx]; rfl
   rw [e]
   exact Ev.e (by omega) (J _ rfl)
  ·have e : Int.tmod x 10 = -((n % 10 : Nat) : Int) := by rw [hx, Int.neg_tmod]; rfl
   rw [e, eC (x := -(-((n % 10 : Nat) : Int))) (by omega) (by omega)]
   exact Ev.i (fun _ => J _ (by omega)) (fun _ => J _ (by omega))
theorem iJ (a : Int) (h0 : -9223372036854775808 ≤ a) (h1 : a ≤ 9223372036854775807) : Ev (fun k => cy.f k a) (bT (fI a)) := by
 unfold fI
 refine Ev.u (fun _ => rfl) ?_
 by_cases z : a = 0
 ·subst z
  refine Ev.t rfl (Ev.p.r ?_)
  rw [if_neg (by omega), show (0 : Int).toNat = 0 from rfl, zU (by omega)]
  rfl
 refine Ev.e z ?_
 by_cases c : a < 0
 ·have hd := Ay 20 (-a).toNat a [] (decide (a < 0)) (.inr (by omega)) (by rw [IH]; omega) (by omega) (by omega) (by simp)
  refine hd.r ?_
  rw [if_pos c, decide_eq_true c]
  unfold Om
  rw [if_neg (by omega), List.append_nil]
  rfl
 ·have hd := Ay 20 a.toNat a [] (decide (a < 0)) (.inl (by omega)) (by rw [IH]; omega) (by omega) (by omega) (by simp)
  refine hd.r ?_
  rw [if_neg c, decide_eq_false c]
  unfold Om
  rw [if_neg (by omega), List.append_nil]
  rfl
def oU (b : UInt8) : Bool := decide (48 ≤ b.toNat ∧ b.toNat ≤ 57)
def qz (a : Nat) : List UInt8 → Nat
 | [] => a
 | b :: t => qz (a * 10 + (b.toNat - 48)) t
theorem LD : ∀ (l m : List UInt8) (a : Nat), qz a (l ++ m) = qz (qz a l) m
 | [], _, _ => rfl
 | b :: t, m, a => LD t m _
theorem P4 {n : Nat} (h : n < 10) (a : Nat) : oU (dg n) = true ∧ qz a [dg n] = a * 10 + n := by
 have e := aae h
 constructor
 ·unfold oU; rw [e]; exact decide_eq_true ⟨Nat.le_add_right _ _, by omega⟩
 ·show a * 10 + ((dg n).toNat - 48) = a * 10 + n
  rw [e, Nat.add_sub_cancel_left]
theorem aad (d : Nat) : ∀ n : Nat, n < 10 ^ (d + 1) → (oX n).all oU = true ∧ qz 0 (oX n) = n := by
 induction d with
 | zero =>
  intro n h
  have h' : n < 10 := h
  rw [zU h']
  have := P4 h' 0
  rw [List.all_cons, this.1, this.2]
  exact ⟨rfl, by omega⟩
 | succ d ih =>
  intro n h
  by_cases c : n < 10
  ·rw [zU c]
   have := P4 c 0
   rw [List.all_cons, this.1, this.2]
   exact ⟨rfl, by omega⟩
  ·obtain ⟨h1, h2⟩ := ih (n / 10) (by rw [Nat.pow_succ] at h; omega)
   obtain ⟨g1, g2⟩ := P4 (n := n % 10) (Nat.mod_lt _ (by decide)) (n / 10)
   rw [LF c, LD, h2, List.all_append, h1, List.all_cons, g1, g2]
   exact ⟨rfl, by omega⟩
theorem Oj : ∀ (l : List UInt8) (a d : Nat), l.all oU = true → a < 10 ^ d → qz a l < 10 ^ (d + l.length)
 | [], a, d, _, h => h
 | b :: t, a, d, hl, h => by
  simp only [List.all_cons, Bool.and_eq_true, oU, decide_eq_true_eq] at hl
  have := Oj t (a * 10 + (b.toNat - 48)) (d + 1) hl.2 (by rw [Nat.pow_succ]; omega)
  rw [List.length_cons, show d + (t.length + 1) = d + 1 + t.length by omega]
  exact this
def sB (s : List UInt8) (v : Int) : Int × Bool := if fI v = s then (v, true) else (0, false)
theorem Uy {s : List UInt8} {v : Int} : Ev (fun _ => if (bT (fI v)).toList = (bT s).toList then some (v, true) else some (0, false)) (sB s v) := by
 unfold sB
 by_cases c : fI v = s
 ·rw [if_pos c]; exact Ev.t (by rw [c]) Ev.p
 ·rw [if_neg c]; exact Ev.e (fun h => c (Bf ((yb _ _).1 h))) Ev.p
theorem afs : 10 ^ 9 = 1000000000 := by decide
theorem Kk {a j d : Nat} (ha : a < 10 ^ j) (hd : d ≤ 9) : a * 10 + d < 10 ^ (j + 1) := by
 have h : a * 10 + d < (a + 1) * 10 := by clear ha; omega
 rw [Nat.pow_succ]
 exact Nat.lt_of_lt_of_le h (Nat.mul_le_mul_right 10 ha)
theorem Lu {a j : Nat} (ha : a < 10 ^ j) (hj : j ≤ 9) : a < 1000000000 := Nat.lt_of_lt_of_le ha (by rw [← afs]; exact Nat.pow_le_pow_right (by decide) hj)
theorem adh : 10 ^ 11 = 100000000000 := by decide
theorem PI {a j : Nat} (ha : a < 10 ^ j) (hj : j ≤ 11) : a < 100000000000 := Nat.lt_of_lt_of_le ha (by rw [← adh]; exact Nat.pow_le_pow_right (by decide) hj)
def nx : List UInt8 → List UInt8
 | [] => []
 | b :: t => if b.toNat = 45 then t else b :: t
def HR (s x : List UInt8) (v : Nat) : Int × Bool := if x.length < s.length then sB s (-(v : Int)) else sB s (v : Int)
def pI (s : List UInt8) : Int × Bool := if (nx s).length < 1 ∨ 9 < (nx s).length then (0, false) else if (nx s).all oU = true then HR s (nx s) (qz 0 (nx s)) else (0, false)
theorem dgw {a d : Nat} (ha : a < 1000000000000) (hd : d ≤ 9) : wrap64 (wrap64 (10 * (a : Int)) + IntKind.i64.wrap (IntKind.u8.wrap (((48 + d : Nat) : Int) - 48))) = ((a * 10 + d : Nat) : Int) := by
 rw [eC (x := 10 * (a : Int)) (by omega) (by omega), Zb (by omega) (by omega), afv (by omega) (by omega), eC (by omega) (by omega)]
 omega
theorem CE (s : List UInt8) (v : Int) (h0 : -1000000000000 ≤ v) (h1 : v ≤ 1000000000000) : Ev (fun k => cO.j1 k (bT s) v) (sB s v) :=
 Ev.s (fun k => by rw [cO.j1]) (Ev.b (iK v (by omega) (by omega)) Uy)
theorem Kt (s x : List UInt8) (hx : x.length ≤ 9) : ∀ (t : List UInt8) (i j a : Nat), x.drop i = t → i + t.length = x.length → a < 10 ^ j → j + t.length ≤ 9 → Ev (fun k => cO.l0 k (bT s) (bT x) (a : Int) (x.length : Int) (i : Int)) (if t.all oU = true then HR s x (qz a t) else (0, false)) := by
 intro t
 induction t with
 | nil =>
  intro i j a hd hi ha hj
  simp only [List.length_nil, Nat.add_zero] at hi hj
  have hb : a < 1000000000 := Lu ha hj
  clear ha
  rw [if_pos (show ([] : List UInt8).all oU = true from rfl)]
  refine Ev.s (fun k => by rw [cO.l0]) (Ev.e (by omega) ?_)
  rw [eC (x := -(a : Int)) (by omega) (by omega), fw, fw]
  unfold HR qz
  by_cases c : x.length < s.length
  ·rw [if_pos c]; exact Ev.t (by omega) (CE s _ (by omega) (by omega))
  ·rw [if_neg c]; exact Ev.e (by omega) (CE s _ (by omega) (by omega))
 | cons b t ih =>
  intro i j a hd hi ha hj
  obtain ⟨hb, hi', hd'⟩ := Bm (s := bT x) (i := i) hd
  rw [fw] at hi'
  rw [xy] at hd'
  simp only [List.length_cons] at hi hj
  have hl : a < 1000000000 := Lu ha (Nat.le_trans (Nat.le_add_right _ _) hj)
  have hs := fun (d : Nat) (hd : d ≤ 9) => Kk (d := d) ha hd
  clear ha
  refine Ev.s (fun k => by rw [cO.l0]) (Ev.t (by omega) (Ev.t (by omega) (Ev.t (by rw [fw]; omega) ?_)))
  rw [hb, List.all_cons]
  refine Ev.i (fun c => Ev.p.r ?_) (fun c => Ev.i (fun c2 => Ev.p.r ?_) (fun c2 => ?_))
  ·have e : oU b = false := decide_eq_false (by omega)
   rw [e]; rfl
  ·have e : oU b = false := decide_eq_false (by omega)
   rw [e]; rfl
  ·have e : oU b = true := decide_eq_true (by omega)
   have g := dgw (a := a) (d := b.toNat - 48) (by omega) (by omega)
   rw [show 48 + (b.toNat - 48) = b.toNat by omega] at g
   rw [g, iu hi' (by omega), e, Bool.true_and]
   exact ih (i + 1) (j + 1) _ hd' (by omega) (hs _ (by omega)) (by omega)
theorem v4 (s x : List UInt8) : Ev (fun k => cO.j0 k (bT s) (bT x)) (if x.length < 1 ∨ 9 < x.length then (0, false) else if x.all oU = true then HR s x (qz 0 x) else (0, false)) := by
 refine Ev.s (fun k => by rw [cO.j0]) ?_
 rw [fw]
 refine Ev.i (fun c => Ev.p.r ?_) (fun c => Ev.i (fun c2 => Ev.p.r ?_) (fun c2 => ?_))
 ·rw [if_pos (.inl (by omega))]
 ·rw [if_pos (.inr (by omega))]
 ·rw [if_neg (by omega)]
  exact Kt s x (by omega) x 0 0 0 rfl (by omega) (by decide) (by omega)
theorem sS (s : List UInt8) : Ev (fun k => cO.f k (bT s)) (pI s) := by
 unfold pI
 refine Ev.u (fun k => by rw [cO.f]) ?_
 rw [fw]
 cases s with
 | nil => exact Ev.e (by simp) (v4 [] [])
 | cons b t =>
  obtain ⟨hb, -, -⟩ := Bm (s := bT (b :: t)) (i := 0) (b := b) (t := t) rfl
  rw [show ((0 : Nat) : Int) = 0 from rfl] at hb
  rw [List.length_cons]
  refine Ev.t (by omega) (Ev.t (by omega) ?_)
  rw [hb]
  refine Ev.i (fun c => Ev.t (by omega) ?_) (fun c => ?_)
  ·have es : nx (b :: t) = t := by unfold nx; exact if_pos (by omega)
   rw [es, u7]
   have e : (((bs (bT (b :: t))).drop (1 : Int).toNat).take (t.length + 1 - (1 : Int).toNat)) = t := by
    rw [xy]; show t.take (t.length + 1 - 1) = t; rw [List.take_of_length_le (by omega)]
   rw [e]
   exact v4 (b :: t) t
  ·have es : nx (b :: t) = b :: t := by unfold nx; exact if_neg (by omega)
   rw [es]
   exact v4 (b :: t) (b :: t)
def oS (a c : Nat) : List UInt8 → Nat × Nat
 | [] => (a, c)
 | b :: t => if oU b = true then oS (a * 10 + (b.toNat - 48)) (c + 1) t else oS a c t
def N8 (s : List UInt8) (a : Nat) : Int := match s with | [] => (a : Int) | b :: _ => if b.toNat = 45 then -(a : Int) else (a : Int)
def qF (s : List UInt8) (p : Nat × Nat) : Int × Bool := if p.2 > 9 then (0, false) else if s.length > 10 then (0, false) else sB s (N8 s p.1)
theorem vZ (s : List UInt8) (v : Int) (c : Nat) (h0 : -1000000000000 ≤ v) (h1 : v ≤ 1000000000000) : Ev (fun k => bY.j1 k (bT s) v (c : Int)) (if c > 9 then (0, false) else if s.length > 10 then (0, false) else sB s v) := by
 refine Ev.s (fun k => by rw [bY.j1]) ?_
 rw [fw]
 refine Ev.i (fun g => Ev.p.r ?_) (fun g => Ev.i (fun g2 => Ev.p.r ?_) (fun g2 => Ev.b (iJ v (by omega) (by omega)) (Uy.r ?_)))
 ·rw [if_pos (by omega)]
 ·rw [if_neg (by omega), if_pos (by omega)]
 ·rw [if_neg (by omega), if_neg (by omega)]
theorem Cn (s : List UInt8) (a c : Nat) (ha : a < 1000000000000) : Ev (fun k => bY.j0 k (bT s) (a : Int) (c : Int)) (qF s (a, c)) := by
 unfold qF N8
 refine Ev.s (fun k => by rw [bY.j0]) ?_
 rw [fw]
 cases s with
 | nil => exact Ev.e (by simp) (vZ [] a c (by omega) (by omega))
 | cons b t =>
  obtain ⟨hb, -, -⟩ := Bm (s := bT (b :: t)) (i := 0) (b := b) (t := t) rfl
  rw [show ((0 : Nat) : Int) = 0 from rfl] at hb
  rw [List.length_cons]
  refine Ev.t (by omega) (Ev.t (by omega) ?_)
  rw [hb, eC (x := -(a : Int)) (by omega) (by omega)]
  dsimp only
  refine Ev.i (fun g => ?_) (fun g => ?_)
  ·rw [if_pos (show b.toNat = 45 by omega)]; exact vZ (b :: t) _ c (by omega) (by omega)
  ·rw [if_neg (show ¬ b.toNat = 45 by omega)]; exact vZ (b :: t) _ c (by omega) (by omega)
theorem M4 {l : List UInt8} {n i : Nat} {b : UInt8} {t : List UInt8} (h : (l.take n).drop i = b :: t) : i < n ∧ ∃ u, l.drop i = b :: u ∧ (l.take n).drop (i + 1) = t := by
 obtain ⟨hi, hd, -, -⟩ := cV h
 rw [List.length_take] at hi
 refine ⟨by omega, (l.drop i).tail, ?_, hd⟩
 rw [List.drop_take] at h
 cases e : l.drop i with
 | nil => rw [e, List.take_nil] at h; cases h
 | cons x u =>
  rw [e] at h
  obtain ⟨m, hm⟩ : ∃ m, n - i = m + 1 := ⟨n - i - 1, by omega⟩
  rw [hm, List.take_succ_cons] at h
  injection h with h1 h2
  rw [h1]; rfl
theorem afy {a d : Nat} (ha : a < 1000000000000) (hd : d ≤ 9) : wrap64 (wrap64 ((a : Int) * 10) + IntKind.i64.wrap (IntKind.u8.wrap (((48 + d : Nat) : Int) - 48))) = ((a * 10 + d : Nat) : Int) := by rw [Int.mul_comm]; exact dgw ha hd
theorem Kg (s : List UInt8) (hs : s.length ≤ 1000000000) : ∀ (t : List UInt8) (i c a : Nat), (s.take 11).drop i = t → i + t.length ≤ 11 → a < 10 ^ c → c ≤ i → Ev (fun k => bY.l0 k (bT s) (a : Int) (c : Int) (i : Int)) (qF s (oS a c t)) := by
 intro t
 induction t with
 | nil =>
  intro i c a hd hi ha hc
  have hb := PI ha (Nat.le_trans hc hi)
  clear ha
  have hl := List.drop_eq_nil_iff.1 hd
  rw [List.length_take] at hl
  refine Ev.s (fun k => by rw [bY.l0]) ?_
  rw [fw]
  exact Ev.i (fun g => Ev.e (by omega) (Cn s a c (by omega))) (fun g => Cn s a c (by omega))
 | cons b t ih =>
  intro i c a hd hi ha hc
  simp only [List.length_cons] at hi
  obtain ⟨h11, u, hu, hd'⟩ := M4 hd
  obtain ⟨hb, hi', -⟩ := Bm (s := bT s) (i := i) hu
  rw [fw] at hi'
  have hl := PI ha (by omega)
  have hst := fun (d : Nat) (hd : d ≤ 9) => Kk (d := d) ha hd
  have wc : wrap64 ((c : Int) + 1) = ((c + 1 : Nat) : Int) := by clear ha; exact iu (n := 12) (by omega) (by decide)
  have i1 := fun a' c' h1 h2 => ih (i + 1) c' a' hd' (by clear ha; omega) h1 h2
  have hc' : c ≤ i + 1 := by clear ha; omega
  have i2 := i1 a c ha hc'
  clear ha
  refine Ev.s (fun k => by rw [bY.l0]) ?_
  rw [fw]
  refine Ev.t (by omega) (Ev.t (by omega) (Ev.t (by omega) ?_))
  rw [hb, wc, iu hi' (by omega)]
  refine Ev.i (fun c1 => Ev.i (fun c2 => ?_) (fun c2 => ?_)) (fun c1 => ?_)
  ·have e : oU b = true := decide_eq_true (by omega)
   have g := afy (a := a) (d := b.toNat - 48) (by omega) (by omega)
   rw [show 48 + (b.toNat - 48) = b.toNat by omega] at g
   rw [g, show oS a c (b :: t) = oS (a * 10 + (b.toNat - 48)) (c + 1) t from if_pos e]
   exact i1 _ _ (hst _ (by omega)) (by omega)
  ·have e : ¬ oU b = true := by unfold oU; rw [decide_eq_true_eq]; omega
   rw [show oS a c (b :: t) = oS a c t from if_neg e]
   exact i2
  ·have e : ¬ oU b = true := by unfold oU; rw [decide_eq_true_eq]; omega
   rw [show oS a c (b :: t) = oS a c t from if_neg e]
   exact i2
def yQ (n : Int) : Prop := -1000000000 < n ∧ n < 1000000000
theorem HH : ∀ (l : List UInt8) (a c : Nat), l.all oU = true → oS a c l = (qz a l, c + l.length)
 | [], _, _, _ => rfl
 | b :: t, a, c, h => by
  rw [List.all_cons, Bool.and_eq_true] at h
  rw [show oS a c (b :: t) = oS (a * 10 + (b.toNat - 48)) (c + 1) t from if_pos h.1, HH t _ _ h.2, List.length_cons, Nat.add_assoc, Nat.add_comm 1]
  rfl
theorem M6 : ∀ (l : List UInt8) (a c : Nat), a < 10 ^ c → (oS a c l).1 < 10 ^ (oS a c l).2
 | [], _, _, h => h
 | b :: t, a, c, h => by
  by_cases e : oU b = true
  ·rw [show oS a c (b :: t) = oS (a * 10 + (b.toNat - 48)) (c + 1) t from if_pos e]
   have hd : b.toNat - 48 ≤ 9 := by
    have := of_decide_eq_true e
    clear h
    omega
   exact M6 t _ _ (Kk h hd)
  ·rw [show oS a c (b :: t) = oS a c t from if_neg e]
   exact M6 t _ _ h
theorem IM (n : Nat) (h : n < 1000000000) : (1 ≤ (oX n).length ∧ (oX n).length ≤ 9) ∧ (oX n).all oU = true ∧ qz 0 (oX n) = n := by
 have h' : n < 10 ^ (8 + 1) := by rw [show 10 ^ (8 + 1) = 1000000000 from by decide]; exact h
 have := Bi 8 n h'
 exact ⟨by omega, aad 8 n h'⟩
theorem IL (n : Int) : sB (fI n) n = (n, true) := if_pos rfl
theorem Kw {s : List UInt8} {v : Int} (h : (sB s v).2 = true) : s = fI v ∧ sB s v = (v, true) := by
 unfold sB at h ⊢
 by_cases c : fI v = s
 ·rw [if_pos c]; exact ⟨c.symm, rfl⟩
 ·rw [if_neg c] at h; cases h
theorem HQ {s : List UInt8} {v : Int} (h : ¬ (sB s v).2 = true) : sB s v = (0, false) := by
 unfold sB at h ⊢
 by_cases c : fI v = s
 ·rw [if_pos c] at h; exact absurd rfl h
 ·rw [if_neg c]
theorem Eb {n : Int} (h : n < 0) : fI n = (45 : UInt8) :: oX (-n).toNat := by unfold fI; rw [if_pos h]
theorem Ea {n : Int} (h : ¬ n < 0) : fI n = oX n.toNat := by unfold fI; rw [if_neg h]
theorem P3 {n : Nat} (h : n < 1000000000) : ∃ b t, oX n = b :: t ∧ b.toNat ≠ 45 := by
 obtain ⟨h1, h2, h3⟩ := IM n h
 cases e : oX n with
 | nil => rw [e] at h1; simp at h1
 | cons b t =>
  rw [e, List.all_cons, Bool.and_eq_true] at h2
  have := of_decide_eq_true h2.1
  exact ⟨b, t, rfl, by omega⟩
theorem TG {n : Int} (h : n < 0) : nx (fI n) = oX (-n).toNat := by rw [Eb h]; rfl
theorem TF {n : Int} (h : ¬ n < 0) (hs : yQ n) : nx (fI n) = fI n := by
 rw [Ea h]
 obtain ⟨b, t, e, hb⟩ := P3 (n := n.toNat) (by have := hs.2; omega)
 rw [e]; unfold nx; exact if_neg hb
theorem Yw {n : Int} (h : ¬ n < 0) (hs : yQ n) (a : Nat) : N8 (fI n) a = a := by
 rw [Ea h]
 obtain ⟨b, t, e, hb⟩ := P3 (n := n.toNat) (by have := hs.2; omega)
 rw [e]; unfold N8; exact if_neg hb
theorem lC (n : Int) (hs : yQ n) : pI (fI n) = (n, true) := by
 have hs' := hs
 obtain ⟨h1, h2⟩ := hs
 unfold pI
 by_cases h : n < 0
 ·obtain ⟨d0, d1, d2⟩ := IM (-n).toNat (by omega)
  have e := congrArg List.length (Eb h)
  rw [List.length_cons] at e
  rw [TG h, if_neg (by omega), if_pos d1, d2]
  unfold HR
  rw [if_pos (by omega), show -(((-n).toNat : Nat) : Int) = n by omega, IL]
 ·obtain ⟨d0, d1, d2⟩ := IM n.toNat (by omega)
  rw [TF h hs', Ea h, if_neg (by omega), if_pos d1, d2, ← Ea h]
  unfold HR
  rw [if_neg (by omega), show ((n.toNat : Nat) : Int) = n by omega, IL]
theorem ZG (n : Int) (hs : yQ n) : qF (fI n) (oS 0 0 ((fI n).take 11)) = (n, true) := by
 have hs' := hs
 obtain ⟨h1, h2⟩ := hs
 by_cases h : n < 0
 ·obtain ⟨d0, d1, d2⟩ := IM (-n).toNat (by omega)
  have e := congrArg List.length (Eb h)
  rw [List.length_cons] at e
  rw [List.take_of_length_le (by omega)]
  have e2 : oS 0 0 (fI n) = (((-n).toNat, (oX (-n).toNat).length) : Nat × Nat) := by
   rw [Eb h, show oS 0 0 ((45 : UInt8) :: oX (-n).toNat) = oS 0 0 (oX (-n).toNat) from if_neg (by decide), HH _ _ _ d1, d2, Nat.zero_add]
  rw [e2]
  unfold qF
  dsimp only
  rw [if_neg (by omega), if_neg (by omega)]
  have e3 : N8 (fI n) (-n).toNat = n := by
   rw [Eb h, show N8 ((45 : UInt8) :: oX (-n).toNat) (-n).toNat = -(((-n).toNat : Nat) : Int) by unfold N8; exact if_pos rfl]; omega
  rw [e3, IL]
 ·obtain ⟨d0, d1, d2⟩ := IM n.toNat (by omega)
  rw [← Ea h] at d0 d1 d2
  rw [List.take_of_length_le (by omega), HH _ _ _ d1, d2]
  unfold qF
  dsimp only
  rw [if_neg (by omega), if_neg (by omega), Yw h hs', show ((n.toNat : Nat) : Int) = n by omega, IL]
theorem RC {s : List UInt8} (h : (pI s).2 = true) : ∃ n, yQ n ∧ s = fI n := by
 unfold pI at h
 by_cases c1 : (nx s).length < 1 ∨ 9 < (nx s).length
 ·rw [if_pos c1] at h; cases h
 ·rw [if_neg c1] at h
  by_cases c2 : (nx s).all oU = true
  ·rw [if_pos c2] at h
   have hb := Oj (nx s) 0 0 c2 (by decide)
   rw [Nat.zero_add] at hb
   have hb' : qz 0 (nx s) < 1000000000 := Lu hb (by omega)
   clear hb
   unfold HR at h
   split at h
   ·exact ⟨_, ⟨by omega, by omega⟩, (Kw h).1⟩
   ·exact ⟨_, ⟨by omega, by omega⟩, (Kw h).1⟩
  ·rw [if_neg c2] at h; cases h
theorem PN {s : List UInt8} (h : ¬ (pI s).2 = true) : pI s = (0, false) := by
 unfold pI at h ⊢
 by_cases c1 : (nx s).length < 1 ∨ 9 < (nx s).length
 ·rw [if_pos c1]
 ·rw [if_neg c1] at h ⊢
  by_cases c2 : (nx s).all oU = true
  ·rw [if_pos c2] at h ⊢
   unfold HR at h ⊢
   split at h
   ·rename_i g; rw [if_pos g]; exact HQ h
   ·rename_i g; rw [if_neg g]; exact HQ h
  ·rw [if_neg c2]
theorem Yx {s : List UInt8} {p : Nat × Nat} (hp : p.1 < 10 ^ p.2) (h : (qF s p).2 = true) : ∃ n, yQ n ∧ s = fI n := by
 unfold qF at h
 by_cases c1 : p.2 > 9
 ·rw [if_pos c1] at h; cases h
 ·rw [if_neg c1] at h
  have hb : p.1 < 1000000000 := Lu hp (Nat.not_lt.1 c1)
  clear hp
  by_cases c2 : s.length > 10
  ·rw [if_pos c2] at h; cases h
  ·rw [if_neg c2] at h
   refine ⟨_, ?_, (Kw h).1⟩
   unfold N8 yQ
   split
   ·omega
   ·split <;> omega
theorem WD {s : List UInt8} {p : Nat × Nat} (h : ¬ (qF s p).2 = true) : qF s p = (0, false) := by
 unfold qF at h ⊢
 by_cases c1 : p.2 > 9
 ·rw [if_pos c1]
 ·rw [if_neg c1] at h ⊢
  by_cases c2 : s.length > 10
  ·rw [if_pos c2]
  ·rw [if_neg c2] at h ⊢
   exact HQ h
theorem adk (s : List UInt8) : qF s (oS 0 0 (s.take 11)) = pI s := by
 by_cases h : (pI s).2 = true
 ·obtain ⟨n, hn, rfl⟩ := RC h
  rw [ZG n hn, lC n hn]
 ·rw [PN h]
  apply WD
  intro g
  obtain ⟨n, hn, rfl⟩ := Yx (M6 _ 0 0 (by decide)) g
  exact h (by rw [lC n hn])
theorem jz (s : List UInt8) (hs : s.length ≤ 1000000000) : Ev (fun k => bY.f k (bT s)) (pI s) := by
 have hl : (s.take 11).length ≤ 11 := by rw [List.length_take]; omega
 exact Ev.u (fun _ => rfl) ((Kg s hs (s.take 11) 0 0 0 rfl (by omega) (by decide) (Nat.le_refl 0)).r (adk s))
theorem II {s : List UInt8} (h : (pI s).2 = true) : yQ (pI s).1 ∧ s = fI (pI s).1 := by
 obtain ⟨n, hn, rfl⟩ := RC h
 rw [lC n hn]
 exact ⟨hn, rfl⟩
def pn (c : UInt8) (cur : List UInt8) : List UInt8 → List (List UInt8)
 | [] => [cur]
 | b :: t => if b = c then cur :: pn c [] t else pn c (cur ++ [b]) t
def kl (c : UInt8) (s : List UInt8) : List (List UInt8) := pn c [] s
def uE (c : UInt8) : List (List UInt8) → List UInt8
 | [] => []
 | x :: t => x ++ t.flatMap fun y => c :: y
theorem CC (c : UInt8) (x : List UInt8) (t : List (List UInt8)) : uE c (x :: t) = x ++ t.flatMap fun y => c :: y := rfl
theorem UI (c : UInt8) : ∀ (l cur : List UInt8), ∃ x t, pn c cur l = x :: t
 | [], cur => ⟨cur, [], rfl⟩
 | b :: l, cur => by
  unfold pn
  by_cases h : b = c
  ·rw [if_pos h]; exact ⟨_, _, rfl⟩
  ·rw [if_neg h]; exact UI c l _
theorem Ny (c : UInt8) : ∀ (l cur : List UInt8), (pn c cur l).length ≤ l.length + 1
 | [], cur => by simp [pn]
 | b :: l, cur => by
  unfold pn
  by_cases h : b = c
  ·rw [if_pos h, List.length_cons, List.length_cons]; have := Ny c l []; omega
  ·rw [if_neg h, List.length_cons]; have := Ny c l (cur ++ [b]); omega
theorem Nx (c : UInt8) : ∀ (l cur : List UInt8), ∀ x ∈ pn c cur l, x.length ≤ cur.length + l.length
 | [], cur, x, h => by rw [List.mem_singleton.1 h]; simp
 | b :: l, cur, x, h => by
  unfold pn at h
  by_cases e : b = c
  ·rw [if_pos e] at h
   rcases List.mem_cons.1 h with h | h
   ·rw [h]; simp
   ·have := Nx c l [] x h; rw [List.length_cons]; simp at this; omega
  ·rw [if_neg e] at h
   have := Nx c l _ x h
   rw [List.length_append, List.length_singleton] at this; rw [List.length_cons]; omega
theorem yt (c : UInt8) (s : List UInt8) : (kl c s).length ≤ s.length + 1 := Ny c s []
theorem wI {c : UInt8} {s x : List UInt8} (h : x ∈ kl c s) : x.length ≤ s.length := by have := Nx c s [] x h; simpa using this
theorem SS (c : UInt8) : ∀ (l cur : List UInt8), uE c (pn c cur l) = cur ++ l
 | [], cur => by simp [pn, uE]
 | b :: t, cur => by
  unfold pn
  by_cases g : b = c
  ·rw [if_pos g]
   have ih := SS c t []
   obtain ⟨x, u, e⟩ := UI c t []
   rw [e] at ih ⊢
   rw [List.nil_append] at ih
   rw [← ih, g]
   simp [uE]
  ·rw [if_neg g, SS c t, List.append_assoc]; rfl
theorem Ug (c : UInt8) (s : List UInt8) : uE c (kl c s) = s := SS c s []
theorem UH (c : UInt8) : ∀ (l cur : List UInt8), (∀ b ∈ l, b ≠ c) → pn c cur l = [cur ++ l]
 | [], cur, _ => by simp [pn]
 | b :: t, cur, h => by
  unfold pn
  rw [if_neg (h b (List.mem_cons_self ..)), UH c t _ (fun x hx => h x (List.mem_cons_of_mem _ hx)), List.append_assoc]; rfl
theorem UF (c : UInt8) : ∀ (l cur m : List UInt8), (∀ b ∈ l, b ≠ c) → pn c cur (l ++ c :: m) = (cur ++ l) :: pn c [] m
 | [], cur, m, _ => by rw [List.nil_append, pn, if_pos rfl, List.append_nil]
 | b :: t, cur, m, h => by
  rw [List.cons_append, pn, if_neg (h b (List.mem_cons_self ..)), UF c t _ m (fun x hx => h x (List.mem_cons_of_mem _ hx)), List.append_assoc]; rfl
theorem LK (c : UInt8) : ∀ (t : List (List UInt8)) (x : List UInt8), (∀ y ∈ x :: t, ∀ b ∈ y, b ≠ c) → kl c (uE c (x :: t)) = x :: t
 | [], x, h => by
  unfold kl
  rw [CC, List.flatMap_nil, List.append_nil, UH c x [] (h x (List.mem_cons_self ..))]; rfl
 | y :: t, x, h => by
  have ih := LK c t y (fun z hz => h z (List.mem_cons_of_mem _ hz))
  unfold kl at *
  rw [CC] at ih ⊢
  rw [List.flatMap_cons, List.cons_append, UF c x [] _ (h x (List.mem_cons_self ..)), ih]; rfl
theorem Le {a c : UInt8} {n : Int} (hn : (c.toNat : Int) = n) : (a.toNat : Int) = n ↔ a = c := by
 rw [← hn]
 exact ⟨fun h => UInt8.toNat_inj.1 (by omega), fun h => by rw [h]⟩
theorem N2 {s : List UInt8} {f i : Nat} {b : UInt8} {t : List UInt8} (h : s.drop i = b :: t) (hf : f ≤ i) : (s.drop f).take (i + 1 - f) = (s.drop f).take (i - f) ++ [b] := by
 rw [show i + 1 - f = (i - f) + 1 by omega, List.take_add_one]
 congr 1
 rw [List.getElem?_drop, show f + (i - f) = i by omega]
 have : s[i]? = some b := by rw [← List.head?_drop, h]; rfl
 rw [this]; rfl
theorem OC (s : List UInt8) (hs : s.length ≤ 1000000000) (c : UInt8) (n : Int) (hn : (c.toNat : Int) = n) : ∀ (t : List UInt8) (i f : Nat) (A : List (List UInt8)), s.drop i = t → i + t.length = s.length → f ≤ i → A.length ≤ i → Ev (fun k => gc.l0 k (bT s) n (A.map bT) (f : Int) (i : Int)) ((A ++ pn c ((s.drop f).take (i - f)) t).map bT) := by
 intro t
 induction t with
 | nil =>
  intro i f A hd hi hf hA
  rw [List.length_nil] at hi
  refine Ev.s (fun k => by rw [gc.l0]) ?_
  rw [fw]
  refine Ev.e (by omega) (Ev.t (by omega) (Ev.t (by omega) (Ev.t (by rw [List.length_map]; omega) (Ev.p.r ?_))))
  rw [u7, xy, Int.toNat_natCast, ← show i = s.length by omega]
  simp [pn]
 | cons b t ih =>
  intro i f A hd hi hf hA
  rw [List.length_cons] at hi
  obtain ⟨hb, hi', hd'⟩ := Bm (s := bT s) (i := i) hd
  rw [xy] at hd'
  refine Ev.s (fun k => by rw [gc.l0]) ?_
  rw [fw, hb, iu (n := s.length) (by omega) (by omega)]
  refine Ev.t (by omega) (Ev.t (by omega) (Ev.i (fun g => ?_) (fun g => ?_)))
  ·refine Ev.t (by omega) (Ev.t (by omega) (Ev.t (by omega) (Ev.t (by rw [List.length_map]; omega) ?_)))
   have e := (Le hn).1 g
   have h := ih (i + 1) (i + 1) (A ++ [(s.drop f).take (i - f)]) hd' (by omega) (Nat.le_refl _) (by simp; omega)
   rw [u7, xy, Int.toNat_natCast, Int.toNat_natCast]
   rw [List.map_append] at h
   refine h.r ?_
   unfold pn
   rw [if_pos e, Nat.sub_self, List.take_zero, List.append_assoc]
   cases t <;> rfl
  ·have e : ¬ b = c := fun h => g ((Le hn).2 h)
   have h := ih (i + 1) f A hd' (by omega) (by omega) (by omega)
   rw [N2 hd hf] at h
   refine h.r ?_
   conv => rhs; unfold pn
   rw [if_neg e]
theorem tu (s : List UInt8) (hs : s.length ≤ 1000000000) (c : UInt8) (n : Int) (hn : (c.toNat : Int) = n) : Ev (fun k => gc.f k (bT s) n) ((kl c s).map bT) :=
 Ev.u (fun _ => rfl) ((OC s hs c n hn s 0 0 [] rfl (by omega) (Nat.le_refl _) (by simp)).r (by simp [kl]))
theorem Rh (s : List UInt8) (hs : s.length ≤ 1000000000) (c : UInt8) (n : Int) (hn : (c.toNat : Int) = n) : ∀ (t : List UInt8) (i f : Nat) (A : List (List UInt8)), s.drop i = t → i + t.length = s.length → f ≤ i → A.length ≤ i → Ev (fun k => hO.l0 k (bT s) n (A.map bT) (f : Int) (s.length : Int) (i : Int)) ((A ++ pn c ((s.drop f).take (i - f)) t).map bT) := by
 intro t
 induction t with
 | nil =>
  intro i f A hd hi hf hA
  rw [List.length_nil] at hi
  refine Ev.s (fun k => by rw [hO.l0]) ?_
  rw [fw]
  refine Ev.e (by omega) (Ev.t (by omega) (Ev.t (by omega) (Ev.t (by rw [List.length_map]; omega) (Ev.p.r ?_))))
  rw [u7, xy, Int.toNat_natCast, ← show i = s.length by omega]
  simp [pn]
 | cons b t ih =>
  intro i f A hd hi hf hA
  rw [List.length_cons] at hi
  obtain ⟨hb, hi', hd'⟩ := Bm (s := bT s) (i := i) hd
  rw [xy] at hd'
  refine Ev.s (fun k => by rw [hO.l0]) ?_
  rw [fw, hb, iu (n := s.length) (by omega) (by omega)]
  refine Ev.t (by omega) (Ev.t (by omega) (Ev.t (by omega) (Ev.i (fun g => ?_) (fun g => ?_))))
  ·refine Ev.t (by omega) (Ev.t (by omega) (Ev.t (by omega) (Ev.t (by rw [List.length_map]; omega) ?_)))
   have e := (Le hn).1 g
   have h := ih (i + 1) (i + 1) (A ++ [(s.drop f).take (i - f)]) hd' (by omega) (Nat.le_refl _) (by simp; omega)
   rw [u7, xy, Int.toNat_natCast, Int.toNat_natCast]
   rw [List.map_append] at h
   refine h.r ?_
   unfold pn
   rw [if_pos e, Nat.sub_self, List.take_zero, List.append_assoc]
   cases t <;> rfl
  ·have e : ¬ b = c := fun h => g ((Le hn).2 h)
   have h := ih (i + 1) f A hd' (by omega) (by omega) (by omega)
   rw [N2 hd hf] at h
   refine h.r ?_
   conv => rhs; unfold pn
   rw [if_neg e]
theorem vM (s : List UInt8) (hs : s.length ≤ 1000000000) (c : UInt8) (n : Int) (hn : (c.toNat : Int) = n) : Ev (fun k => hO.f k (bT s) n) ((kl c s).map bT) :=
 Ev.u (fun _ => rfl) ((Rh s hs c n hn s 0 0 [] rfl (by omega) (Nat.le_refl _) (by simp)).r (by simp [kl]))
/-! joins -/
theorem Ry (l : List (List UInt8)) (i : Nat) : bu ByteArray.empty (l.map bT) (i : Int) = bT (l.getD i []) := by
 show (l.map bT).getD (i : Int).toNat ByteArray.empty = _
 rw [Int.toNat_natCast, List.getD_eq_getElem?_getD, List.getD_eq_getElem?_getD, List.getElem?_map]
 cases l[i]? <;> rfl
def tF (L : List (List UInt8)) : Nat := (L.map fun x => x.length + 1).sum
theorem nM (x : List UInt8) (L : List (List UInt8)) : tF (x :: L) = x.length + 1 + tF L := by simp [tF]
theorem Rk (a b : List (List UInt8)) : tF (a ++ b) = tF a + tF b := by simp [tF]
theorem RJ (c : UInt8) : ∀ L : List (List UInt8), (L.flatMap fun y => c :: y).length = tF L
 | [] => rfl
 | x :: L => by rw [List.flatMap_cons, List.length_append, RJ c L, nM, List.length_cons]
theorem IK (c : UInt8) : ∀ L : List (List UInt8), (uE c L).length ≤ tF L
 | [] => Nat.zero_le _
 | x :: L => by rw [uE, List.length_append, RJ, nM]; omega
theorem Nd (c : UInt8) (L : List (List UInt8)) (hl : L.length ≤ 1000000000) : ∀ (s : List (List UInt8)) (i : Nat) (acc : List UInt8), L.drop i = s → 0 < i → acc.length + tF s ≤ 9000000000000000 → Ev (fun k => em.l0 k (bT [c]) (bT acc) (L.length : Int) (i : Int) (L.map bT)) (bT (acc ++ s.flatMap fun y => c :: y)) := by
 intro s
 induction s with
 | nil =>
  intro i acc hd h0 ha
  have := dQ hd
  exact Ev.s (fun k => by rw [em.l0]) (Ev.e (by omega) (Ev.p.r (by simp)))
 | cons x t ih =>
  intro i acc hd h0 ha
  rw [nM] at ha
  obtain ⟨hi, hd', hx, -⟩ := cV hd
  have h := ih (i + 1) (acc ++ [c] ++ x) hd' (by omega) (by simp; omega)
  refine Ev.s (fun k => by rw [em.l0]) (Ev.t (by omega) (Ev.t (by omega) (Ev.t (by rw [List.length_map]; omega) (Ev.t (by omega) ?_))))
  rw [Ry, hx, gm, fw, fw]
  refine Ev.t (by rw [List.length_singleton]; omega) (Ev.s (fun k => by rw [em.j0]) ?_)
  rw [gm, fw, fw, iu hi (by omega)]
  refine Ev.t (by simp; omega) (h.r ?_)
  simp
theorem yf (c : UInt8) (L : List (List UInt8)) (hl : L.length ≤ 1000000000) (ht : tF L ≤ 1000000000000000) : Ev (fun k => em.f k (L.map bT) (bT [c])) (bT (uE c L)) := by
 refine Ev.u (fun k => by rw [em.f, List.length_map]) ?_
 cases L with
 | nil => exact Ev.s (fun k => by rw [em.l0]) (Ev.e (by simp) (Ev.p.r (by rfl)))
 | cons x t =>
  rw [nM] at ht
  have h := Nd c (x :: t) hl t 1 x rfl (by omega) (by omega)
  refine Ev.s (fun k => by rw [em.l0]) (Ev.t (by simp) (Ev.t (by omega) (Ev.t (by simp) (Ev.e (by omega) ?_))))
  have r0 : bu ByteArray.empty ((x :: t).map bT) 0 = bT x := rfl
  have e0 : (⟨#[]⟩ : ByteArray) ++ bT x = bT x := gm [] x
  rw [r0]
  refine Ev.s (fun k => by rw [em.j0]) ?_
  rw [e0, show wrap64 ((0 : Int) + 1) = ((1 : Nat) : Int) by rw [eC (by omega) (by omega)]; rfl]
  exact Ev.t (by show 0 + x.length ≤ _; omega) h
/-! rows -/
def vR (x : ah) : Bool := vX x.f0 x.f1 x.f2
theorem Hy {x : ah} (h : vR x = true) : (0 ≤ x.f0 ∧ x.f0 ≤ 9) ∧ (0 ≤ x.f1 ∧ x.f1 ≤ 99) ∧ (0 ≤ x.f2 ∧ x.f2 ≤ 3) := by
 simp [vR, vX, pk] at h; omega
def fR (x : ah) : List UInt8 := if vR x = true then uE 46 [fI x.f0, fI x.f1, fI x.f2] else []
theorem HS (x : ah) : (fR x).length ≤ 66 := by
 unfold fR
 split
 ·rename_i h
  obtain ⟨h0, h1, h2⟩ := Hy h
  have a := qA x.f0 (by omega) (by omega)
  have b := qA x.f1 (by omega) (by omega)
  have c := qA x.f2 (by omega) (by omega)
  have := IK 46 [fI x.f0, fI x.f1, fI x.f2]
  rw [nM, nM, nM, show tF [] = 0 from rfl] at this
  omega
 ·simp
theorem Kx (x : ah) : uE 46 [fI x.f0, fI x.f1, fI x.f2] = fI x.f0 ++ [46] ++ fI x.f1 ++ [46] ++ fI x.f2 := by simp [uE]
theorem Ax (x : ah) : Ev (fun k => kR.f k x.f0 x.f1 x.f2) (bT (fR x)) := by
 unfold fR
 refine Ev.u (fun _ => rfl) (Ev.b (Ev.c (uz ..)) (Ev.i (fun h => ?_) (fun h => Ev.p.r ?_)))
 ·obtain ⟨h0, h1, h2⟩ := Hy (x := x) h
  have a := qA x.f0 (by omega) (by omega)
  have b := qA x.f1 (by omega) (by omega)
  have c := qA x.f2 (by omega) (by omega)
  have e0 := iJ x.f0 (by omega) (by omega)
  have e1 := iJ x.f1 (by omega) (by omega)
  have e2 := iJ x.f2 (by omega) (by omega)
  rw [if_pos (show vR x = true from h), Kx]
  refine Ev.b e0 (Ev.t ?_ (Ev.b e1 (Ev.t ?_ (Ev.t ?_ (Ev.b e2 (Ev.t ?_ (Ev.p.r ?_)))))))
  ·show (fI x.f0).length + 1 ≤ _; omega
  ·show ((bT (fI x.f0) ++ bT [46]).size + (bT (fI x.f1)).size ≤ _); simp only [gm, fw, List.length_append, List.length_singleton]; omega
  ·show ((bT (fI x.f0) ++ bT [46] ++ bT (fI x.f1)).size + (bT [46]).size ≤ _); simp only [gm, fw, List.length_append, List.length_singleton]; omega
  ·show ((bT (fI x.f0) ++ bT [46] ++ bT (fI x.f1) ++ bT [46]).size + (bT (fI x.f2)).size ≤ _); simp only [gm, fw, List.length_append, List.length_singleton]; omega
  ·show bT (fI x.f0) ++ bT [46] ++ bT (fI x.f1) ++ bT [46] ++ bT (fI x.f2) = _; simp only [gm]
 ·rw [if_neg (show ¬ vR x = true from h)]; rfl
theorem JE (x : ah) : Ev (fun k => oD.f k x.f0 x.f1 x.f2) (bT (fR x)) := by
 unfold fR
 refine Ev.u (fun _ => rfl) (Ev.b (Ev.c (qw ..)) (Ev.i (fun h => ?_) (fun h => Ev.p.r ?_)))
 ·obtain ⟨h0, h1, h2⟩ := Hy (x := x) h
  have a := qA x.f0 (by omega) (by omega)
  have b := qA x.f1 (by omega) (by omega)
  have c := qA x.f2 (by omega) (by omega)
  have e0 := iK x.f0 (by omega) (by omega)
  have e1 := iK x.f1 (by omega) (by omega)
  have e2 := iK x.f2 (by omega) (by omega)
  rw [if_pos (show vR x = true from h), Kx]
  refine Ev.b e0 (Ev.t ?_ (Ev.b e1 (Ev.t ?_ (Ev.t ?_ (Ev.b e2 (Ev.t ?_ (Ev.p.r ?_)))))))
  ·show (fI x.f0).length + 1 ≤ _; omega
  ·show ((bT (fI x.f0) ++ bT [46]).size + (bT (fI x.f1)).size ≤ _); simp only [gm, fw, List.length_append, List.length_singleton]; omega
  ·show ((bT (fI x.f0) ++ bT [46] ++ bT (fI x.f1)).size + (bT [46]).size ≤ _); simp only [gm, fw, List.length_append, List.length_singleton]; omega
  ·show ((bT (fI x.f0) ++ bT [46] ++ bT (fI x.f1) ++ bT [46]).size + (bT (fI x.f2)).size ≤ _); simp only [gm, fw, List.length_append, List.length_singleton]; omega
  ·show bT (fI x.f0) ++ bT [46] ++ bT (fI x.f1) ++ bT [46] ++ bT (fI x.f2) = _; simp only [gm]
 ·rw [if_neg (show ¬ vR x = true from h)]; rfl
def Oa (b : UInt8) : Prop := b.toNat = 45 ∨ (48 ≤ b.toNat ∧ b.toNat ≤ 57)
theorem Gj {n : Int} (hs : yQ n) : ∀ b ∈ fI n, Oa b := by
 have hd : ∀ m : Nat, m < 1000000000 → ∀ b ∈ oX m, Oa b := by
  intro m hm b hb
  exact .inr (of_decide_eq_true (List.all_eq_true.1 (IM m hm).2.1 b hb))
 obtain ⟨h1, h2⟩ := hs
 by_cases h : n < 0
 ·rw [Eb h]
  intro b hb
  rcases List.mem_cons.1 hb with rfl | hb
  ·exact .inl rfl
  ·exact hd _ (by omega) b hb
 ·rw [Ea h]
  exact hd _ (by omega)
theorem ado {n : Int} : fI n ≠ [] := by
 unfold fI
 split
 ·simp
 ·rw [oX]; split <;> simp
theorem Pa {b c : UInt8} (h : Oa b) (hc : c.toNat ≠ 45) (hd : ¬ (48 ≤ c.toNat ∧ c.toNat ≤ 57)) : b ≠ c := by
 intro e; rw [e] at h; rcases h with h | h
 ·exact hc h
 ·exact hd h
def pR (s : List UInt8) : ah × Bool :=
 match kl 46 s with
 | [a, b, c] => if (pI a).2 = true ∧ (pI b).2 = true ∧ (pI c).2 = true ∧ vR ⟨(pI a).1, (pI b).1, (pI c).1⟩ = true then (⟨(pI a).1, (pI b).1, (pI c).1⟩, true) else (⟨0, 0, 0⟩, false)
 | _ => (⟨0, 0, 0⟩, false)
theorem XV {x : ah} (h : vR x = true) : kl 46 (fR x) = [fI x.f0, fI x.f1, fI x.f2] := by
 obtain ⟨h0, h1, h2⟩ := Hy h
 have n0 := Gj (n := x.f0) ⟨by omega, by omega⟩
 have n1 := Gj (n := x.f1) ⟨by omega, by omega⟩
 have n2 := Gj (n := x.f2) ⟨by omega, by omega⟩
 unfold fR; rw [if_pos h]
 refine LK 46 _ _ fun y hy b hb => ?_
 have hn : Oa b := by
  simp only [List.mem_cons, List.not_mem_nil, or_false] at hy
  rcases hy with rfl | rfl | rfl
  ·exact n0 b hb
  ·exact n1 b hb
  ·exact n2 b hb
 exact Pa hn (by decide) (by decide)
theorem adj {x : ah} (h : vR x = true) : pR (fR x) = (x, true) := by
 obtain ⟨h0, h1, h2⟩ := Hy h
 unfold pR
 rw [XV h]
 dsimp only
 rw [lC x.f0 ⟨by omega, by omega⟩, lC x.f1 ⟨by omega, by omega⟩, lC x.f2 ⟨by omega, by omega⟩]
 exact if_pos ⟨rfl, rfl, rfl, h⟩
theorem PY {s a b c : List UInt8} (h : kl 46 s = [a, b, c]) : fR ⟨(pI a).1, (pI b).1, (pI c).1⟩ = s ↔ ((pI a).2 = true ∧ (pI b).2 = true ∧ (pI c).2 = true ∧ vR ⟨(pI a).1, (pI b).1, (pI c).1⟩ = true) := by
 constructor
 ·intro e
  by_cases v : vR ⟨(pI a).1, (pI b).1, (pI c).1⟩ = true
  ·have h' := XV v
   rw [e, h] at h'
   injection h' with e0 h'
   injection h' with e1 h'
   injection h' with e2 _
   obtain ⟨v0, v1, v2⟩ := Hy v
   dsimp only at v0 v1 v2 e0 e1 e2
   have p0 := lC (pI a).1 ⟨by omega, by omega⟩
   have p1 := lC (pI b).1 ⟨by omega, by omega⟩
   have p2 := lC (pI c).1 ⟨by omega, by omega⟩
   rw [← e0] at p0
   rw [← e1] at p1
   rw [← e2] at p2
   exact ⟨by rw [p0], by rw [p1], by rw [p2], v⟩
  ·unfold fR at e
   rw [if_neg v] at e
   rw [← e] at h
   simp [kl, pn] at h
 ·rintro ⟨h0, h1, h2, v⟩
  have f0 := (II h0).2
  have f1 := (II h1).2
  have f2 := (II h2).2
  have hj := Ug 46 s
  rw [h] at hj
  unfold fR
  rw [if_pos v]
  dsimp only
  rw [← f0, ← f1, ← f2]
  exact hj
theorem YE {s : List UInt8} (h : (pR s).2 = true) : vR (pR s).1 = true ∧ fR (pR s).1 = s := by
 unfold pR at h ⊢
 split at h
 ·rename_i a b c e
  by_cases g : (pI a).2 = true ∧ (pI b).2 = true ∧ (pI c).2 = true ∧ vR ⟨(pI a).1, (pI b).1, (pI c).1⟩ = true
  ·rw [if_pos g]; exact ⟨g.2.2.2, (PY e).2 g⟩
  ·rw [if_neg g] at h; cases h
 ·cases h
abbrev rtp (r : ah × Bool) : Int × Int × Int × Bool := (r.1.f0, r.1.f1, r.1.f2, r.2)
theorem Kf (s : List UInt8) (hs : s.length ≤ 1000000000) : Ev (fun k => pC.f k (bT s)) (rtp (pR s)) := by
 have ec := tu s hs 46 46 rfl
 have hm := fun x => wI (c := 46) (s := s) (x := x)
 unfold pR
 refine Ev.u (fun _ => rfl) (Ev.b ec ?_)
 rw [List.length_map]
 cases h : kl 46 s with
 | nil => exact Ev.e (by simp) Ev.p
 | cons a l =>
  cases l with
  | nil => exact Ev.e (by simp) Ev.p
  | cons b l =>
   cases l with
   | nil => exact Ev.e (by simp) Ev.p
   | cons c l =>
    cases l with
    | cons d l => exact Ev.e (by simp only [List.length_cons]; omega) Ev.p
    | nil =>
     rw [h] at hm
     have za := hm a (by simp)
     have zb := hm b (by simp)
     have zc := hm c (by simp)
     refine Ev.t rfl (Ev.t (by simp) ?_)
     rw [show bu ByteArray.empty ([a, b, c].map bT) 0 = bT a from rfl, show bu ByteArray.empty ([a, b, c].map bT) 1 = bT b from rfl, show bu ByteArray.empty ([a, b, c].map bT) 2 = bT c from rfl]
     refine Ev.b (jz a (by omega)) (Ev.t (by simp) (Ev.b (jz b (by omega)) (Ev.t (by simp) (Ev.b (jz c (by omega)) ?_))))
     have fr := Ax ⟨(pI a).1, (pI b).1, (pI c).1⟩
     refine Ev.b fr (Ev.i (fun g => Ev.p.r ?_) (fun g => Ev.p.r ?_))
     ·dsimp only; rw [if_pos ((PY h).1 (Bf ((yb _ _).1 g)))]
     ·dsimp only; rw [if_neg (fun q => g (by rw [(PY h).2 q]))]
theorem Ks (s : List UInt8) (hs : s.length ≤ 1000000000) : Ev (fun k => pD.f k (bT s)) (rtp (pR s)) := by
 have ec := vM s hs 46 46 rfl
 unfold pR
 refine Ev.u (fun _ => rfl) (Ev.b ec ?_)
 rw [List.length_map]
 cases h : kl 46 s with
 | nil => exact Ev.e (by simp) Ev.p
 | cons a l =>
  cases l with
  | nil => exact Ev.e (by simp) Ev.p
  | cons b l =>
   cases l with
   | nil => exact Ev.e (by simp) Ev.p
   | cons c l =>
    cases l with
    | cons d l => exact Ev.e (by simp only [List.length_cons]; omega) Ev.p
    | nil =>
     refine Ev.t rfl (Ev.t (by simp) ?_)
     rw [show bu ByteArray.empty ([a, b, c].map bT) 0 = bT a from rfl, show bu ByteArray.empty ([a, b, c].map bT) 1 = bT b from rfl, show bu ByteArray.empty ([a, b, c].map bT) 2 = bT c from rfl]
     refine Ev.b (sS a) (Ev.t (by simp) (Ev.b (sS b) (Ev.t (by simp) (Ev.b (sS c) ?_))))
     refine Ev.i (fun q0 => Ev.i (fun q1 => Ev.i (fun q2 => Ev.b (Ev.c (qw ..)) (Ev.i (fun q3 => Ev.p.r ?_) (fun q3 => Ev.p.r ?_))) (fun q2 => Ev.p.r ?_)) (fun q1 => Ev.p.r ?_)) (fun q0 => Ev.p.r ?_)
     ·dsimp only; rw [if_pos ⟨q0, q1, q2, q3⟩]
     ·dsimp only; rw [if_neg (fun g => q3 g.2.2.2)]
     ·dsimp only; rw [if_neg (fun g => q2 g.2.2.1)]
     ·dsimp only; rw [if_neg (fun g => q1 g.2.1)]
     ·dsimp only; rw [if_neg (fun g => q0 g.1)]
def kL (l : List ah) : List UInt8 := if hH l = true then uE 32 (l.map fR) else []
theorem Tw : ∀ l : List ah, tF (l.map fR) ≤ 67 * l.length
 | [] => by simp [tF]
 | x :: l => by rw [List.map_cons, nM, List.length_cons]; have := HS x; have := Tw l; omega
theorem uU (l : List ah) : (kL l).length ≤ 1608 := by
 unfold kL
 split
 ·rename_i h
  have := IK 32 (l.map fR); have := Tw l; have := iH h; omega
 ·simp
theorem sR (l : List ah) (hl : l.length ≤ 1000000) : Ev (fun k => ft.f k l) (bT (uE 32 (l.map fR))) := by
 have L : ∀ (s : List ah) (i : Nat) (A : List (List UInt8)), l.drop i = s → A.length ≤ i → i ≤ l.length → tF A ≤ 67 * i → Ev (fun k => ft.l0 k (A.map bT) (l.length : Int) (i : Int) l) (bT (uE 32 (A ++ s.map fR))) := by
  intro s
  induction s with
  | nil =>
   intro i A hd hA hi ht
   have := dQ hd
   refine Ev.s (fun k => by rw [ft.l0]) ?_
   exact Ev.e (by omega) (Ev.b (yf 32 A (by omega) (by omega)) (Ev.p.r (by simp)))
  | cons x t ih =>
   intro i A hd hA hi ht
   obtain ⟨hi', hd', hx, -⟩ := cV hd
   have hf := HS x
   have h := ih (i + 1) (A ++ [fR x]) hd' (by simp; omega) (by omega) (by rw [Rk, nM, show tF [] = 0 from rfl]; omega)
   refine Ev.s (fun k => by rw [ft.l0]) (Ev.t (by omega) (Ev.t (by omega) (Ev.t (by omega) ?_)))
   rw [rO, hx, iu hi' (by omega)]
   refine Ev.b (JE x) (Ev.t (by rw [List.length_map]; omega) ?_)
   rw [List.map_append, List.append_assoc] at h
   exact h
 exact Ev.u (fun _ => rfl) (L l 0 [] rfl (by simp) (by omega) (by simp [tF]))
theorem zT (l : List ah) (hl : l.length ≤ 1073741824) : Ev (fun k => kj.f k l) (bT (kL l)) := by
 unfold kL
 refine Ev.u (fun _ => rfl) (Ev.b (ox l (by omega)) (Ev.i (fun h => ?_) (fun h => Ev.p.r ?_)))
 ·rw [if_pos h]
  exact Ev.b (sR l (by have := iH h; omega)) Ev.p
 ·rw [if_neg h]; rfl
theorem mS (l : List ah) (hl : l.length ≤ 1073741824) : Ev (fun k => cG.f k l) (bT (kL l)) := by
 have hv := lB l (by omega)
 unfold kL
 refine Ev.u (fun k => by rw [cG.f]) ?_
 by_cases h : hH l = true
 ·have h24 := iH h
  rw [h] at hv
  rw [if_pos h]
  have J : ∀ (x : ah) (i : Nat) (acc : List UInt8) (r : ByteArray) (b : Bool), i < l.length → (∀ d, l.getD i d = x) → acc.length ≤ 1000000 → Ev (fun k => cG.l0 k (bT (acc ++ fR x)) ((i + 1 : Nat) : Int) l) r → Ev (fun k => cG.j0 k (bT acc) (i : Int) b l) r := by
   intro x i acc r b hi hx ha h
   have hf := HS x
   refine Ev.s (fun k => by rw [cG.j0]) (Ev.t (by omega) (Ev.t (by omega) ?_))
   rw [rO, hx, iu hi (by omega)]
   refine Ev.b (Ax x) ?_
   rw [gm, fw, fw]
   exact Ev.t (by omega) h
  have L : ∀ (s : List ah) (i : Nat) (acc : List UInt8), l.drop i = s → 0 < i → acc.length + 67 * s.length ≤ 900000 → Ev (fun k => cG.l0 k (bT acc) (i : Int) l) (bT (acc ++ (s.map fR).flatMap fun y => 32 :: y)) := by
   intro s
   induction s with
   | nil =>
    intro i acc hd h0 ha
    have := dQ hd
    exact Ev.s (fun k => by rw [cG.l0]) (Ev.e (by omega) (Ev.p.r (by simp)))
   | cons x t ih =>
    intro i acc hd h0 ha
    rw [List.length_cons] at ha
    obtain ⟨hi', hd', hx, -⟩ := cV hd
    have hf := HS x
    refine Ev.s (fun k => by rw [cG.l0]) ?_
    refine Ev.t (by omega) (Ev.b hv (Ev.t rfl (Ev.t (by omega) (Ev.t (by show acc.length + 1 ≤ _; omega) ?_))))
    rw [show bT acc ++ (⟨#[32]⟩ : ByteArray) = bT (acc ++ [32]) from gm acc [32]]
    refine J x i (acc ++ [32]) _ _ hi' hx (by simp; omega) ((ih (i + 1) _ hd' (by omega) (by simp; omega)).r ?_)
    simp
  cases l with
  | nil => exact Ev.s (fun k => by rw [cG.l0]) (Ev.e (by simp) (Ev.p.r (by rfl)))
  | cons x t =>
   have hf := HS x
   rw [List.length_cons] at h24
   refine Ev.s (fun k => by rw [cG.l0]) ?_
   refine Ev.t (by simp) (Ev.b hv (Ev.t rfl (Ev.e (by omega) ?_)))
   exact J x 0 [] _ _ (by simp) (fun _ => rfl) (by simp) (L t 1 (fR x) rfl (by omega) (by omega))
 ·rw [if_neg h]
  refine Ev.s (fun k => by rw [cG.l0]) ?_
  exact Ev.i (fun _ => Ev.b hv (Ev.e h (Ev.p.r rfl))) (fun _ => Ev.p.r rfl)
def xL (A : List ah) : List (List UInt8) → List ah × Bool
 | [] => if hH A = true then (A, true) else ([], false)
 | x :: t => if (pR x).2 = true then xL (A ++ [(pR x).1]) t else ([], false)
def iI (s : List UInt8) : List ah × Bool := if s = [] then ([], true) else xL [] (kl 32 s)
theorem AC (s : List UInt8) (hs : s.length ≤ 100000000) : Ev (fun k => ga.f k (bT s)) (iI s) := by
 unfold iI
 refine Ev.u (fun _ => rfl) (Ev.i (fun h => ?_) (fun h => ?_))
 ·rw [if_pos (show s = [] from (M3 _).1 h)]; exact Ev.p
 have h' : ¬ s = [] := fun e => h ((M3 _).2 e)
 rw [if_neg h']
 have hl := yt 32 s
 have hm := fun x => wI (c := 32) (s := s) (x := x)
 refine Ev.b (vM s (by omega) 32 32 rfl) ?_
 rw [List.length_map]
 generalize kl 32 s = C at *
 have L : ∀ (t : List (List UInt8)) (i : Nat) (A : List ah), C.drop i = t → A.length ≤ i → i ≤ C.length → Ev (fun k => ga.l0 k A (C.map bT) (C.length : Int) (i : Int)) (xL A t) := by
  intro t
  induction t with
  | nil =>
   intro i A hd hA hi
   have := dQ hd
   refine Ev.s (fun k => by rw [ga.l0]) (Ev.e (by omega) (Ev.b (ox A (by omega)) (Ev.i (fun g => Ev.p.r ?_) (fun g => Ev.p.r ?_))))
   ·unfold xL; rw [if_pos g]
   ·unfold xL; rw [if_neg g]
  | cons x t ih =>
   intro i A hd hA hi
   obtain ⟨hi', hd', hx, -⟩ := cV hd
   have hz := hm x (List.mem_of_mem_drop (by rw [hd]; exact List.mem_cons_self ..))
   refine Ev.s (fun k => by rw [ga.l0]) (Ev.t (by omega) (Ev.t (by omega) (Ev.t (by rw [List.length_map]; omega) ?_)))
   rw [Ry, hx, iu hi' (by omega)]
   unfold xL
   refine Ev.b (Ks x (by omega)) (Ev.i (fun g => ?_) (fun g => Ev.p.r ?_))
   ·rw [if_pos g]
    exact Ev.t (by omega) (ih (i + 1) _ hd' (by simp; omega) (by omega))
   ·rw [if_neg g]
 exact L C 0 [] rfl (by simp) (by omega)
theorem Aw (A : List ah) (hA : A.length ≤ 200000000) : Ev (fun k => de.j0 k A) (if hH A = true then (A, true) else ([], false)) := by
 refine Ev.s (fun k => by rw [de.j0]) (Ev.b (lB A (by omega)) (Ev.i (fun g => Ev.p.r ?_) (fun g => Ev.p.r ?_)))
 ·rw [if_pos g]
 ·rw [if_neg g]
theorem oc (s : List UInt8) (hs : s.length ≤ 100000000) : Ev (fun k => de.f k (bT s)) (iI s) := by
 unfold iI
 have hl := yt 32 s
 have hm := fun x => wI (c := 32) (s := s) (x := x)
 refine Ev.u (fun _ => rfl) (Ev.b (tu s (by omega) 32 32 rfl) ?_)
 by_cases h : s = []
 ·subst h
  rw [if_pos rfl]
  refine Ev.s (fun k => by rw [de.l0]) ?_
  refine Ev.t (by simp [kl, pn]) (Ev.t rfl ?_)
  exact (Aw [] (by simp)).r (by rfl)
 rw [if_neg h]
 generalize kl 32 s = C at *
 have L : ∀ (t : List (List UInt8)) (i : Nat) (A : List ah), C.drop i = t → A.length ≤ i → i ≤ C.length → Ev (fun k => de.l0 k (bT s) A (C.map bT) (i : Int)) (xL A t) := by
  intro t
  induction t with
  | nil =>
   intro i A hd hA hi
   have := dQ hd
   refine Ev.s (fun k => by rw [de.l0]) (Ev.e (by rw [List.length_map]; omega) ?_)
   exact Aw A (by omega)
  | cons x t ih =>
   intro i A hd hA hi
   obtain ⟨hi', hd', hx, -⟩ := cV hd
   have hz := hm x (List.mem_of_mem_drop (by rw [hd]; exact List.mem_cons_self ..))
   refine Ev.s (fun k => by rw [de.l0]) ?_
   refine Ev.t (by rw [List.length_map]; omega) (Ev.e (fun g => h ((M3 _).1 g)) (Ev.t (by omega) ?_))
   rw [Ry, hx, iu hi' (by omega)]
   unfold xL
   refine Ev.b (Kf x (by omega)) (Ev.i (fun g => ?_) (fun g => Ev.p.r ?_))
   ·rw [if_pos g]
    exact Ev.t (by omega) (ih (i + 1) _ hd' (by simp; omega) (by omega))
   ·rw [if_neg g]
 exact L C 0 [] rfl (by simp) (by omega)
theorem PM : ∀ (t : List (List UInt8)) (A : List ah), (xL A t).2 = true → ∃ B, (xL A t).1 = A ++ B ∧ B.map fR = t ∧ hH (A ++ B) = true
 | [], A, h => by
  unfold xL at h ⊢
  by_cases g : hH A = true
  ·rw [if_pos g]; exact ⟨[], by simp, rfl, by simpa using g⟩
  ·rw [if_neg g] at h; cases h
 | x :: t, A, h => by
  unfold xL at h ⊢
  by_cases g : (pR x).2 = true
  ·rw [if_pos g] at h ⊢
   obtain ⟨B, b1, b2, b3⟩ := PM t _ h
   rw [List.append_assoc] at b1 b3
   exact ⟨(pR x).1 :: B, b1, by rw [List.map_cons, b2, (YE g).2], b3⟩
  ·rw [if_neg g] at h; cases h
theorem T5 : ∀ (t : List (List UInt8)) (A : List ah), (xL A t).2 = false → xL A t = ([], false)
 | [], A, h => by
  unfold xL at h ⊢
  by_cases g : hH A = true
  ·rw [if_pos g] at h; cases h
  ·rw [if_neg g]
 | x :: t, A, h => by
  unfold xL at h ⊢
  by_cases g : (pR x).2 = true
  ·rw [if_pos g] at h ⊢; exact T5 t _ h
  ·rw [if_neg g]
theorem PL {s : List UInt8} (h : (iI s).2 = true) : hH (iI s).1 = true ∧ kL (iI s).1 = s := by
 unfold iI at h ⊢
 by_cases g : s = []
 ·rw [if_pos g, g]; exact ⟨by rfl, by rfl⟩
 ·rw [if_neg g] at h ⊢
  obtain ⟨B, b1, b2, b3⟩ := PM _ _ h
  rw [List.nil_append] at b1 b3
  rw [b1]
  refine ⟨b3, ?_⟩
  unfold kL; rw [if_pos b3, b2, Ug]
theorem T4 {s : List UInt8} (h : (iI s).2 = false) : iI s = ([], false) := by
 unfold iI at h ⊢
 by_cases g : s = []
 ·rw [if_pos g] at h; cases h
 ·rw [if_neg g] at h ⊢; exact T5 _ _ h
theorem YA (s : List UInt8) : (iI s).1.length ≤ 24 := by
 cases h : (iI s).2 with
 | true => exact iH (PL h).1
 | false => rw [T4 h]; simp
theorem RB : ∀ (B A : List ah), po B = true → hH (A ++ B) = true → xL A (B.map fR) = (A ++ B, true)
 | [], A, _, h => by
  rw [List.append_nil] at h ⊢
  show (if hH A = true then (A, true) else ([], false)) = _
  rw [if_pos h]
 | x :: B, A, hv, h => by
  have hx : vR x = true := by unfold po at hv; rw [List.all_cons, Bool.and_eq_true] at hv; exact hv.1
  have hB : po B = true := by unfold po at hv ⊢; rw [List.all_cons, Bool.and_eq_true] at hv; exact hv.2
  rw [List.map_cons]
  unfold xL
  rw [adj hx, if_pos rfl]
  have ih := RB B (A ++ [x]) hB (by rw [List.append_assoc]; exact h)
  rw [ih, List.append_assoc]; rfl
theorem adn {x : ah} (h : vR x = true) : fR x ≠ [] := by
 unfold fR; rw [if_pos h, CC]
 intro e
 exact ado (List.append_eq_nil_iff.1 e).1
theorem XS {x : ah} : ∀ b ∈ fR x, Oa b ∨ b.toNat = 46 := by
 unfold fR
 by_cases h : vR x = true
 ·obtain ⟨h0, h1, h2⟩ := Hy h
  have n0 := Gj (n := x.f0) ⟨by omega, by omega⟩
  have n1 := Gj (n := x.f1) ⟨by omega, by omega⟩
  have n2 := Gj (n := x.f2) ⟨by omega, by omega⟩
  rw [if_pos h, Kx]
  intro b hb
  simp only [List.mem_append, List.mem_singleton] at hb
  rcases hb with (((hb | hb) | hb) | hb) | hb
  ·exact .inl (n0 b hb)
  ·right; rw [hb]; rfl
  ·exact .inl (n1 b hb)
  ·right; rw [hb]; rfl
  ·exact .inl (n2 b hb)
 ·rw [if_neg h]; simp
theorem rP {l : List ah} (h : hH l = true) : iI (kL l) = (l, true) := by
 unfold kL; rw [if_pos h]
 cases l with
 | nil => rfl
 | cons x t =>
  have hv := (N0.1 h).1
  have hx : vR x = true := by unfold po at hv; rw [List.all_cons, Bool.and_eq_true] at hv; exact hv.1
  have hn : uE 32 ((x :: t).map fR) ≠ [] := by
   rw [List.map_cons, CC]; exact fun e => adn hx (List.append_eq_nil_iff.1 e).1
  unfold iI
  rw [if_neg hn, List.map_cons, LK, ← List.map_cons, RB _ _ hv (by simpa using h)]
  ·rfl
  ·intro y hy b hb
   rw [← List.map_cons] at hy
   obtain ⟨r, -, rfl⟩ := List.mem_map.1 hy
   rcases XS b hb with hq | hq
   ·exact Pa hq (by decide) (by decide)
   ·intro e; rw [e] at hq; exact absurd hq (by decide)
theorem Uf {c : UInt8} {b : UInt8} : ∀ {L : List (List UInt8)}, b ∈ uE c L → b = c ∨ ∃ x ∈ L, b ∈ x
 | [], h => by simp [uE] at h
 | x :: t, h => by
  rw [CC, List.mem_append] at h
  rcases h with h | h
  ·exact .inr ⟨x, List.mem_cons_self .., h⟩
  ·obtain ⟨y, hy, hb⟩ := List.mem_flatMap.1 h
   rcases List.mem_cons.1 hb with hb | hb
   ·exact .inl hb
   ·exact .inr ⟨y, List.mem_cons_of_mem _ hy, hb⟩
theorem SZ {l : List ah} : ∀ b ∈ kL l, Oa b ∨ b.toNat = 46 ∨ b.toNat = 32 := by
 unfold kL
 split
 ·intro b hb
  rcases Uf hb with hb | ⟨x, hx, hb⟩
  ·right; right; rw [hb]; rfl
  ·obtain ⟨r, -, rfl⟩ := List.mem_map.1 hx
   rcases XS b hb with hq | hq
   ·exact .inl hq
   ·exact .inr (.inl hq)
 ·simp
/-! tasks -/
theorem P9 (c : UInt8) : kl c [] = [[]] := rfl
def eb (b : Bool) : List UInt8 := if b = true then [49] else [48]
theorem Rg (l : List Int) (p z n : Int) (h : Rd l p) (h0 : 0 < n) (hn : n ≤ 1099511627776) : ∃ v p' z', cP.f l p z n = some (v, p', z') ∧ 0 ≤ v ∧ v < n ∧ Rd l p' := by
 by_cases c : n ≤ 256
 ·obtain ⟨v, p', z', e, v0, v1, hr⟩ := iw l p z n h c
  exact ⟨v, p', z', e, v0, by omega, hr⟩
 obtain ⟨a, p1, z1, e1, a0, a1, h1⟩ := uD l p z h
 obtain ⟨b, p2, z2, e2, b0, b1, h2⟩ := uD l p1 z1 h1
 obtain ⟨d, p3, z3, e3, d0, d1, h3⟩ := uD l p2 z2 h2
 obtain ⟨e, p4, z4, e4, f0, f1, h4⟩ := uD l p3 z3 h3
 unfold cP.f
 rw [if_neg (by omega), if_neg c, ob e1, ob e2, ob e3, ob e4, if_pos (by omega)]
 rw [eC (x := a * 16777216) (by omega) (by omega), eC (x := b * 65536) (by omega) (by omega), eC (x := d * 256) (by omega) (by omega), eC (x := a * 16777216 + b * 65536) (by omega) (by omega), eC (x := a * 16777216 + b * 65536 + d * 256) (by omega) (by omega), eC (x := a * 16777216 + b * 65536 + d * 256 + e) (by omega) (by omega)]
 have e5 : Int.tmod (a * 16777216 + b * 65536 + d * 256 + e) n = (a * 16777216 + b * 65536 + d * 256 + e) % n := Int.tmod_eq_emod_of_nonneg (by omega)
 refine ⟨_, _, _, rfl, ?_, ?_, h4⟩
 ·rw [e5]; exact Int.emod_nonneg _ (by omega)
 ·rw [e5]; exact Int.emod_lt_of_pos _ (by omega)
def xi (xs : List Int) : List UInt8 := xs.map fun n => UInt8.ofNat n.toNat
theorem Zx (xs : List Int) : strOfNums xs = bT (xi xs) := rfl
theorem Ud (l : List Int) (q : Int) : ∀ (m : Nat) (A : List Int) (p z : Int), Rd l p → A.length + m ≤ 1000 → ∃ A' p' z', Ev (fun k => dU.l0 k A q (m : Int) p z l) (bT (xi A'), p', z') ∧ A'.length = A.length + m ∧ Rd l p' := by
 intro m
 induction m with
 | zero =>
  intro A p z h hA
  refine ⟨A, p, z, Ev.s (fun k => by rw [dU.l0]) ?_, rfl, h⟩
  exact Ev.e (by omega) Ev.p
 | succ m ih =>
  intro A p z h hA
  obtain ⟨b, p1, z1, e1, b0, b1, h1⟩ := uD l p z h
  have J1 : ∀ y : Int, ∃ A' p' z', Ev (fun k => dU.j1 k A q ((m + 1 : Nat) : Int) y p1 z1 l) (bT (xi A'), p', z') ∧ A'.length = A.length + (m + 1) ∧ Rd l p' := by
   intro y
   obtain ⟨A', p', z', e, hl, hr⟩ := ih (A ++ [IntKind.u8.wrap y]) p1 z1 h1 (by simp; omega)
   refine ⟨A', p', z', Ev.s (fun k => by rw [dU.j1]) (Ev.t (by omega) ?_), by rw [hl]; simp; omega, hr⟩
   rw [show wrap64 (((m + 1 : Nat) : Int) - 1) = (m : Int) by rw [eC (by omega) (by omega)]; omega]
   exact e
  have J0 : ∀ y : Int, ∃ A' p' z', Ev (fun k => dU.j0 k A q ((m + 1 : Nat) : Int) y p1 z1 l) (bT (xi A'), p', z') ∧ A'.length = A.length + (m + 1) ∧ Rd l p' := by
   intro y
   by_cases c : q = 2
   ·obtain ⟨A', p', z', e, hl, hr⟩ := J1 (wrap64 (97 + Int.tmod y 4))
    exact ⟨A', p', z', Ev.s (fun k => by rw [dU.j0]) (Ev.t c e), hl, hr⟩
   ·obtain ⟨A', p', z', e, hl, hr⟩ := J1 y
    exact ⟨A', p', z', Ev.s (fun k => by rw [dU.j0]) (Ev.e c e), hl, hr⟩
  by_cases c : q = 1
  ·obtain ⟨A', p', z', e, hl, hr⟩ := J0 (Int.tmod b 2)
   refine ⟨A', p', z', Ev.s (fun k => by rw [dU.l0]) ?_, hl, hr⟩
   exact Ev.t (by omega) (Ev.b (Ev.c e1) (Ev.t c e))
  ·obtain ⟨A', p', z', e, hl, hr⟩ := J0 b
   refine ⟨A', p', z', Ev.s (fun k => by rw [dU.l0]) ?_, hl, hr⟩
   exact Ev.t (by omega) (Ev.b (Ev.c e1) (Ev.e c e))
theorem Ue (l : List Int) (p z n : Int) (h : Rd l p) (hn : 0 ≤ n ∧ n ≤ 100) : ∃ s p' z', Ev (fun k => dU.f k l p z n) (bT s, p', z') ∧ s.length ≤ 100 ∧ Rd l p' := by
 obtain ⟨q, p1, z1, e1, -, -, h1⟩ := iw l p z 4 h (by omega)
 obtain ⟨w, p2, z2, e2, w0, w1, h2⟩ := iw l p1 z1 (n + 1) h1 (by omega)
 obtain ⟨m, rfl⟩ : ∃ m : Nat, w = m := ⟨w.toNat, by omega⟩
 obtain ⟨A', p', z', e, hl, hr⟩ := Ud l q m [] p2 z2 h2 (by simp; omega)
 refine ⟨xi A', p', z', Ev.u (fun _ => rfl) (Ev.b (Ev.c e1) ?_), by unfold xi; rw [List.length_map, hl]; simp; omega, hr⟩
 rw [eC (x := n + 1) (by omega) (by omega)]
 exact Ev.b (Ev.c e2) e
theorem exB (s : List UInt8) (f i : Nat) : ∃ u, (bT s).extract f i = bT u ∧ u.length ≤ s.length := by
 refine ⟨_, u7 _ _ _, ?_⟩
 rw [xy, List.length_take, List.length_drop]; omega
theorem SR (l : List Int) (p z : Int) (s : List UInt8) (h : Rd l p) (hs : s.length ≤ 1000000) : ∃ s' p' z', Ev (fun k => kC.f k l p z (bT s)) (bT s', p', z') ∧ s'.length ≤ 2 * s.length + 100 ∧ Rd l p' := by
 by_cases c : s.length = 0
 ·obtain ⟨u, p1, z1, e1, hu, h1⟩ := Ue l p z 3 h (by omega)
  exact ⟨u, p1, z1, Ev.u (fun _ => rfl) (Ev.t (by rw [fw]; omega) (Ev.b e1 Ev.p)), by omega, h1⟩
 obtain ⟨v, p1, z1, e1, v0, v1, h1⟩ := Rg l p z (s.length : Int) h (by omega) (by omega)
 obtain ⟨w, p2, z2, e2, w0, w1, h2⟩ := iw l p1 z1 4 h1 (by omega)
 obtain ⟨n, rfl⟩ : ∃ n : Nat, v = n := ⟨v.toNat, by omega⟩
 have wn : wrap64 ((n : Int) + 1) = ((n + 1 : Nat) : Int) := iu (n := s.length) (by omega) (by omega)
 obtain ⟨u1, x1, y1⟩ := exB s 0 n
 obtain ⟨u2, x2, y2⟩ := exB s (n + 1) s.length
 obtain ⟨u3, x3, y3⟩ := exB s n s.length
 by_cases c0 : w = 0
 ·refine ⟨u1 ++ u2, p2, z2, Ev.u (fun k => by rw [kC.f]) ?_, by simp; omega, h2⟩
  rw [fw]
  refine Ev.e (by omega) (Ev.b (Ev.c e1) (Ev.b (Ev.c e2) (Ev.t c0 ?_)))
  dsimp only
  rw [wn, Int.toNat_natCast, Int.toNat_natCast, x1, x2, gm, fw, fw]
  exact Ev.t (by omega) (Ev.t (by omega) (Ev.t (by omega) (Ev.t (by omega) (Ev.t (by omega) Ev.p))))
 by_cases c1 : w = 1
 ·obtain ⟨b, p3, z3, e3, b0, b1, h3⟩ := uD l p2 z2 h2
  refine ⟨u1 ++ xi [IntKind.u8.wrap b] ++ u3, p3, z3, Ev.u (fun k => by rw [kC.f]) ?_, by simp [xi]; omega, h3⟩
  rw [fw]
  refine Ev.e (by omega) (Ev.b (Ev.c e1) (Ev.b (Ev.c e2) (Ev.e c0 (Ev.t c1 ?_))))
  dsimp only
  rw [Int.toNat_natCast, x1, x3]
  refine Ev.t (by omega) (Ev.t (by omega) (Ev.b (Ev.c e3) ?_))
  rw [Zx, gm, gm, fw, fw, fw, fw]
  exact Ev.t (by simp [xi]; omega) (Ev.t (by simp [xi]; omega) Ev.p)
 by_cases c2 : w = 2
 ·refine ⟨u1, p2, z2, Ev.u (fun k => by rw [kC.f]) ?_, by omega, h2⟩
  rw [fw]
  refine Ev.e (by omega) (Ev.b (Ev.c e1) (Ev.b (Ev.c e2) (Ev.e c0 (Ev.e c1 (Ev.t c2 ?_)))))
  dsimp only
  rw [Int.toNat_natCast, x1]
  exact Ev.t (by omega) (Ev.t (by omega) Ev.p)
 obtain ⟨b, p3, z3, e3, b0, b1, h3⟩ := iw l p2 z2 255 h2 (by omega)
 refine ⟨u1 ++ xi [IntKind.u8.wrap (xorI (IntKind.i64.wrap (bt (bT s) (n : Int))) (wrap64 (1 + b)))] ++ u2, p3, z3, Ev.u (fun k => by rw [kC.f]) ?_, by simp [xi]; omega, h3⟩
 rw [fw]
 refine Ev.e (by omega) (Ev.b (Ev.c e1) (Ev.b (Ev.c e2) (Ev.e c0 (Ev.e c1 (Ev.e c2 ?_)))))
 dsimp only
 rw [wn, Int.toNat_natCast, Int.toNat_natCast, x1, x2]
 refine Ev.t (by omega) (Ev.t (by omega) (Ev.t (by omega) (Ev.t (by omega) (Ev.t (by omega) (Ev.b (Ev.c e3) ?_)))))
 rw [Zx, gm, gm, fw, fw, fw, fw]
 exact Ev.t (by simp [xi]; omega) (Ev.t (by simp [xi]; omega) Ev.p)
theorem Ob (l : List Int) (p z : Int) (L : List ByteArray) (h : Rd l p) (h0 : 0 < L.length) (hn : L.length ≤ 256) : ∃ v p' z', mH.f l p z L = some (v, p', z') ∧ v ∈ L ∧ Rd l p' := by
 obtain ⟨v, p', z', e, v0, v1, hr⟩ := iw l p z (L.length : Int) h (by omega)
 unfold mH.f
 rw [ob e]
 dsimp only
 rw [if_pos v0, if_pos (by omega)]
 refine ⟨_, _, _, rfl, ?_, hr⟩
 obtain ⟨n, rfl⟩ : ∃ n : Nat, v = n := ⟨v.toNat, by omega⟩
 rw [show bu ByteArray.empty L (n : Int) = L.getD n ByteArray.empty from rfl, List.getD_eq_getElem?_getD, List.getElem?_eq_getElem (by omega)]
 exact List.getElem_mem (by omega)
def cF {α : Type} (f : Nat → Option α) (P : α → Prop) : Prop := ∃ r, Ev f r ∧ P r
theorem cF.s {α : Type} {L f : Nat → Option α} {P : α → Prop} (h : ∀ k, L (k + 1) = f k) (hf : cF f P) : cF L P := by
 obtain ⟨r, e, p⟩ := hf; exact ⟨r, Ev.s h e, p⟩
theorem cF.u {α : Type} {L f : Nat → Option α} {P : α → Prop} (h : ∀ k, L k = f k) (hf : cF f P) : cF L P := by
 obtain ⟨r, e, p⟩ := hf; exact ⟨r, Ev.u h e, p⟩
theorem cF.t {α : Type} {p : Prop} [Decidable p] {f g : Nat → Option α} {P : α → Prop} (h : p) (hf : cF f P) : cF (fun k => if p then f k else g k) P := by
 obtain ⟨r, e, q⟩ := hf; exact ⟨r, Ev.t h e, q⟩
theorem cF.e {α : Type} {p : Prop} [Decidable p] {f g : Nat → Option α} {P : α → Prop} (h : ¬ p) (hf : cF g P) : cF (fun k => if p then f k else g k) P := by
 obtain ⟨r, e, q⟩ := hf; exact ⟨r, Ev.e h e, q⟩
theorem cF.i {α : Type} {p : Prop} [Decidable p] {f g : Nat → Option α} {P : α → Prop} (hf : p → cF f P) (hg : ¬ p → cF g P) : cF (fun k => if p then f k else g k) P := by
 by_cases h : p
 ·exact cF.t h (hf h)
 ·exact cF.e h (hg h)
theorem cF.b {α β : Type} {f : Nat → Option α} {g : Nat → α → Option β} {P : α → Prop} {Q : β → Prop} (hf : cF f P) (hg : ∀ a, P a → cF (fun k => g k a) Q) : cF (fun k => (f k).bind (g k)) Q := by
 obtain ⟨a, e, p⟩ := hf
 obtain ⟨r, e', q⟩ := hg a p
 exact ⟨r, Ev.b e e', q⟩
theorem cF.bc {α β : Type} {o : Option α} {a : α} {g : Nat → α → Option β} {Q : β → Prop} (h : o = some a) (hg : cF (fun k => g k a) Q) : cF (fun k => o.bind (g k)) Q := by
 obtain ⟨r, e', q⟩ := hg
 exact ⟨r, Ev.b (Ev.c h) e', q⟩
theorem cF.p {α : Type} {r : α} {P : α → Prop} (h : P r) : cF (fun _ => some r) P := ⟨r, Ev.p, h⟩
theorem cF.m {α : Type} {f : Nat → Option α} {P Q : α → Prop} (h : cF f P) (hp : ∀ a, P a → Q a) : cF f Q := by
 obtain ⟨r, e, p⟩ := h; exact ⟨r, e, hp r p⟩
theorem cF.k {α : Type} {o : Option α} {P : α → Prop} (h : ∃ r, o = some r ∧ P r) : cF (fun _ => o) P := by
 obtain ⟨r, e, p⟩ := h; exact ⟨r, Ev.c e, p⟩
def wK (x : ah) : Prop := (-9223372036854775808 ≤ x.f0 ∧ x.f0 ≤ 9223372036854775807) ∧ (-9223372036854775808 ≤ x.f1 ∧ x.f1 ≤ 9223372036854775807) ∧ (-9223372036854775808 ≤ x.f2 ∧ x.f2 ≤ 9223372036854775807)
def ee (x : ah) : Int := x.f0 * 1361129467683753853853498429727072845824 + x.f1 * 36893488147419103232 + x.f2
theorem kp {x y : ah} (hx : wK x) (hy : wK y) : ∃ v, dB.f x.f0 x.f1 x.f2 y.f0 y.f1 y.f2 = some v ∧ (v < 0 ↔ ee x < ee y) ∧ (v = 0 ↔ ee x = ee y) := by
 obtain ⟨hx0, hx1, hx2⟩ := hx
 obtain ⟨hy0, hy1, hy2⟩ := hy
 have O : ∀ a b : Int, lF.f a b = some (if a < b then -1 else if a > b then 1 else 0) := fun a b => by
  unfold lF.f
  split
  ·rfl
  ·split <;> rfl
 unfold dB.f ee
 rw [O x.f0 y.f0, O x.f1 y.f1, O x.f2 y.f2]
 by_cases c0 : x.f0 < y.f0
 ·rw [if_pos c0]; exact ⟨-1, rfl, by omega, by omega⟩
 rw [if_neg c0]
 by_cases d0 : x.f0 > y.f0
 ·rw [if_pos d0]; exact ⟨1, rfl, by omega, by omega⟩
 rw [if_neg d0]
 by_cases c1 : x.f1 < y.f1
 ·rw [if_pos c1]; exact ⟨-1, rfl, by omega, by omega⟩
 rw [if_neg c1]
 by_cases d1 : x.f1 > y.f1
 ·rw [if_pos d1]; exact ⟨1, rfl, by omega, by omega⟩
 rw [if_neg d1]
 by_cases c2 : x.f2 < y.f2
 ·rw [if_pos c2]; exact ⟨-1, rfl, by omega, by omega⟩
 rw [if_neg c2]
 by_cases d2 : x.f2 > y.f2
 ·rw [if_pos d2]; exact ⟨1, rfl, by omega, by omega⟩
 rw [if_neg d2]
 exact ⟨0, rfl, by omega, by omega⟩
theorem WB {x y : ah} (hx : wK x) (hy : wK y) (h : ee x = ee y) : x = y := by
 obtain ⟨hx0, hx1, hx2⟩ := hx
 obtain ⟨hy0, hy1, hy2⟩ := hy
 unfold ee at h
 cases x; cases y
 simp only at *
 have e0 : ‹Int› = ‹Int› := rfl
 congr 1 <;> omega
theorem LE {α : Type} {x y : ah} {A B : Nat → Option α} {P : α → Prop} (hx : wK x) (hy : wK y) (hA : ee x < ee y → cF A P) (hB : ¬ ee x < ee y → cF B P) :
  cF (fun k => (dB.f x.f0 x.f1 x.f2 y.f0 y.f1 y.f2).bind fun t => (if t < 0 then (A k) else (B k))) P := by
 obtain ⟨v, e, h, -⟩ := kp hx hy
 refine cF.bc e ?_
 by_cases c : ee x < ee y
 ·exact cF.t (h.2 c) (hA c)
 ·exact cF.e (fun q => c (h.1 q)) (hB c)
def GR (D : List ah) (i j : Int) : List ah := (D.set i.toNat (aa D j)).set j.toNat (aa D i)
theorem Pb {α : Type} {D : List ah} {i j : Int} {R : Nat → List ah → Option α} {P : α → Prop} (hj : j < (D.length : Int)) (h : cF (fun k => R k (GR D i j)) P) :
  cF (fun k => (some (D.set i.toNat (⟨(aa D j).f0, (aa D j).f1, (aa D j).f2⟩ : ah))).bind fun s => (if j < (s.length : Int) then ((some (s.set j.toNat (⟨(aa D i).f0, (aa D i).f1, (aa D i).f2⟩ : ah))).bind fun t => (R k t)) else none)) P := by
 refine cF.bc rfl (cF.t ?_ (cF.bc rfl h))
 rw [List.length_set]; exact hj
theorem Yt (D : List ah) (i j : Int) : (GR D i j).length = D.length := by simp [GR]
theorem Lo {D : List ah} {i j : Int} (hi : 0 ≤ i ∧ i < (D.length : Int)) (hj : 0 ≤ j ∧ j < (D.length : Int)) (t : Int) (ht : 0 ≤ t) :
  aa (GR D i j) t = if t = j then aa D i else if t = i then aa D j else aa D t := by
 unfold GR
 generalize aa D i = x
 generalize aa D j = y
 unfold aa
 rw [List.getD_eq_getElem?_getD, List.getElem?_set, List.length_set, List.getElem?_set, List.getD_eq_getElem?_getD]
 by_cases e : t = j
 ·subst e
  rw [if_pos rfl, if_pos (by omega), if_pos rfl]; rfl
 ·rw [if_neg (by omega), if_neg e]
  by_cases e2 : t = i
  ·subst e2
   rw [if_pos rfl, if_pos (by omega), if_pos rfl]; rfl
  ·rw [if_neg (by omega), if_neg e2]
theorem HI {D : List ah} {i : Int} (hi : 0 ≤ i ∧ i < (D.length : Int)) : aa D i = D[i.toNat]'(by omega) := by
 unfold aa
 rw [List.getD_eq_getElem?_getD, List.getElem?_eq_getElem (by omega)]; rfl
theorem Wy {D : List ah} {i j : Int} (hi : 0 ≤ i ∧ i < (D.length : Int)) (hj : 0 ≤ j ∧ j < (D.length : Int)) : (GR D i j).Perm D := by
 unfold GR
 rw [HI hi, HI hj]
 exact List.set_set_perm _ _
structure i8 (a b : Int) (D D' : List ah) : Prop where
 len : D'.length = D.length
 pm : D'.Perm D
 out : ∀ t, 0 ≤ t → (t < a ∨ b ≤ t) → aa D' t = aa D t
 all : ∀ Q : ah → Prop, (∀ t, a ≤ t → t < b → Q (aa D t)) → ∀ t, a ≤ t → t < b → Q (aa D' t)
theorem i8.refl (a b : Int) (D : List ah) : i8 a b D D := ⟨rfl, List.Perm.refl _, fun _ _ _ => rfl, fun _ h => h⟩
theorem i8.trans {a b : Int} {D D' D'' : List ah} (h : i8 a b D D') (h' : i8 a b D' D'') : i8 a b D D'' :=
 ⟨h'.len.trans h.len, h'.pm.trans h.pm, fun t h0 ht => (h'.out t h0 ht).trans (h.out t h0 ht), fun Q hq => h'.all Q (h.all Q hq)⟩
theorem i8.wide {a b a' b' : Int} {D D' : List ah} (h : i8 a b D D') (h0 : 0 ≤ a') (ha : a' ≤ a) (hb : b ≤ b') : i8 a' b' D D' := by
 refine ⟨h.len, h.pm, fun t ht hq => h.out t ht (by omega), fun Q hq t h1 h2 => ?_⟩
 by_cases c : a ≤ t ∧ t < b
 ·exact h.all Q (fun u h3 h4 => hq u (by omega) (by omega)) t c.1 c.2
 ·rw [h.out t (by omega) (by omega)]; exact hq t h1 h2
theorem i8.sw {a b i j : Int} {D : List ah} (ha : 0 ≤ a) (hb : b ≤ (D.length : Int)) (hi : a ≤ i ∧ i < b) (hj : a ≤ j ∧ j < b) : i8 a b D (GR D i j) := by
 refine ⟨Yt D i j, Wy ⟨by omega, by omega⟩ ⟨by omega, by omega⟩, fun t h0 ht => ?_, fun Q hq t h1 h2 => ?_⟩
 ·rw [Lo ⟨by omega, by omega⟩ ⟨by omega, by omega⟩ t h0, if_neg (by omega), if_neg (by omega)]
 ·rw [Lo ⟨by omega, by omega⟩ ⟨by omega, by omega⟩ t (by omega)]
  by_cases e : t = j
  ·rw [if_pos e]; exact hq i hi.1 hi.2
  ·rw [if_neg e]
   by_cases e2 : t = i
   ·rw [if_pos e2]; exact hq j hj.1 hj.2
   ·rw [if_neg e2]; exact hq t h1 h2
def kyR (D : List ah) (t : Int) : Int := ee (aa D t)
theorem PT {D : List ah} {i j : Int} (hi : 0 ≤ i ∧ i < (D.length : Int)) (hj : 0 ≤ j ∧ j < (D.length : Int)) (t : Int) (ht : 0 ≤ t) :
  (t = j → kyR (GR D i j) t = kyR D i) ∧ (t ≠ j → t = i → kyR (GR D i j) t = kyR D j) ∧ (t ≠ j → t ≠ i → kyR (GR D i j) t = kyR D t) := by
 unfold kyR
 rw [Lo hi hj t ht]
 refine ⟨fun e => by rw [if_pos e], fun e e2 => by rw [if_neg e, if_pos e2], fun e e2 => by rw [if_neg e, if_neg e2]⟩
def o6 (a b : Int) (D : List ah) : Prop := ∀ x y, a ≤ x → x < y → y < b → kyR D x ≤ kyR D y
theorem i8.ky {a b : Int} {D D' : List ah} (h : i8 a b D D') {t : Int} (h0 : 0 ≤ t) (ht : t < a ∨ b ≤ t) : kyR D' t = K.kyR D t := congrArg ee (h.out t h0 ht)
theorem i8.w {a b : Int} {D D' : List ah} (h : i8 a b D D') (hw : ∀ x ∈ D, wK x) {t : Int} (h0 : 0 ≤ t) (h1 : t < (D'.length : Int)) : wK (aa D' t) := by
 rw [HI ⟨h0, h1⟩]
 exact hw _ (h.pm.subset (List.getElem_mem _))
theorem ZY (a b i : Int) (D0 : List ah) (ha : 0 ≤ a) (hi : a < i) (hib : i < b) (hb : b ≤ (D0.length : Int)) (hn : (D0.length : Int) ≤ 1099511627776) (hw : ∀ x ∈ D0, wK x) (P : List ah → Prop)
  (K : ∀ D, i8 a b D0 D → o6 a (i + 1) D → cF (fun k => aV.l0 k D a b (i + 1)) P) :
  ∀ (m : Nat) (D : List ah) (j : Int), j = a + m → j ≤ i → i8 a b D0 D → (∀ x y, a ≤ x → x < y → y ≤ i → x ≠ j → y ≠ j → kyR D x ≤ kyR D y) → (∀ y, j < y → y ≤ i → kyR D j ≤ kyR D y) →
  cF (fun k => aV.l1 k D a b i j) P := by
 intro m
 have ew : wrap64 (i + 1) = i + 1 := eC (by omega) (by omega)
 induction m with
 | zero =>
  intro D j hj hji R h1 h2
  refine cF.s (fun k => by rw [aV.l1]) ?_
  rw [ew]
  refine cF.e (by omega) (K D R fun x y hx hxy hy => ?_)
  by_cases e : x = j
  ·subst e; exact h2 y hxy (by omega)
  ·exact h1 x y hx hxy (by omega) e (by omega)
 | succ m ih =>
  intro D j hj hji R h1 h2
  have hl := R.len
  have ej : wrap64 (j - 1) = j - 1 := eC (by omega) (by omega)
  refine cF.s (fun k => by rw [aV.l1]) ?_
  rw [ew, ej]
  refine cF.t (by omega) (cF.t (by omega) (cF.t (by omega) (cF.t (by omega) (cF.t (by omega) (LE (R.w hw (by omega) (by omega)) (R.w hw (by omega) (by omega)) (fun c => ?_) (fun c => ?_))))))
  ·refine Pb (by omega) ?_
   have S := fun t h => PT (D := D) (i := j) (j := j - 1) ⟨by omega, by omega⟩ ⟨by omega, by omega⟩ t h
   have c' : kyR D j < kyR D (j - 1) := c
   refine ih (GR D j (j - 1)) (j - 1) (by omega) (by omega) (R.trans (i8.sw ha (by omega) ⟨by omega, by omega⟩ ⟨by omega, by omega⟩)) ?_ ?_
   ·intro x y hx hxy hy e1 e2
    by_cases q : x = j
    ·rw [(S x (by omega)).2.1 e1 q, (S y (by omega)).2.2 e2 (by omega)]
     exact h1 (j - 1) y (by omega) (by omega) hy (by omega) (by omega)
    ·rw [(S x (by omega)).2.2 e1 q]
     by_cases q2 : y = j
     ·rw [(S y (by omega)).2.1 e2 q2]
      exact h1 x (j - 1) hx (by omega) (by omega) q (by omega)
     ·rw [(S y (by omega)).2.2 e2 q2]
      exact h1 x y hx hxy hy q q2
   ·intro y h3 h4
    rw [(S (j - 1) (by omega)).1 rfl]
    by_cases q : y = j
    ·rw [(S y (by omega)).2.1 (by omega) q]; omega
    ·rw [(S y (by omega)).2.2 (by omega) q]; exact h2 y (by omega) h4
  ·have c' : ¬ kyR D j < kyR D (j - 1) := c
   refine K D R fun x y hx hxy hy => ?_
   by_cases e : x = j
   ·subst e; exact h2 y hxy (by omega)
   ·by_cases e2 : y = j
    ·subst e2
     by_cases e3 : x = y - 1
     ·subst e3; omega
     ·have := h1 x (y - 1) hx (by omega) (by omega) (by omega) (by omega)
      omega
    ·exact h1 x y hx hxy (by omega) e e2
theorem ZZ (a b : Int) (D0 : List ah) (ha : 0 ≤ a) (hb : b ≤ (D0.length : Int)) (hn : (D0.length : Int) ≤ 1099511627776) (hw : ∀ x ∈ D0, wK x) :
  ∀ (m : Nat) (D : List ah) (i : Int), i + m = (if a < b then b else a + 1) → a < i → i8 a b D0 D → o6 a i D →
  cF (fun k => aV.l0 k D a b i) (fun D' => i8 a b D0 D' ∧ o6 a b D') := by
 intro m
 induction m with
 | zero =>
  intro D i hi h0 R s
  refine cF.s (fun k => by rw [aV.l0]) (cF.e (by split at hi <;> omega) (cF.p ⟨R, ?_⟩))
  intro x y hx hxy hy
  exact s x y hx hxy (by split at hi <;> omega)
 | succ m ih =>
  intro D i hi h0 R s
  have hib : i < b := by split at hi <;> omega
  refine cF.s (fun k => by rw [aV.l0]) (cF.t hib ?_)
  refine ZY a b i D0 ha h0 hib hb hn hw _ (fun D1 R1 s1 => ih D1 (i + 1) (by omega) (by omega) R1 s1) (i - a).toNat D i (by omega) (by omega) R ?_ ?_
  ·intro x y hx hxy hy e1 e2
   exact s x y hx hxy (by omega)
  ·intro y h3 h4; omega
theorem PU (a b : Int) (D : List ah) (ha : 0 ≤ a) (hab : a ≤ b) (hb : b ≤ (D.length : Int)) (hn : (D.length : Int) ≤ 1099511627776) (hw : ∀ x ∈ D, wK x) :
  cF (fun k => aV.f k D a b) (fun D' => i8 a b D D' ∧ o6 a b D') := by
 have e : wrap64 (a + 1) = a + 1 := eC (by omega) (by omega)
 refine cF.u (fun k => by rw [aV.f, e]) ?_
 refine ZZ a b D ha hb hn hw ((if a < b then b else a + 1) - (a + 1)).toNat D (a + 1) ?_ (by omega) (i8.refl a b D) (fun x y _ _ _ => by omega)
 split <;> omega
theorem ada (a b n : Int) (D0 : List ah) (ha : 0 ≤ a) (hab : a + n ≤ b) (hb : b + n ≤ (D0.length : Int)) (hn : (D0.length : Int) ≤ 1099511627776) :
  ∀ (m : Nat) (D : List ah) (i : Int), i + m = n → 0 ≤ i → i8 a (b + n) D0 D →
  (∀ t, 0 ≤ t → (t < a ∨ (a + i ≤ t ∧ t < b) ∨ b + i ≤ t) → aa D t = aa D0 t) → (∀ x, 0 ≤ x → x < i → aa D (a + x) = aa D0 (b + x) ∧ aa D (b + x) = aa D0 (a + x)) →
  cF (fun k => bJ.l0 k D a b n i) (fun D' => i8 a (b + n) D0 D' ∧ (∀ t, 0 ≤ t → (t < a ∨ (a + n ≤ t ∧ t < b) ∨ b + n ≤ t) → aa D' t = aa D0 t) ∧ (∀ x, 0 ≤ x → x < n → aa D' (a + x) = aa D0 (b + x) ∧ aa D' (b + x) = aa D0 (a + x))) := by
 intro m
 induction m with
 | zero =>
  intro D i hi h0 R h1 h2
  obtain rfl : i = n := by omega
  exact cF.s (fun k => by rw [bJ.l0]) (cF.e (by omega) (cF.p ⟨R, h1, h2⟩))
 | succ m ih =>
  intro D i hi h0 R h1 h2
  have hl := R.len
  have e1 : wrap64 (b + i) = b + i := eC (by omega) (by omega)
  have e2 : wrap64 (a + i) = a + i := eC (by omega) (by omega)
  have e3 : wrap64 (i + 1) = i + 1 := eC (by omega) (by omega)
  refine cF.s (fun k => by rw [bJ.l0]) ?_
  rw [e1, e2, e3]
  refine cF.t (by omega) (cF.t (by omega) (cF.t (by omega) (cF.t (by omega) (cF.t (by omega) (Pb (by omega) ?_)))))
  have S := fun t ht => Lo (D := D) (i := a + i) (j := b + i) ⟨by omega, by omega⟩ ⟨by omega, by omega⟩ t ht
  refine ih _ (i + 1) (by omega) (by omega) (R.trans (i8.sw ha (by omega) ⟨by omega, by omega⟩ ⟨by omega, by omega⟩)) ?_ ?_
  ·intro t ht hc
   rw [S t ht, if_neg (by omega), if_neg (by omega)]
   exact h1 t ht (by omega)
  ·intro x hx hxi
   by_cases e : x = i
   ·subst e
    refine ⟨?_, ?_⟩
    ·rw [S (a + x) (by omega), if_neg (by omega), if_pos rfl]
     exact h1 (b + x) (by omega) (by omega)
    ·rw [S (b + x) (by omega), if_pos rfl]
     exact h1 (a + x) (by omega) (by omega)
   ·have := h2 x hx (by omega)
    refine ⟨?_, ?_⟩
    ·rw [S (a + x) (by omega), if_neg (by omega), if_neg (by omega)]; exact this.1
    ·rw [S (b + x) (by omega), if_neg (by omega), if_neg (by omega)]; exact this.2
theorem SP (a b n : Int) (D : List ah) (ha : 0 ≤ a) (Z1 : 0 ≤ n) (hab : a + n ≤ b) (hb : b + n ≤ (D.length : Int)) (hn : (D.length : Int) ≤ 1099511627776) :
  cF (fun k => bJ.f k D a b n) (fun D' => i8 a (b + n) D D' ∧ (∀ t, 0 ≤ t → (t < a ∨ (a + n ≤ t ∧ t < b) ∨ b + n ≤ t) → aa D' t = aa D t) ∧ (∀ x, 0 ≤ x → x < n → aa D' (a + x) = aa D (b + x) ∧ aa D' (b + x) = aa D (a + x))) := by
 refine cF.u (fun _ => rfl) ?_
 exact ada a b n D ha hab hb hn n.toNat D 0 (by omega) (by omega) (i8.refl _ _ _) (fun _ _ _ => rfl) (fun x h1 h2 => by omega)
def Rot (m i j : Int) (D D' : List ah) : Prop := i8 (m - i) (m + j) D D' ∧ (∀ t, m - i ≤ t → t < m - i + j → aa D' t = aa D (t + i)) ∧ (∀ t, m - i + j ≤ t → t < m + j → aa D' t = aa D (t - j))
theorem Zz (m : Int) (hm : 0 ≤ m) : ∀ (s : Nat) (D : List ah) (i j : Int), i + j ≤ s → 1 ≤ i → 1 ≤ j → 0 ≤ m - i → m + j ≤ (D.length : Int) → (D.length : Int) ≤ 1099511627776 →
  cF (fun k => cm.l0 k D m i j) (Rot m i j D) := by
 intro s
 induction s with
 | zero => intro D i j h1 h2 h3; omega
 | succ s ih =>
  intro D i j hs hi hj hmi hmj hn
  have e1 : wrap64 (m - i) = m - i := eC (by omega) (by omega)
  have e2 : wrap64 (m + j) = m + j := eC (by omega) (by omega)
  have e3 : wrap64 (m + j - i) = m + j - i := eC (by omega) (by omega)
  have e4 : wrap64 (i - j) = i - j := eC (by omega) (by omega)
  have e5 : wrap64 (j - i) = j - i := eC (by omega) (by omega)
  refine cF.s (fun k => by rw [cm.l0]) ?_
  rw [e1, e2, e3, e4, e5]
  refine cF.i (fun c => ?_) (fun c => cF.i (fun c2 => ?_) (fun c2 => ?_))
  ·subst c
   refine cF.b (SP (m - i) m i D hmi (by omega) (by omega) (by omega) hn) ?_
   rintro D1 ⟨R1, o1, x1⟩
   refine cF.p ⟨R1, fun t h1 h2 => ?_, fun t h1 h2 => ?_⟩
   ·have := (x1 (t - (m - i)) (by omega) (by omega)).1
    rw [show m - i + (t - (m - i)) = t by omega, show m + (t - (m - i)) = t + i by omega] at this
    exact this
   ·have := (x1 (t - m) (by omega) (by omega)).2
    rw [show m + (t - m) = t by omega, show m - i + (t - m) = t - i by omega] at this
    exact this
  ·refine cF.b (SP (m - i) m j D hmi (by omega) (by omega) (by omega) hn) ?_
   rintro D1 ⟨R1, o1, x1⟩
   have hl := R1.len
   refine cF.m (ih D1 (i - j) j (by omega) (by omega) (by omega) (by omega) (by omega) (by omega)) ?_
   rintro D2 ⟨R2, a2, b2⟩
   refine ⟨R1.trans (R2.wide hmi (by omega) (Int.le_refl _)), fun t h1 h2 => ?_, fun t h1 h2 => ?_⟩
   ·rw [R2.out t (by omega) (.inl (by omega))]
    have := (x1 (t - (m - i)) (by omega) (by omega)).1
    rw [show m - i + (t - (m - i)) = t by omega, show m + (t - (m - i)) = t + i by omega] at this
    exact this
   ·by_cases q : t < m - (i - j) + j
    ·rw [a2 t (by omega) q]
     have := (x1 (t + (i - j) - m) (by omega) (by omega)).2
     rw [show m + (t + (i - j) - m) = t + (i - j) by omega, show m - i + (t + (i - j) - m) = t - j by omega] at this
     exact this
    ·rw [b2 t (by omega) h2]
     exact o1 (t - j) (by omega) (.inr (.inl ⟨by omega, by omega⟩))
  ·refine cF.b (SP (m - i) (m + j - i) i D hmi (by omega) (by omega) (by omega) hn) ?_
   rintro D1 ⟨R1, o1, x1⟩
   have hl := R1.len
   refine cF.m (ih D1 i (j - i) (by omega) (by omega) (by omega) (by omega) (by omega) (by omega)) ?_
   rintro D2 ⟨R2, a2, b2⟩
   rw [show m + j - i + i = m + j by omega] at R1
   refine ⟨R1.trans (R2.wide hmi (Int.le_refl _) (by omega)), fun t h1 h2 => ?_, fun t h1 h2 => ?_⟩
   ·by_cases q : t < m - i + (j - i)
    ·rw [a2 t h1 q]
     exact o1 (t + i) (by omega) (.inr (.inl ⟨by omega, by omega⟩))
    ·rw [b2 t (by omega) (by omega)]
     have := (x1 (t - (j - i) - (m - i)) (by omega) (by omega)).1
     rw [show m - i + (t - (j - i) - (m - i)) = t - (j - i) by omega, show m + j - i + (t - (j - i) - (m - i)) = t + i by omega] at this
     exact this
   ·rw [R2.out t (by omega) (.inr (by omega))]
    have := (x1 (t - (m + j - i)) (by omega) (by omega)).2
    rw [show m + j - i + (t - (m + j - i)) = t by omega, show m - i + (t - (m + j - i)) = t - j by omega] at this
    exact this
theorem ZA (a m b : Int) (D : List ah) (ha : 0 ≤ a) (h1 : a < m) (h2 : m < b) (hb : b ≤ (D.length : Int)) (hn : (D.length : Int) ≤ 1099511627776) :
  cF (fun k => cm.f k D a m b) (Rot m (m - a) (b - m) D) := by
 have e1 : wrap64 (m - a) = m - a := eC (by omega) (by omega)
 have e2 : wrap64 (b - m) = b - m := eC (by omega) (by omega)
 refine cF.u (fun k => by rw [cm.f, e1, e2]) ?_
 exact Zz m (by omega) (b - a).toNat D (m - a) (b - m) (by omega) (by omega) (by omega) (by omega) (by omega) hn
def CU (a b : Int) (D D' : List ah) : Prop := i8 a b D D' ∧ o6 a b D'
theorem SW (i j : Int) (h0 : 0 ≤ i + j) (h1 : i + j ≤ 4611686018427387904) : IntKind.i64.wrap (eo (IntKind.u64.wrap (wrap64 (i + j))) 1) = (i + j) / 2 := by
 rw [eC (by omega) (by omega), afg h0 (by omega)]
 have e : eo (i + j) 1 = (i + j) / 2 := by
  show Int.fdiv (i + j) 2 = _
  rw [Int.fdiv_eq_ediv_of_nonneg _ (by omega)]
 rw [e]
 simp [IntKind.wrap, IntKind.bits, IntKind.signed]; omega
theorem ade (a b e : Int) (D0 : List ah) (ha : 0 ≤ a) (heb : e ≤ b) (hb : b ≤ (D0.length : Int)) (hn : (D0.length : Int) ≤ 1099511627776) :
  ∀ (n : Nat) (D : List ah) (t : Int), t + n = e - 1 → a ≤ t → i8 a b D0 D → (∀ x y, a ≤ x → x < y → y < b → x ≠ t → y ≠ t → kyR D x ≤ kyR D y) → (∀ x, a ≤ x → x < t → kyR D x ≤ kyR D t) → (∀ x, t < x → x < e → kyR D x ≤ kyR D t) → (∀ x, e ≤ x → x < b → kyR D t ≤ kyR D x) →
  cF (fun k => ak.l1 k D e t) (CU a b D0) := by
 intro n
 induction n with
 | zero =>
  intro D t ht hat R j1 j2 j3 j4
  have e1 : wrap64 (e - 1) = e - 1 := eC (by omega) (by omega)
  refine cF.s (fun k => by rw [ak.l1]) ?_
  rw [e1]
  refine cF.e (by omega) (cF.p ⟨R, fun x y hx hxy hy => ?_⟩)
  by_cases q : y = t
  ·subst q; exact j2 x hx hxy
  ·by_cases q2 : x = t
   ·subst q2; exact j4 y (by omega) hy
   ·exact j1 x y hx hxy hy q2 q
 | succ n ih =>
  intro D t ht hat R j1 j2 j3 j4
  have hl := R.len
  have e1 : wrap64 (e - 1) = e - 1 := eC (by omega) (by omega)
  have e2 : wrap64 (t + 1) = t + 1 := eC (by omega) (by omega)
  refine cF.s (fun k => by rw [ak.l1]) ?_
  rw [e1, e2]
  refine cF.t (by omega) (cF.t (by omega) (cF.t (by omega) (cF.t (by omega) (cF.t (by omega) (Pb (by omega) ?_)))))
  have S := fun x h => PT (D := D) (i := t) (j := t + 1) ⟨by omega, by omega⟩ ⟨by omega, by omega⟩ x h
  refine ih _ (t + 1) (by omega) (by omega) (R.trans (i8.sw ha (by omega) ⟨by omega, by omega⟩ ⟨by omega, by omega⟩)) ?_ ?_ ?_ ?_
  ·intro x y hx hxy hy q1 q2
   by_cases q : x = t
   ·rw [(S x (by omega)).2.1 q1 q, (S y (by omega)).2.2 q2 (by omega)]
    exact j1 (t + 1) y (by omega) (by omega) hy (by omega) (by omega)
   ·rw [(S x (by omega)).2.2 q1 q]
    by_cases q3 : y = t
    ·rw [(S y (by omega)).2.1 q2 q3]
     exact j1 x (t + 1) hx (by omega) (by omega) q (by omega)
    ·rw [(S y (by omega)).2.2 q2 q3]
     exact j1 x y hx hxy hy q q3
  ·intro x hx hxt
   rw [(S (t + 1) (by omega)).1 rfl]
   by_cases q : x = t
   ·rw [(S x (by omega)).2.1 (by omega) q]; exact j3 (t + 1) (by omega) (by omega)
   ·rw [(S x (by omega)).2.2 (by omega) q]; exact j2 x hx (by omega)
  ·intro x hx hxe
   rw [(S (t + 1) (by omega)).1 rfl, (S x (by omega)).2.2 (by omega) (by omega)]
   exact j3 x (by omega) hxe
  ·intro x hx hxb
   rw [(S (t + 1) (by omega)).1 rfl, (S x (by omega)).2.2 (by omega) (by omega)]
   exact j4 x hx hxb
theorem adf (a b : Int) (D : List ah) (ha : 0 ≤ a) (hab : a + 1 ≤ b) (hb : b ≤ (D.length : Int)) (hn : (D.length : Int) ≤ 1099511627776) (hw : ∀ x ∈ D, wK x) (s : o6 (a + 1) b D) :
  ∀ (n : Nat) (i j : Int), j - i ≤ n → a + 1 ≤ i → i ≤ j → j ≤ b → (∀ x, a + 1 ≤ x → x < i → kyR D x < kyR D a) → (∀ x, j ≤ x → x < b → ¬ kyR D x < kyR D a) →
  cF (fun k => ak.l0 k D a i j) (CU a b D) := by
 have sB : ∀ i : Int, a + 1 ≤ i → i ≤ b → (∀ x, a + 1 ≤ x → x < i → kyR D x < kyR D a) → (∀ x, i ≤ x → x < b → ¬ kyR D x < kyR D a) → cF (fun k => ak.l1 k D i a) (CU a b D) := by
  intro i h1 h2 h3 h4
  refine ade a b i D ha h2 hb hn (i - 1 - a).toNat D a (by omega) (Int.le_refl _) (i8.refl _ _ _) (fun x y hx hxy hy q1 q2 => s x y (by omega) hxy hy) (fun x h5 h6 => by omega) (fun x h5 h6 => ?_) (fun x h5 h6 => ?_)
  ·have := h3 x (by omega) h6; omega
  ·have := h4 x h5 h6; omega
 intro n
 induction n with
 | zero =>
  intro i j hij hi hle hj h3 h4
  obtain rfl : i = j := by omega
  exact cF.s (fun k => by rw [ak.l0]) (cF.e (by omega) (sB i hi hj h3 h4))
 | succ n ih =>
  intro i j hij hi hle hj h3 h4
  refine cF.s (fun k => by rw [ak.l0]) ?_
  rw [SW i j (by omega) (by omega)]
  refine cF.i (fun c => ?_) (fun c => ?_)
  ·have e1 : wrap64 ((i + j) / 2 + 1) = (i + j) / 2 + 1 := eC (by omega) (by omega)
   rw [e1]
   refine cF.t (by omega) (cF.t (by omega) (cF.t (by omega) (cF.t (by omega) (LE ((i8.refl 0 0 D).w hw (by omega) (by omega)) ((i8.refl 0 0 D).w hw (by omega) (by omega)) (fun c2 => ?_) (fun c2 => ?_)))))
   ·have c2' : kyR D ((i + j) / 2) < kyR D a := c2
    refine ih ((i + j) / 2 + 1) j (by omega) (by omega) (by omega) hj (fun x h5 h6 => ?_) h4
    by_cases q : x = (i + j) / 2
    ·rw [q]; exact c2'
    ·have := s x ((i + j) / 2) h5 (by omega) (by omega)
     omega
   ·have c2' : ¬ kyR D ((i + j) / 2) < kyR D a := c2
    refine ih i ((i + j) / 2) (by omega) hi (by omega) (by omega) h3 (fun x h5 h6 => ?_)
    by_cases q : x = (i + j) / 2
    ·rw [q]; exact c2'
    ·have := s ((i + j) / 2) x (by omega) (by omega) h6
     omega
  ·obtain rfl : i = j := by omega
   exact sB i hi hj h3 h4
theorem adb (a b e : Int) (D0 : List ah) (ha : 0 ≤ a) (hae : a ≤ e) (hb : b ≤ (D0.length : Int)) (hn : (D0.length : Int) ≤ 1099511627776) :
  ∀ (n : Nat) (D : List ah) (t : Int), t = e + n → t < b → i8 a b D0 D → (∀ x y, a ≤ x → x < y → y < b → x ≠ t → y ≠ t → kyR D x ≤ kyR D y) → (∀ x, t < x → x < b → kyR D t ≤ kyR D x) → (∀ x, e ≤ x → x < t → kyR D t ≤ kyR D x) → (∀ x, a ≤ x → x < e → kyR D x ≤ kyR D t) →
  cF (fun k => ak.l3 k D e t) (CU a b D0) := by
 intro n
 induction n with
 | zero =>
  intro D t ht htb R j1 j2 j3 j4
  refine cF.s (fun k => by rw [ak.l3]) (cF.e (by omega) (cF.p ⟨R, fun x y hx hxy hy => ?_⟩))
  by_cases q : x = t
  ·subst q; exact j2 y hxy hy
  ·by_cases q2 : y = t
   ·subst q2; exact j4 x hx (by omega)
   ·exact j1 x y hx hxy hy q q2
 | succ n ih =>
  intro D t ht htb R j1 j2 j3 j4
  have hl := R.len
  have e2 : wrap64 (t - 1) = t - 1 := eC (by omega) (by omega)
  refine cF.s (fun k => by rw [ak.l3]) ?_
  rw [e2]
  refine cF.t (by omega) (cF.t (by omega) (cF.t (by omega) (cF.t (by omega) (cF.t (by omega) (Pb (by omega) ?_)))))
  have S := fun x h => PT (D := D) (i := t) (j := t - 1) ⟨by omega, by omega⟩ ⟨by omega, by omega⟩ x h
  refine ih _ (t - 1) (by omega) (by omega) (R.trans (i8.sw ha (by omega) ⟨by omega, by omega⟩ ⟨by omega, by omega⟩)) ?_ ?_ ?_ ?_
  ·intro x y hx hxy hy q1 q2
   by_cases q : x = t
   ·rw [(S x (by omega)).2.1 q1 q, (S y (by omega)).2.2 q2 (by omega)]
    exact j1 (t - 1) y (by omega) (by omega) hy (by omega) (by omega)
   ·rw [(S x (by omega)).2.2 q1 q]
    by_cases q3 : y = t
    ·rw [(S y (by omega)).2.1 q2 q3]
     exact j1 x (t - 1) hx (by omega) (by omega) q (by omega)
    ·rw [(S y (by omega)).2.2 q2 q3]
     exact j1 x y hx hxy hy q q3
  ·intro x hx hxb
   rw [(S (t - 1) (by omega)).1 rfl]
   by_cases q : x = t
   ·rw [(S x (by omega)).2.1 (by omega) q]; exact j3 (t - 1) (by omega) (by omega)
   ·rw [(S x (by omega)).2.2 (by omega) q]; exact j2 x (by omega) hxb
  ·intro x hx hxe
   rw [(S (t - 1) (by omega)).1 rfl, (S x (by omega)).2.2 (by omega) (by omega)]
   exact j3 x hx (by omega)
  ·intro x hx hxb
   rw [(S (t - 1) (by omega)).1 rfl, (S x (by omega)).2.2 (by omega) (by omega)]
   exact j4 x hx hxb
theorem adc (a m : Int) (D : List ah) (ha : 0 ≤ a) (ham : a ≤ m) (hb : m + 1 ≤ (D.length : Int)) (hn : (D.length : Int) ≤ 1099511627776) (hw : ∀ x ∈ D, wK x) (s : o6 a m D) :
  ∀ (n : Nat) (i j : Int), j - i ≤ n → a ≤ i → i ≤ j → j ≤ m → (∀ x, a ≤ x → x < i → ¬ kyR D m < kyR D x) → (∀ x, j ≤ x → x < m → kyR D m < kyR D x) →
  cF (fun k => ak.l2 k D m i j) (CU a (m + 1) D) := by
 have sB : ∀ i : Int, a ≤ i → i ≤ m → (∀ x, a ≤ x → x < i → ¬ kyR D m < kyR D x) → (∀ x, i ≤ x → x < m → kyR D m < kyR D x) → cF (fun k => ak.l3 k D i m) (CU a (m + 1) D) := by
  intro i h1 h2 h3 h4
  refine adb a (m + 1) i D ha h1 hb hn (m - i).toNat D m (by omega) (by omega) (i8.refl _ _ _) (fun x y hx hxy hy q1 q2 => s x y hx hxy (by omega)) (fun x h5 h6 => by omega) (fun x h5 h6 => ?_) (fun x h5 h6 => ?_)
  ·have := h4 x h5 h6; omega
  ·have := h3 x h5 h6; omega
 intro n
 induction n with
 | zero =>
  intro i j hij hi hle hj h3 h4
  obtain rfl : i = j := by omega
  exact cF.s (fun k => by rw [ak.l2]) (cF.e (by omega) (sB i hi hj h3 h4))
 | succ n ih =>
  intro i j hij hi hle hj h3 h4
  refine cF.s (fun k => by rw [ak.l2]) ?_
  rw [SW i j (by omega) (by omega)]
  refine cF.i (fun c => ?_) (fun c => ?_)
  ·have e1 : wrap64 ((i + j) / 2 + 1) = (i + j) / 2 + 1 := eC (by omega) (by omega)
   rw [e1]
   refine cF.t (by omega) (cF.t (by omega) (cF.t (by omega) (cF.t (by omega) (LE ((i8.refl 0 0 D).w hw (by omega) (by omega)) ((i8.refl 0 0 D).w hw (by omega) (by omega)) (fun c2 => ?_) (fun c2 => ?_)))))
   ·have c2' : kyR D m < kyR D ((i + j) / 2) := c2
    refine ih i ((i + j) / 2) (by omega) hi (by omega) (by omega) h3 (fun x h5 h6 => ?_)
    by_cases q : x = (i + j) / 2
    ·rw [q]; exact c2'
    ·have := s ((i + j) / 2) x (by omega) (by omega) h6
     omega
   ·have c2' : ¬ kyR D m < kyR D ((i + j) / 2) := c2
    refine ih ((i + j) / 2 + 1) j (by omega) (by omega) (by omega) hj (fun x h5 h6 => ?_) h4
    by_cases q : x = (i + j) / 2
    ·rw [q]; exact c2'
    ·have := s x ((i + j) / 2) h5 (by omega) (by omega)
     omega
  ·obtain rfl : i = j := by omega
   exact sB i hi hj h3 h4
def X9 (N : Int) : Prop := ∀ (D : List ah) (a m b : Int), 0 ≤ a → a < m → m < b → b ≤ (D.length : Int) → (D.length : Int) ≤ 1099511627776 → b - a < N → (∀ x ∈ D, wK x) → o6 a m D → o6 m b D →
 cF (fun k => ak.f k D a m b) (CU a b D)
theorem i8.wk {a b : Int} {D D' : List ah} (h : i8 a b D D') (hw : ∀ x ∈ D, wK x) : ∀ x ∈ D', wK x := fun x hx => hw x (h.pm.subset hx)
theorem adg {N : Int} (ih : X9 N) (a b mid st en : Int) (D : List ah) (ha : 0 ≤ a) (h1 : a ≤ st) (h2 : st ≤ mid) (h3 : mid ≤ en) (h4 : en ≤ b) (ham : a < mid) (hmb : mid < b) (hb : b ≤ (D.length : Int)) (hn : (D.length : Int) ≤ 1099511627776) (hN : b - a ≤ N) (hw : ∀ x ∈ D, wK x)
  (f : ∀ x y, a ≤ x → x < mid → mid ≤ y → y < b → kyR D x ≤ kyR D y) (s1 : o6 a st D) (s2 : o6 st mid D) (s3 : o6 mid en D) (s4 : o6 en b D) :
  cF (fun k => ak.j1 k D a b mid st en) (CU a b D) := by
 have J2 : ∀ D1, i8 a mid D D1 → o6 a mid D1 → cF (fun k => ak.j2 k D1 b mid en) (CU a b D) := by
  intro D1 R1 t1
  have hl := R1.len
  have k1 : ∀ x, mid ≤ x → kyR D1 x = kyR D x := fun x hx => R1.ky (by omega) (.inr hx)
  have g3 : o6 mid en D1 := fun x y h5 h6 h7 => by rw [k1 x h5, k1 y (by omega)]; exact s3 x y h5 h6 h7
  have g4 : o6 en b D1 := fun x y h5 h6 h7 => by rw [k1 x (by omega), k1 y (by omega)]; exact s4 x y h5 h6 h7
  have L : ∀ D2, i8 mid b D1 D2 → o6 mid b D2 → CU a b D D2 := by
   intro D2 R2 t2
   have k2 : ∀ x, 0 ≤ x → x < mid → kyR D2 x = kyR D1 x := fun x h0 hx => R2.ky h0 (.inl hx)
   refine ⟨(R1.wide ha (Int.le_refl _) (by omega)).trans (R2.wide ha (by omega) (Int.le_refl _)), fun x y hx hxy hy => ?_⟩
   by_cases c : y < mid
   ·rw [k2 x (by omega) (by omega), k2 y (by omega) c]; exact t1 x y hx hxy c
   ·by_cases c2 : mid ≤ x
    ·exact t2 x y c2 hxy hy
    ·refine R2.all (fun g => kyR D2 x ≤ ee g) (fun u h5 h6 => ?_) y (by omega) hy
     have e : ee (aa D1 u) = kyR D u := k1 u h5
     rw [k2 x (by omega) (by omega), e]
     exact R1.all (fun g => ee g ≤ kyR D u) (fun v h7 h8 => f v u h7 h8 h5 h6) x hx (by omega)
  refine cF.s (fun k => by rw [ak.j2]) ?_
  refine cF.i (fun c => cF.i (fun c2 => ?_) (fun c2 => cF.p (L D1 (i8.refl _ _ _) ?_))) (fun c => cF.p (L D1 (i8.refl _ _ _) ?_))
  ·exact cF.b (ih D1 mid en b (by omega) c c2 (by omega) (by omega) (by omega) (R1.wk hw) g3 g4) (fun D2 ⟨R2, t2⟩ => cF.p (L D2 R2 t2))
  ·obtain rfl : en = b := by omega
   exact g3
  ·obtain rfl : mid = en := by omega
   exact g4
 refine cF.s (fun k => by rw [ak.j1]) ?_
 refine cF.i (fun c => cF.i (fun c2 => ?_) (fun c2 => J2 D (i8.refl _ _ _) ?_)) (fun c => J2 D (i8.refl _ _ _) ?_)
 ·exact cF.b (ih D a st mid ha c c2 (by omega) hn (by omega) hw s1 s2) (fun D1 ⟨R1, t1⟩ => J2 D1 R1 t1)
 ·obtain rfl : st = mid := by omega
  exact s1
 ·obtain rfl : a = st := by omega
  exact s2
theorem Pr {N : Int} (ih : X9 N) (a m b mid st en : Int) (D D1 : List ah) (ha : 0 ≤ a) (h1 : a ≤ st) (h2 : st ≤ m) (h3 : m ≤ en) (h4 : en ≤ b) (hse : st + en = mid + m) (hsm : st ≤ mid) (ham : a < mid) (hmb : mid < b) (hb : b ≤ (D.length : Int)) (hn : (D.length : Int) ≤ 1099511627776) (hN : b - a ≤ N) (hw : ∀ x ∈ D, wK x)
  (s1 : o6 a m D) (s2 : o6 m b D) (c1 : st = a ∨ en = b ∨ kyR D (st - 1) ≤ kyR D en) (c2 : st = m ∨ en = m ∨ kyR D (en - 1) ≤ kyR D st)
  (R : i8 a b D D1) (o : ∀ t, 0 ≤ t → (t < st ∨ en ≤ t) → aa D1 t = aa D t) (x1 : ∀ t, st ≤ t → t < mid → aa D1 t = aa D (t + (m - st))) (x2 : ∀ t, mid ≤ t → t < en → aa D1 t = aa D (t - (en - m))) :
  cF (fun k => ak.j1 k D1 a b mid st en) (CU a b D) := by
 have hl := R.len
 have le1 : ∀ x y, a ≤ x → x ≤ y → y < m → kyR D x ≤ kyR D y := fun x y h5 h6 h7 => by
  by_cases q : x = y
  ·rw [q]; exact Int.le_refl _
  ·exact s1 x y h5 (by omega) h7
 have le2 : ∀ x y, m ≤ x → x ≤ y → y < b → kyR D x ≤ kyR D y := fun x y h5 h6 h7 => by
  by_cases q : x = y
  ·rw [q]; exact Int.le_refl _
  ·exact s2 x y h5 (by omega) h7
 have K0 : ∀ t, 0 ≤ t → (t < st ∨ en ≤ t) → kyR D1 t = kyR D t := fun t h5 h6 => congrArg ee (o t h5 h6)
 have K1 : ∀ t, st ≤ t → t < mid → kyR D1 t = kyR D (t + (m - st)) := fun t h5 h6 => congrArg ee (x1 t h5 h6)
 have K2 : ∀ t, mid ≤ t → t < en → kyR D1 t = kyR D (t - (en - m)) := fun t h5 h6 => congrArg ee (x2 t h5 h6)
 refine cF.m (adg ih a b mid st en D1 ha h1 hsm (by omega) h4 ham hmb (by omega) (by omega) hN (R.wk hw) ?_ ?_ ?_ ?_ ?_) (fun D2 ⟨R2, t2⟩ => ⟨R.trans R2, t2⟩)
 ·intro x y hx hxm hy hyb
  by_cases p : x < st
  ·rw [K0 x (by omega) (.inl p)]
   by_cases q : y < en
   ·rw [K2 y hy q]; exact le1 _ _ hx (by omega) (by omega)
   ·rw [K0 y (by omega) (.inr (by omega))]
    have a1 := le1 x (st - 1) hx (by omega) (by omega)
    have a2 := le2 en y (by omega) (by omega) hyb
    rcases c1 with c | c | c <;> omega
  ·rw [K1 x (by omega) hxm]
   by_cases q : y < en
   ·rw [K2 y hy q]
    have a1 := le2 (x + (m - st)) (en - 1) (by omega) (by omega) (by omega)
    have a2 := le1 st (y - (en - m)) (by omega) (by omega) (by omega)
    rcases c2 with c | c | c <;> omega
   ·rw [K0 y (by omega) (.inr (by omega))]
    exact le2 _ _ (by omega) (by omega) hyb
 ·intro x y hx hxy hy
  rw [K0 x (by omega) (.inl (by omega)), K0 y (by omega) (.inl hy)]
  exact le1 x y hx (by omega) (by omega)
 ·intro x y hx hxy hy
  rw [K1 x hx (by omega), K1 y (by omega) hy]
  exact le2 _ _ (by omega) (by omega) (by omega)
 ·intro x y hx hxy hy
  rw [K2 x hx (by omega), K2 y (by omega) hy]
  exact le1 _ _ (by omega) (by omega) (by omega)
 ·intro x y hx hxy hy
  rw [K0 x (by omega) (.inr hx), K0 y (by omega) (.inr (by omega))]
  exact le2 x y (by omega) (by omega) hy
theorem Xy {N : Int} (ih : X9 N) (a m b mid lo hi : Int) (D : List ah) (ha : 0 ≤ a) (h1 : a ≤ lo) (h2 : hi ≤ m) (h3 : m ≤ mid + m - hi) (h4 : mid + m - lo ≤ b) (hl : lo = a ∨ mid + m - lo = b) (hh : hi = m ∨ hi = mid) (him : hi ≤ mid) (ham : a < m) (hmb : m < b) (ham2 : a < mid) (hmb2 : mid < b) (hb : b ≤ (D.length : Int)) (hn : (D.length : Int) ≤ 1099511627776) (hN : b - a ≤ N) (hw : ∀ x ∈ D, wK x)
  (s1 : o6 a m D) (s2 : o6 m b D) :
  ∀ (n : Nat) (i j : Int), j - i ≤ n → lo ≤ i → i ≤ j → j ≤ hi → (∀ x, lo ≤ x → x < i → kyR D x ≤ kyR D (mid + m - 1 - x)) → (∀ x, j ≤ x → x < hi → kyR D (mid + m - 1 - x) < kyR D x) →
  cF (fun k => ak.l4 k D a m b mid (mid + m) i j (mid + m - 1)) (CU a b D) := by
 have sB : ∀ i : Int, lo ≤ i → i ≤ hi → (∀ x, lo ≤ x → x < i → kyR D x ≤ kyR D (mid + m - 1 - x)) → (∀ x, i ≤ x → x < hi → kyR D (mid + m - 1 - x) < kyR D x) →
   cF (fun k => if i < m then (if m < mid + m - i then ((cm.f k D i m (mid + m - i)).bind fun Lf => (ak.j1 k Lf a b mid i (mid + m - i))) else (ak.j1 k D a b mid i (mid + m - i))) else (ak.j1 k D a b mid i (mid + m - i))) (CU a b D) := by
  intro i h5 h6 h7 h8
  have c1 : i = a ∨ mid + m - i = b ∨ kyR D (i - 1) ≤ kyR D (mid + m - i) := by
   by_cases q : i = lo
   ·rcases hl with hl | hl
    ·exact .inl (by omega)
    ·exact .inr (.inl (by omega))
   ·have := h7 (i - 1) (by omega) (by omega)
    rw [show mid + m - 1 - (i - 1) = mid + m - i by omega] at this
    exact .inr (.inr this)
  have c2 : i = m ∨ mid + m - i = m ∨ kyR D (mid + m - i - 1) ≤ kyR D i := by
   by_cases q : i = hi
   ·rcases hh with hh | hh
    ·exact .inl (by omega)
    ·exact .inr (.inl (by omega))
   ·have := h8 i (Int.le_refl _) (by omega)
    rw [show mid + m - 1 - i = mid + m - i - 1 by omega] at this
    exact .inr (.inr (by omega))
  refine cF.i (fun q => cF.i (fun q2 => ?_) (fun q2 => ?_)) (fun q => ?_)
  ·refine cF.b (ZA i m (mid + m - i) D (by omega) q q2 (by omega) hn) ?_
   rintro D1 ⟨R, x1, x2⟩
   rw [show m - (m - i) = i by omega, show m + (mid + m - i - m) = mid + m - i by omega] at R
   refine Pr ih a m b mid i (mid + m - i) D D1 ha (by omega) (by omega) (by omega) (by omega) (by omega) (by omega) ham2 hmb2 hb hn hN hw s1 s2 c1 c2 (R.wide ha (by omega) (by omega)) (fun t h9 h10 => R.out t h9 h10) (fun t h9 h10 => x1 t (by omega) (by omega)) (fun t h9 h10 => ?_)
   exact x2 t (by omega) (by omega)
  ·refine Pr ih a m b mid i (mid + m - i) D D ha (by omega) (by omega) (by omega) (by omega) (by omega) (by omega) ham2 hmb2 hb hn hN hw s1 s2 c1 c2 (i8.refl _ _ _) (fun t h9 h10 => rfl) (fun t h9 h10 => by omega) (fun t h9 h10 => ?_)
   rw [show t - (mid + m - i - m) = t by omega]
  ·refine Pr ih a m b mid i (mid + m - i) D D ha (by omega) (by omega) (by omega) (by omega) (by omega) (by omega) ham2 hmb2 hb hn hN hw s1 s2 c1 c2 (i8.refl _ _ _) (fun t h9 h10 => rfl) (fun t h9 h10 => ?_) (fun t h9 h10 => by omega)
   rw [show t + (m - i) = t by omega]
 intro n
 induction n with
 | zero =>
  intro i j hij hi0 hle hj h7 h8
  obtain rfl : i = j := by omega
  have e1 : wrap64 (mid + m - i) = mid + m - i := eC (by omega) (by omega)
  refine cF.s (fun k => by rw [ak.l4]) ?_
  rw [e1]
  exact cF.e (by omega) (sB i hi0 hj h7 h8)
 | succ n ihn =>
  intro i j hij hi0 hle hj h7 h8
  have e0 : wrap64 (mid + m - i) = mid + m - i := eC (by omega) (by omega)
  refine cF.s (fun k => by rw [ak.l4]) ?_
  rw [SW i j (by omega) (by omega), e0]
  refine cF.i (fun c => ?_) (fun c => ?_)
  ·have e1 : wrap64 ((i + j) / 2 + 1) = (i + j) / 2 + 1 := eC (by omega) (by omega)
   have e2 : wrap64 (mid + m - 1 - (i + j) / 2) = mid + m - 1 - (i + j) / 2 := eC (by omega) (by omega)
   rw [e1, e2]
   refine cF.t (by omega) (cF.t (by omega) (cF.t (by omega) (cF.t (by omega) (LE ((i8.refl 0 0 D).w hw (by omega) (by omega)) ((i8.refl 0 0 D).w hw (by omega) (by omega)) (fun c2 => ?_) (fun c2 => ?_)))))
   ·have c2' : kyR D (mid + m - 1 - (i + j) / 2) < kyR D ((i + j) / 2) := c2
    refine ihn i ((i + j) / 2) (by omega) hi0 (by omega) (by omega) h7 (fun x h5 h6 => ?_)
    by_cases q : x = (i + j) / 2
    ·rw [q]; exact c2'
    ·have g1 := s1 ((i + j) / 2) x (by omega) (by omega) (by omega)
     have g2 := s2 (mid + m - 1 - x) (mid + m - 1 - (i + j) / 2) (by omega) (by omega) (by omega)
     omega
   ·have c2' : ¬ kyR D (mid + m - 1 - (i + j) / 2) < kyR D ((i + j) / 2) := c2
    refine ihn ((i + j) / 2 + 1) j (by omega) (by omega) (by omega) hj (fun x h5 h6 => ?_) h8
    by_cases q : x = (i + j) / 2
    ·rw [q]; omega
    ·have g1 := s1 x ((i + j) / 2) (by omega) (by omega) (by omega)
     have g2 := s2 (mid + m - 1 - (i + j) / 2) (mid + m - 1 - x) (by omega) (by omega) (by omega)
     omega
  ·obtain rfl : i = j := by omega
   exact sB i hi0 hj h7 h8
theorem Zy : ∀ N : Nat, X9 N := by
 intro N
 induction N with
 | zero => intro D a m b h0 h1 h2 h3 h4 h5; omega
 | succ N ih =>
  intro D a m b ha ham hmb hb hn hN hw s1 s2
  have e1 : wrap64 (m - a) = m - a := eC (by omega) (by omega)
  have e2 : wrap64 (b - m) = b - m := eC (by omega) (by omega)
  have e3 : wrap64 ((a + b) / 2 + m) = (a + b) / 2 + m := eC (by omega) (by omega)
  have e4 : wrap64 ((a + b) / 2 + m - b) = (a + b) / 2 + m - b := eC (by omega) (by omega)
  have e5 : wrap64 ((a + b) / 2 + m - 1) = (a + b) / 2 + m - 1 := eC (by omega) (by omega)
  refine cF.s (fun k => by rw [ak.f]) ?_
  rw [SW a b (by omega) (by omega), e1, e2, e3, e4]
  refine cF.i (fun c => ?_) (fun c => cF.i (fun c2 => ?_) (fun c2 => cF.i (fun c3 => ?_) (fun c3 => ?_)))
  ·obtain rfl : m = a + 1 := by omega
   exact adf a b D ha (by omega) hb hn hw s2 (b - (a + 1)).toNat (a + 1) b (by omega) (by omega) (by omega) (by omega) (fun x h5 h6 => by omega) (fun x h5 h6 => by omega)
  ·obtain rfl : b = m + 1 := by omega
   exact adc a m D ha (by omega) hb hn hw s1 (m - a).toNat a m (by omega) (by omega) (by omega) (by omega) (fun x h5 h6 => by omega) (fun x h5 h6 => by omega)
  ·refine cF.s (fun k => by rw [ak.j0]) ?_
   rw [e5]
   exact Xy ih a m b ((a + b) / 2) ((a + b) / 2 + m - b) ((a + b) / 2) D ha (by omega) (by omega) (by omega) (by omega) (by omega) (by omega) (by omega) ham hmb (by omega) (by omega) hb hn (by omega) hw s1 s2 b.toNat _ _ (by omega) (by omega) (by omega) (by omega) (fun x h5 h6 => by omega) (fun x h5 h6 => by omega)
  ·refine cF.s (fun k => by rw [ak.j0]) ?_
   rw [e5]
   exact Xy ih a m b ((a + b) / 2) a m D ha (by omega) (by omega) (by omega) (by omega) (by omega) (by omega) (by omega) ham hmb (by omega) (by omega) hb hn (by omega) hw s1 s2 b.toNat _ _ (by omega) (by omega) (by omega) (by omega) (fun x h5 h6 => by omega) (fun x h5 h6 => by omega)
def JN (a b : ah) : Prop := ee a ≤ ee b
theorem ac8 (D : List ah) (hn : (D.length : Int) ≤ 39) (hw : ∀ x ∈ D, wK x) : cF (fun k => eg.f k D) (CU 0 D.length D) := by
 refine cF.u (fun _ => rfl) (cF.b (P := CU 0 D.length D) ?_ (fun D1 h => cF.p h))
 have w1 : wrap64 (20 + 20) = 40 := eC (by omega) (by omega)
 have w2 : wrap64 (2 * 20) = 40 := eC (by omega) (by omega)
 have w3 : wrap64 (0 + 20) = 20 := eC (by omega) (by omega)
 have w4 : wrap64 (20 * 2) = 40 := eC (by omega) (by omega)
 refine cF.u (fun k => by rw [aX.f]) ?_
 refine cF.s (fun k => by rw [aX.l0]) ?_
 rw [w1]
 refine cF.i (fun c => ?_) (fun c => ?_)
 ·refine cF.b (PU 0 20 D (by omega) (by omega) c (by omega) hw) ?_
  rintro D1 ⟨R1, s1⟩
  have h1 := R1.len
  refine cF.s (fun k => by rw [aX.l0]) (cF.e (by omega) ?_)
  refine cF.b (PU 20 D.length D1 (by omega) c (by omega) (by omega) (R1.wk hw)) ?_
  rintro D2 ⟨R2, s2⟩
  have h2 := R2.len
  have s3 : o6 0 20 D2 := fun x y h5 h6 h7 => by
   rw [R2.ky (t := x) h5 (.inl (by omega)), R2.ky (t := y) (by omega) (.inl h7)]
   exact s1 x y h5 h6 h7
  have R3 : i8 0 D.length D D2 := (R1.wide (by omega) (by omega) c).trans (R2.wide (by omega) (by omega) (Int.le_refl _))
  refine cF.s (fun k => by rw [aX.l1]) ?_
  rw [w2]
  refine cF.i (fun c2 => ?_) (fun c2 => cF.p ⟨R3, ?_⟩)
  ·refine cF.s (fun k => by rw [aX.l2]) ?_
   rw [w3, w4]
   refine cF.e (by omega) (cF.t c2 ?_)
   refine cF.b (Zy 40 D2 0 20 D.length (by omega) (by omega) c2 (by omega) (by omega) (by omega) (R3.wk hw) s3 s2) ?_
   rintro D3 ⟨R4, s4⟩
   refine cF.s (fun k => by rw [aX.l1]) (cF.e (by omega) (cF.p ⟨R3.trans R4, s4⟩))
  ·rw [show (D.length : Int) = 20 by omega]; exact s3
 ·refine cF.b (PU 0 D.length D (by omega) (by omega) (by omega) (by omega) hw) ?_
  rintro D1 ⟨R1, s1⟩
  exact cF.s (fun k => by rw [aX.l1]) (cF.e (by omega) (cF.p ⟨R1, s1⟩))
theorem Yv {D : List ah} (s : o6 0 D.length D) : D.Pairwise JN := by
 rw [List.pairwise_iff_getElem]
 intro i j hi hj hij
 have h1 := s i j (by omega) (by omega) (by omega)
 unfold kyR at h1
 rw [HI ⟨by omega, by omega⟩, HI ⟨by omega, by omega⟩] at h1
 exact h1
theorem T9 : ∀ {a b : List ah}, a.Pairwise JN → b.Pairwise JN → a.Perm b → (∀ x ∈ a, wK x) → a = b
 | [], b, _, _, h, _ => (List.nil_perm.1 h).symm
 | x :: a, [], _, _, h, _ => by simp at h
 | x :: a, y :: b, ha, hb, h, hw => by
  obtain ⟨a1, a2⟩ := List.pairwise_cons.1 ha
  obtain ⟨b1, b2⟩ := List.pairwise_cons.1 hb
  have hx : x ∈ y :: b := h.subset (List.mem_cons_self ..)
  have hy : y ∈ x :: a := h.symm.subset (List.mem_cons_self ..)
  have k1 : ee y ≤ ee x := by
   rcases List.mem_cons.1 hx with q | q
   ·rw [q]; exact Int.le_refl _
   ·exact b1 x q
  have k2 : ee x ≤ ee y := by
   rcases List.mem_cons.1 hy with q | q
   ·rw [q]; exact Int.le_refl _
   ·exact a1 y q
  have e : x = y := WB (hw x (List.mem_cons_self ..)) (hw y hy) (by omega)
  subst e
  rw [T9 a2 b2 (List.Perm.cons_inv h) (fun z hz => hw z (List.mem_cons_of_mem _ hz))]
def uF (x : ah) : List ah → List ah
 | [] => [x]
 | y :: l => if ee x < ee y then x :: y :: l else y :: uF x l
def vY (l : List ah) : List ah := l.foldl (fun a x => uF x a) []
theorem zQ (x : ah) : ∀ l, (uF x l).Perm (x :: l)
 | [] => List.Perm.refl _
 | y :: l => by
  rw [uF]
  split
  ·exact List.Perm.refl _
  ·exact ((zQ x l).cons y).trans (List.Perm.swap x y l)
theorem Kn (x : ah) : ∀ l : List ah, l.Pairwise JN → (uF x l).Pairwise JN
 | [], _ => by simp [uF]
 | y :: l, h => by
  obtain ⟨h1, h2⟩ := List.pairwise_cons.1 h
  rw [uF]
  split
  ·rename_i c
   refine List.pairwise_cons.2 ⟨fun z hz => ?_, h⟩
   rcases List.mem_cons.1 hz with q | q
   ·rw [q]; show ee x ≤ ee y; omega
   ·have : ee y ≤ ee z := h1 z q
    show ee x ≤ ee z; omega
  ·rename_i c
   refine List.pairwise_cons.2 ⟨fun z hz => ?_, Kn x l h2⟩
   rcases List.mem_cons.1 ((zQ x l).subset hz) with q | q
   ·rw [q]; show ee y ≤ ee x; omega
   ·exact h1 z q
theorem Rp : ∀ (l a : List ah), a.Pairwise JN → (l.foldl (fun a x => uF x a) a).Pairwise JN ∧ (l.foldl (fun a x => uF x a) a).Perm (a ++ l)
 | [], a, h => ⟨h, by simp⟩
 | x :: l, a, h => by
  obtain ⟨h1, h2⟩ := Rp l (uF x a) (Kn x a h)
  refine ⟨h1, h2.trans ?_⟩
  exact ((zQ x a).append_right l).trans List.perm_middle.symm
theorem IF (l : List ah) : (vY l).Pairwise JN ∧ (vY l).Perm l := by
 have := Rp l [] List.Pairwise.nil
 exact ⟨this.1, this.2⟩
theorem OE (D : List ah) (hn : (D.length : Int) ≤ 39) (hw : ∀ x ∈ D, wK x) : Ev (fun k => eg.f k D) (vY D) := by
 obtain ⟨D1, e, R, s⟩ := ac8 D hn hw
 obtain ⟨h1, h2⟩ := IF D
 have el : D1 = vY D := T9 (Yv (by rw [R.len]; exact s)) h1 (R.pm.trans h2.symm) (R.wk hw)
 rw [el] at e
 exact e
theorem Bl {x y : ah} (hx : wK x) (hy : wK y) : Nz x y > 0 ↔ ee y < ee x := by
 obtain ⟨hx0, hx1, hx2⟩ := hx
 obtain ⟨hy0, hy1, hy2⟩ := hy
 unfold Nz ee
 constructor
 ·intro h
  repeat' split at h
  all_goals omega
 ·intro h
  repeat' split
  all_goals omega
theorem Nc (x : ah) : ∀ P Q : List ah, (∀ y ∈ P, ee y ≤ ee x) → (∀ y ∈ Q, ee x < ee y) → uF x (P ++ Q) = P ++ x :: Q
 | [], [], _, _ => rfl
 | [], y :: Q, _, h => by
  show (if ee x < ee y then x :: y :: Q else y :: uF x Q) = _
  rw [if_pos (h y (List.mem_cons_self ..))]; rfl
 | y :: P, Q, h1, h2 => by
  show (if ee x < ee y then x :: y :: (P ++ Q) else y :: uF x (P ++ Q)) = _
  have := h1 y (List.mem_cons_self ..)
  rw [if_neg (by omega), Nc x P Q (fun z hz => h1 z (List.mem_cons_of_mem _ hz)) h2]; rfl
theorem Cl (l : List ah) (i : Nat) (x : ah) (hi : i < l.length) (hx : aa l (i : Int) = x) (hl : l.length ≤ 1099511627776) (r : List ah) (P Q : List ah) (hp : P.length + Q.length ≤ 1099511627776)
  (h : Ev (fun k => cW.l0 k (P ++ x :: Q) ((i + 1 : Nat) : Int) l) r) : Ev (fun k => cW.j0 k (P ++ Q) (i : Int) (P.length : Int) l) r := by
 refine Ev.s (fun k => by rw [cW.j0]) ?_
 rw [hx, Int.toNat_natCast, List.take_left, List.drop_left, iu hi (by omega)]
 refine Ev.t (by omega) (Ev.t (by omega) (Ev.t (by omega) (Ev.t (by simp; omega) (Ev.t (by simp; omega) (Ev.t (by omega) (Ev.t (by simp; omega) ?_))))))
 exact h
theorem Ck (l : List ah) (i : Nat) (x : ah) (hi : i < l.length) (hx : aa l (i : Int) = x) (hl : l.length ≤ 1099511627776) (wx : wK x) (r : List ah) : ∀ rp q : List ah, rp.length + q.length ≤ 1099511627776 → (rp.reverse ++ q).Pairwise JN → (∀ y ∈ rp, wK y) → (∀ y ∈ q, ee x < ee y) →
  Ev (fun k => cW.l0 k (uF x (rp.reverse ++ q)) ((i + 1 : Nat) : Int) l) r → Ev (fun k => cW.l1 k (rp.reverse ++ q) (i : Int) (rp.length : Int) l) r
 | [], q, hp, hs, hw, hq, h => by
  refine Ev.s (fun k => by rw [cW.l1]) (Ev.e (by simp) ?_)
  rw [Nc x [].reverse q (by simp) hq] at h
  exact Cl l i x hi hx hl r [] q (by simpa using hp) h
 | y :: rp, q, hp, hs, hw, hq, h => by
  rw [List.length_cons] at hp
  have e1 : wrap64 (((y :: rp).length : Int) - 1) = (rp.length : Int) := by rw [List.length_cons, eC (by omega) (by omega)]; omega
  have el : (y :: rp).reverse ++ q = rp.reverse ++ y :: q := by simp
  have er : aa (rp.reverse ++ y :: q) (rp.length : Int) = y := by simp [aa]
  have wy := hw y (List.mem_cons_self ..)
  refine Ev.s (fun k => by rw [cW.l1]) (Ev.t (by rw [List.length_cons]; omega) ?_)
  rw [e1, el, er, hx]
  refine Ev.t (by omega) (Ev.t (by simp; omega) (Ev.t (by omega) (Ev.t (by omega) (Ev.b (jm y x) ?_))))
  rw [el] at hs h
  by_cases c : ee x < ee y
  ·refine Ev.t ((Bl wy wx).2 c) ?_
   exact Ck l i x hi hx hl wx r rp (y :: q) (by rw [List.length_cons]; omega) hs (fun z hz => hw z (List.mem_cons_of_mem _ hz)) (fun z hz => by
    rcases List.mem_cons.1 hz with e | e
    ·rw [e]; exact c
    ·exact hq z e) h
  ·refine Ev.e (fun q => c ((Bl wy wx).1 q)) ?_
   have h2 := List.pairwise_append.1 hs
   have hle : ∀ z ∈ (y :: rp).reverse, ee z ≤ ee x := fun z hz => by
    rw [List.reverse_cons] at hz
    rcases List.mem_append.1 hz with e | e
    ·have : ee z ≤ ee y := h2.2.2 z e y (List.mem_cons_self ..)
     omega
    ·rw [List.mem_singleton.1 e]; omega
   rw [← el, Nc x _ q hle hq] at h
   have := Cl l i x hi hx hl r (y :: rp).reverse q (by simp; omega) h
   rw [el, List.length_reverse] at this
   exact this
theorem Ke (l : List ah) (hl : l.length ≤ 1099511627776) (hw : ∀ x ∈ l, wK x) : ∀ (s : List ah) (i : Nat) (a : List ah), l.drop i = s → i ≤ l.length → a.length = i → a.Pairwise JN → (∀ x ∈ a, wK x) → Ev (fun k => cW.l0 k a (i : Int) l) (s.foldl (fun a x => uF x a) a) := by
 intro s
 induction s with
 | nil =>
  intro i a hd hil ha hs hwa
  have := dQ hd
  refine Ev.s (fun k => by rw [cW.l0]) ?_
  exact Ev.e (by omega) (Ev.p.r rfl)
 | cons x t ih =>
  intro i a hd hil ha hs hwa
  obtain ⟨hi, hd', hx, -⟩ := cV hd
  have wx : wK x := hw x (by
   have : x ∈ l.drop i := by rw [hd]; exact List.mem_cons_self ..
   exact List.mem_of_mem_drop this)
  refine Ev.s (fun k => by rw [cW.l0]) (Ev.t (by omega) ?_)
  have hlen : (uF x a).length = i + 1 := by rw [(zQ x a).length_eq, List.length_cons, ha]
  have h := ih (i + 1) (uF x a) hd' (by omega) hlen (Kn x a hs) (fun z hz => by
   rcases List.mem_cons.1 ((zQ x a).subset hz) with e | e
   ·rw [e]; exact wx
   ·exact hwa z e)
  have := Ck l i x hi (by rw [rO]; exact hx _) hl wx _ a.reverse [] (by rw [List.length_reverse, ha]; simp; omega) (by simpa using hs) (fun z hz => hwa z (List.mem_reverse.1 hz)) (by simp) (by simpa using h)
  simpa using this
theorem Cm (l : List ah) (hl : l.length ≤ 1099511627776) (hw : ∀ x ∈ l, wK x) : Ev (fun k => cW.f k l) (vY l) :=
 Ev.u (fun _ => rfl) (Ke l hl hw l 0 [] rfl (by omega) rfl List.Pairwise.nil (by simp))
theorem CD (l : List ah) (hl : l.length ≤ 39) (hw : ∀ x ∈ l, wK x) : Ev (fun k => lQ.f k l) (vY l) :=
 Ev.u (fun _ => rfl) (Ev.b (Ev.c (nO l (by omega))) (Ev.b (OE l (by omega) hw) Ev.p))
theorem JA (l m : List ah) (hl : l.length ≤ 1152921504606846975) (hm : l.length = m.length) : ∀ (s t : List ah) (i : Nat), l.drop i = s → m.drop i = t → Ev (fun k => eN.l0 k l m (i : Int)) (iy s t) := by
 intro s
 induction s with
 | nil =>
  intro t i hd he
  have := dQ hd
  have ht : t = [] := by rw [← he]; exact List.drop_eq_nil_iff.2 (by omega)
  subst ht
  exact Ev.s (fun k => by rw [eN.l0]) (Ev.e (by omega) (Ev.p.r (by rfl)))
 | cons x s ih =>
  intro t i hd he
  obtain ⟨hi, hd', hx, -⟩ := cV hd
  cases t with
  | nil => have := dQ he; omega
  | cons y t =>
   obtain ⟨hj, he', hy, -⟩ := cV he
   refine Ev.s (fun k => by rw [eN.l0]) (Ev.t (by omega) (Ev.t (by omega) (Ev.t (by omega) ?_)))
   rw [rO, rO, hx, hy]
   refine Ev.i (fun h => ?_) (fun h => ?_)
   ·rw [iu hi (by omega)]
    exact (ih t (i + 1) hd' he').r (by have h' : AW x y = true := h; simp [iy, h'])
   ·exact Ev.p.r (by have h' : ¬ AW x y = true := h; simp [iy, h'])
def UD (a b : List ah) : Bool := iy (vY a) (vY b)
theorem F5 (l : List ah) : (vY l).length = l.length := (IF l).2.length_eq
theorem Az (a b : List ah) (ha : a.length ≤ 1099511627776) (hb : b.length ≤ 1099511627776) (wa : ∀ x ∈ a, wK x) (wb : ∀ x ∈ b, wK x) : Ev (fun k => eN.f k a b) (UD a b) := by
 have h1 := F5 a
 have h2 := F5 b
 refine Ev.u (fun _ => rfl) (Ev.b (Cm a ha wa) (Ev.b (Cm b hb wb) ?_))
 refine Ev.i (fun h => ?_) (fun h => Ev.p.r (Dj (by omega)).symm)
 exact JA (vY a) (vY b) (by omega) (by omega) (vY a) (vY b) 0 rfl rfl
theorem AD (a b : List ah) (hb : b.length ≤ 39) (wa : ∀ x ∈ a, wK x) (wb : ∀ x ∈ b, wK x) : Ev (fun k => jj.f k a b) (UD a b) := by
 have h1 := F5 a
 have h2 := F5 b
 refine Ev.u (fun _ => rfl) (Ev.i (fun h => ?_) (fun h => Ev.p.r (Dj (by omega)).symm))
 exact Ev.b (CD a (by omega) wa) (Ev.b (CD b hb wb) (Ev.b (lP (vY a) (vY b) (by omega)) Ev.p))
def HG : List ah → Bool
 | [] => true
 | [_] => true
 | x :: y :: l => !decide (ee y < ee x) && HG (y :: l)
theorem Ku (l : List ah) (hl : l.length ≤ 1099511627776) (hw : ∀ x ∈ l, wK x) : ∀ (s : List ah) (x : ah) (i : Nat), l.drop i = x :: s → Ev (fun k => fU.l0 k ((i + 1 : Nat) : Int) l) (HG (x :: s)) := by
 intro s
 induction s with
 | nil =>
  intro x i hd
  obtain ⟨hi, hd', hx, hlen⟩ := cV hd
  have := dQ hd'
  refine Ev.s (fun k => by rw [fU.l0]) ?_
  exact Ev.e (by omega) (Ev.p.r rfl)
 | cons y s ih =>
  intro x i hd
  obtain ⟨hi, hd', hx, hlen⟩ := cV hd
  obtain ⟨hi2, -, hy, -⟩ := cV hd'
  have e1 : wrap64 (((i + 1 : Nat) : Int) - 1) = (i : Int) := by rw [eC (by omega) (by omega)]; omega
  have wx : wK x := hw x (List.mem_of_mem_drop (i := i) (by rw [hd]; exact List.mem_cons_self ..))
  have wy : wK y := hw y (List.mem_of_mem_drop (i := i + 1) (by rw [hd']; exact List.mem_cons_self ..))
  refine Ev.s (fun k => by rw [fU.l0]) (Ev.t (by omega) (Ev.t (by omega) ?_))
  rw [e1, rO, rO, hx, hy, iu hi2 (by omega)]
  obtain ⟨v, e, h, -⟩ := kp wy wx
  refine Ev.t (by omega) (Ev.t (by omega) (Ev.b (Ev.c e) (Ev.i (fun c => ?_) (fun c => ?_))))
  ·refine Ev.p.r ?_
   have := h.1 c
   simp [HG, this]
  ·refine (ih y (i + 1) hd').r ?_
   have : ¬ ee y < ee x := fun q => c (h.2 q)
   simp [HG, this]
theorem Kh (l : List ah) (hl : l.length ≤ 1099511627776) (hw : ∀ x ∈ l, wK x) : ∀ (s : List ah) (x : ah) (i : Nat), l.drop i = x :: s → Ev (fun k => fQ.l0 k ((i + 1 : Nat) : Int) l) (HG (x :: s)) := by
 intro s
 induction s with
 | nil =>
  intro x i hd
  obtain ⟨hi, hd', hx, hlen⟩ := cV hd
  have := dQ hd'
  refine Ev.s (fun k => by rw [fQ.l0]) ?_
  exact Ev.e (by omega) (Ev.p.r rfl)
 | cons y s ih =>
  intro x i hd
  obtain ⟨hi, hd', hx, hlen⟩ := cV hd
  obtain ⟨hi2, -, hy, -⟩ := cV hd'
  have e1 : wrap64 (((i + 1 : Nat) : Int) - 1) = (i : Int) := by rw [eC (by omega) (by omega)]; omega
  have wx : wK x := hw x (List.mem_of_mem_drop (i := i) (by rw [hd]; exact List.mem_cons_self ..))
  have wy : wK y := hw y (List.mem_of_mem_drop (i := i + 1) (by rw [hd']; exact List.mem_cons_self ..))
  refine Ev.s (fun k => by rw [fQ.l0]) (Ev.t (by omega) ?_)
  rw [e1, rO, rO, hx, hy, iu hi2 (by omega)]
  refine Ev.t (by omega) (Ev.t (by omega) (Ev.t (by omega) (Ev.b (jm x y) (Ev.i (fun c => ?_) (fun c => ?_)))))
  ·refine Ev.p.r ?_
   have := (Bl wx wy).1 c
   simp [HG, this]
  ·refine (ih y (i + 1) hd').r ?_
   have : ¬ ee y < ee x := fun q => c ((Bl wx wy).2 q)
   simp [HG, this]
theorem CF (l : List ah) (hl : l.length ≤ 1099511627776) (hw : ∀ x ∈ l, wK x) : Ev (fun k => fU.f k l) (HG l) := by
 refine Ev.u (fun k => by rw [fU.f]) ?_
 cases l with
 | nil =>
  refine Ev.s (fun k => by rw [fU.l0]) ?_
  exact Ev.e (by simp) (Ev.p.r rfl)
 | cons x s => exact Ku (x :: s) hl hw s x 0 rfl
theorem Co (l : List ah) (hl : l.length ≤ 1099511627776) (hw : ∀ x ∈ l, wK x) : Ev (fun k => fQ.f k l) (HG l) := by
 refine Ev.u (fun k => by rw [fQ.f]) ?_
 cases l with
 | nil =>
  refine Ev.s (fun k => by rw [fQ.l0]) ?_
  exact Ev.e (by simp) (Ev.p.r rfl)
 | cons x s => exact Kh (x :: s) hl hw s x 0 rfl
def ke : List aT → List ah
 | [] => []
 | r :: l => r.f0 ++ ke l
theorem uS (l : List aT) (i : Nat) : aC l (i : Int) = l.getD i n5 := rfl
theorem Hc (l : List aT) (hl : l.length ≤ 1099511627776) : ∀ (s : List aT) (i : Nat) (a : List ah), l.drop i = s → a.length + (ke s).length ≤ 1099511627776 → Ev (fun k => fx.l0 k a (l.length : Int) (i : Int) l) (a ++ ke s) := by
 intro s
 induction s with
 | nil =>
  intro i a hd ha
  have := dQ hd
  refine Ev.s (fun k => by rw [fx.l0]) ?_
  exact Ev.e (by omega) (Ev.p.r (by simp [ke]))
 | cons x s ih =>
  intro i a hd ha
  obtain ⟨hi, hd', hx, -⟩ := cV hd
  rw [ke, List.length_append] at ha
  refine Ev.s (fun k => by rw [fx.l0]) (Ev.t (by omega) (Ev.t (by omega) (Ev.t (by omega) ?_)))
  rw [uS, hx, iu hi (by omega)]
  refine Ev.t (by omega) ?_
  exact (ih (i + 1) (a ++ x.f0) hd' (by rw [List.length_append]; omega)).r (by simp [ke])
theorem G8 (l : List aT) (hl : l.length ≤ 1099511627776) : ∀ (s : List aT) (i : Nat) (a : List ah), l.drop i = s → a.length + (ke s).length ≤ 1099511627776 → Ev (fun k => ey.l0 k a (i : Int) l) (a ++ ke s) := by
 intro s
 induction s with
 | nil =>
  intro i a hd ha
  have := dQ hd
  refine Ev.s (fun k => by rw [ey.l0]) ?_
  exact Ev.e (by omega) (Ev.p.r (by simp [ke]))
 | cons x s ih =>
  intro i a hd ha
  obtain ⟨hi, hd', hx, -⟩ := cV hd
  rw [ke, List.length_append] at ha
  refine Ev.s (fun k => by rw [ey.l0]) (Ev.t (by omega) (Ev.t (by omega) ?_))
  rw [uS, hx, iu hi (by omega)]
  refine Ev.t (by omega) ?_
  exact (ih (i + 1) (a ++ x.f0) hd' (by rw [List.length_append]; omega)).r (by simp [ke])
theorem He (l : List aT) (hl : l.length ≤ 1099511627776) (h : (ke l).length ≤ 1099511627776) : Ev (fun k => fx.f k l) (ke l) :=
 Ev.u (fun k => by rw [fx.f]; rfl) (Hc l hl l 0 [] rfl (by simpa using h))
theorem G9 (l : List aT) (hl : l.length ≤ 1099511627776) (h : (ke l).length ≤ 1099511627776) : Ev (fun k => ey.f k l) (ke l) :=
 Ev.u (fun k => by rw [ey.f]; rfl) (G8 l hl l 0 [] rfl (by simpa using h))
def uh (r : aT) : Bool := !decide ((r.f0.length : Int) = 0) && HG r.f0 && hH r.f0
theorem Gh (l : List aT) (hl : l.length ≤ 1099511627776) (hr : ∀ r ∈ l, r.f0.length ≤ 1099511627776 ∧ ∀ x ∈ r.f0, wK x) : ∀ (s : List aT) (i : Nat), l.drop i = s → Ev (fun k => ff.l0 k (l.length : Int) (i : Int) l) (s.all uh) := by
 intro s
 induction s with
 | nil =>
  intro i hd
  have := dQ hd
  refine Ev.s (fun k => by rw [ff.l0]) ?_
  exact Ev.e (by omega) (Ev.p.r (by simp))
 | cons x s ih =>
  intro i hd
  obtain ⟨hi, hd', hx, -⟩ := cV hd
  obtain ⟨h1, h2⟩ := hr x (List.mem_of_mem_drop (i := i) (by rw [hd]; exact List.mem_cons_self ..))
  refine Ev.s (fun k => by rw [ff.l0]) (Ev.t (by omega) (Ev.t (by omega) (Ev.t (by omega) ?_)))
  rw [uS, hx, iu hi (by omega)]
  refine Ev.i (fun c => Ev.p.r (by simp [uh, c])) (fun c => ?_)
  refine Ev.b (CF x.f0 h1 h2) (Ev.i (fun c2 => ?_) (fun c2 => Ev.p.r (by simp [uh, c2])))
  refine Ev.b (ox x.f0 (by omega)) (Ev.i (fun c3 => ?_) (fun c3 => Ev.p.r (by simp [uh, c3])))
  refine (ih (i + 1) hd').r ?_
  have e : uh x = true := by unfold uh; rw [c2, c3, decide_eq_false c]; rfl
  rw [List.all_cons, e, Bool.true_and]
theorem F6 (l : List aT) (hl : l.length ≤ 1099511627776) (hr : ∀ r ∈ l, r.f0.length ≤ 1099511627776 ∧ ∀ x ∈ r.f0, wK x) : ∀ (s : List aT) (i : Nat), l.drop i = s → Ev (fun k => fd.l0 k (i : Int) l) (s.all uh) := by
 intro s
 induction s with
 | nil =>
  intro i hd
  have := dQ hd
  refine Ev.s (fun k => by rw [fd.l0]) ?_
  exact Ev.e (by omega) (Ev.p.r (by simp))
 | cons x s ih =>
  intro i hd
  obtain ⟨hi, hd', hx, -⟩ := cV hd
  obtain ⟨h1, h2⟩ := hr x (List.mem_of_mem_drop (i := i) (by rw [hd]; exact List.mem_cons_self ..))
  refine Ev.s (fun k => by rw [fd.l0]) (Ev.t (by omega) (Ev.t (by omega) ?_))
  rw [uS, hx, iu hi (by omega)]
  refine Ev.i (fun c => Ev.p.r (by simp [uh, c])) (fun c => ?_)
  refine Ev.b (Co x.f0 h1 h2) (Ev.i (fun c2 => ?_) (fun c2 => Ev.p.r (by simp [uh, c2])))
  refine Ev.b (lB x.f0 (by omega)) (Ev.i (fun c3 => ?_) (fun c3 => Ev.p.r (by simp [uh, c3])))
  refine (ih (i + 1) hd').r ?_
  have e : uh x = true := by unfold uh; rw [c2, c3, decide_eq_false c]; rfl
  rw [List.all_cons, e, Bool.true_and]
theorem Gi (l : List aT) (hl : l.length ≤ 1099511627776) (hr : ∀ r ∈ l, r.f0.length ≤ 1099511627776 ∧ ∀ x ∈ r.f0, wK x) : Ev (fun k => ff.f k l) (l.all uh) :=
 Ev.u (fun k => by rw [ff.f]; rfl) (Gh l hl hr l 0 rfl)
theorem F7 (l : List aT) (hl : l.length ≤ 1099511627776) (hr : ∀ r ∈ l, r.f0.length ≤ 1099511627776 ∧ ∀ x ∈ r.f0, wK x) : Ev (fun k => fd.f k l) (l.all uh) :=
 Ev.u (fun k => by rw [fd.f]; rfl) (F6 l hl hr l 0 rfl)
theorem Ko (l : List (List ah)) (hl : l.length ≤ 1099511627776) : ∀ (s : List (List ah)) (i : Nat) (a : List ah), l.drop i = s → a.length + s.flatten.length ≤ 1099511627776 → Ev (fun k => fT.l0 k a (l.length : Int) (i : Int) l) (a ++ s.flatten) := by
 intro s
 induction s with
 | nil =>
  intro i a hd ha
  have := dQ hd
  refine Ev.s (fun k => by rw [fT.l0]) ?_
  exact Ev.e (by omega) (Ev.p.r (by simp))
 | cons x s ih =>
  intro i a hd ha
  obtain ⟨hi, hd', hx, -⟩ := cV hd
  rw [List.flatten_cons, List.length_append] at ha
  have er : bu [] l (i : Int) = x := hx _
  refine Ev.s (fun k => by rw [fT.l0]) (Ev.t (by omega) (Ev.t (by omega) (Ev.t (by omega) ?_)))
  rw [er, iu hi (by omega)]
  refine Ev.t (by omega) ?_
  exact (ih (i + 1) (a ++ x) hd' (by rw [List.length_append]; omega)).r (by simp)
theorem Kp (l : List (List ah)) (hl : l.length ≤ 1099511627776) (h : l.flatten.length ≤ 1099511627776) : Ev (fun k => fT.f k l) l.flatten :=
 Ev.u (fun k => by rw [fT.f]; rfl) (Ko l hl l 0 [] rfl (by simpa using h))
def Ml (x : ah) (l : List ah) : Bool := match l.getLast? with | some y => decide (ee x < ee y) | none => false
def uB : List ah → List ah → List ah
 | [], b => b
 | x :: a, b => ins2 x (uB a) b
where ins2 (x : ah) (m : List ah → List ah) : List ah → List ah
 | [] => x :: m []
 | y :: b => if ee y < ee x then y :: ins2 x m b else x :: m (y :: b)
theorem Bg (a : List ah) : uB a [] = a := by
 induction a with
 | nil => rfl
 | cons x a ih => show x :: uB a [] = _; rw [ih]
theorem D5 (x y : ah) (a b : List ah) : uB (x :: a) (y :: b) = if ee y < ee x then y :: uB (x :: a) b else x :: uB a (y :: b) := rfl
theorem IJ : ∀ (n : Nat) (a b : List ah), a.length + b.length ≤ n → (uB a b).length = a.length + b.length := by
 intro n
 induction n with
 | zero =>
  intro a b h
  have h1 : a = [] := List.eq_nil_of_length_eq_zero (by omega)
  have h2 : b = [] := List.eq_nil_of_length_eq_zero (by omega)
  subst h1 h2; rfl
 | succ n ih =>
  intro a b h
  cases a with
  | nil => simp [uB]
  | cons x a =>
   cases b with
   | nil => rw [Bg]; rfl
   | cons y b =>
    rw [List.length_cons, List.length_cons] at h
    rw [D5]
    split
    ·have := ih (x :: a) b (by rw [List.length_cons]; omega)
     rw [List.length_cons, this, List.length_cons, List.length_cons]; omega
    ·have := ih a (y :: b) (by rw [List.length_cons]; omega)
     rw [List.length_cons, this, List.length_cons, List.length_cons]; omega
theorem Hb : ∀ (n : Nat) (a b c : List ah), a.length + b.length ≤ n → a.length + b.length + c.length ≤ 1099511627776 → (∀ x ∈ a, wK x) → (∀ x ∈ b, wK x) → Ev (fun k => cJ.l0 k a b c) (c ++ uB a b) := by
 intro n
 induction n with
 | zero =>
  intro a b c h _ _ _
  have h1 : a = [] := List.eq_nil_of_length_eq_zero (by omega)
  have h2 : b = [] := List.eq_nil_of_length_eq_zero (by omega)
  subst h1 h2
  refine Ev.s (fun k => by rw [cJ.l0]) ?_
  exact Ev.e (by simp) (Ev.e (by simp) (Ev.p.r (by simp [uB])))
 | succ n ih =>
  intro a b c h hc wa wb
  cases a with
  | nil =>
   cases b with
   | nil =>
    refine Ev.s (fun k => by rw [cJ.l0]) ?_
    exact Ev.e (by simp) (Ev.e (by simp) (Ev.p.r (by simp [uB])))
   | cons y b =>
    simp only [List.length_cons, List.length_nil] at h hc
    refine Ev.s (fun k => by rw [cJ.l0]) ?_
    refine Ev.e (by simp) (Ev.t (by simp <;> omega) ?_)
    refine Ev.s (fun k => by rw [cJ.j0]) ?_
    refine Ev.e (by simp <;> omega) (Ev.e (by simp) (Ev.t (by simp <;> omega) (Ev.t (by omega) (Ev.t (by simp <;> omega) ?_))))
    have := ih [] b (c ++ [y]) (by simp <;> omega) (by simp <;> omega) wa (fun z hz => wb z (List.mem_cons_of_mem _ hz))
    simpa [uB, aa] using this
  | cons x a =>
   cases b with
   | nil =>
    simp only [List.length_cons, List.length_nil] at h hc
    refine Ev.s (fun k => by rw [cJ.l0]) ?_
    refine Ev.t (by simp <;> omega) ?_
    refine Ev.s (fun k => by rw [cJ.j0]) ?_
    refine Ev.t (by simp) (Ev.t (by simp <;> omega) (Ev.t (by omega) (Ev.t (by simp <;> omega) ?_)))
    have := ih a [] (c ++ [x]) (by simp <;> omega) (by simp <;> omega) (fun z hz => wa z (List.mem_cons_of_mem _ hz)) wb
    rw [Bg] at this
    rw [Bg]
    simpa [aa] using this
   | cons y b =>
    simp only [List.length_cons] at h hc
    have wx := wa x (List.mem_cons_self ..)
    have wy := wb y (List.mem_cons_self ..)
    obtain ⟨v, e, h1, h2⟩ := kp wx wy
    have rx : aa (x :: a) 0 = x := rfl
    have ry : aa (y :: b) 0 = y := rfl
    refine Ev.s (fun k => by rw [cJ.l0]) ?_
    refine Ev.t (by simp <;> omega) ?_
    refine Ev.s (fun k => by rw [cJ.j0, rx, ry]) ?_
    refine Ev.e (by simp <;> omega) (Ev.t (by simp <;> omega) (Ev.t (by simp <;> omega) (Ev.t (by simp <;> omega) (Ev.b (Ev.c e) (Ev.i (fun q => ?_) (fun q => ?_))))))
    ·refine Ev.t (by omega) (Ev.t (by simp <;> omega) ?_)
     have := ih a (y :: b) (c ++ [x]) (by simp <;> omega) (by simp <;> omega) (fun z hz => wa z (List.mem_cons_of_mem _ hz)) wb
     rw [D5, if_neg (by omega)]
     simpa using this
    ·refine Ev.t (by omega) (Ev.t (by simp <;> omega) ?_)
     have := ih (x :: a) b (c ++ [y]) (by simp <;> omega) (by simp <;> omega) wa (fun z hz => wb z (List.mem_cons_of_mem _ hz))
     rw [D5, if_pos (by omega)]
     simpa using this
theorem xN (a b : List ah) (h : a.length + b.length ≤ 1099511627776) (wa : ∀ x ∈ a, wK x) (wb : ∀ x ∈ b, wK x) : Ev (fun k => cJ.f k a b) (uB a b) :=
 Ev.u (fun k => by rw [cJ.f]) (Hb _ a b [] (Nat.le_refl _) (by simpa using h) wa wb)
theorem G7 (a0 b0 : List ah) (ha : a0.length ≤ 1048576000) (hb : b0.length ≤ 1048576000) (wa : ∀ x ∈ a0, wK x) (wb : ∀ x ∈ b0, wK x) : ∀ (n : Nat) (a b c : List ah) (i j : Nat), a.length + b.length ≤ n → a0.drop i = a → b0.drop j = b → i ≤ a0.length → j ≤ b0.length → c.length + a.length + b.length ≤ 1099511627776 →
  Ev (fun k => cI.l0 k c (i : Int) (j : Int) a0 b0) (c ++ uB a b) := by
 intro n
 induction n with
 | zero =>
  intro a b c i j h da db hi hj hc
  have h1 : a = [] := List.eq_nil_of_length_eq_zero (by omega)
  have h2 : b = [] := List.eq_nil_of_length_eq_zero (by omega)
  subst h1 h2
  have := dQ da
  have := dQ db
  refine Ev.s (fun k => by rw [cI.l0]) ?_
  exact Ev.e (by omega) (Ev.e (by omega) (Ev.p.r (by simp [uB])))
 | succ n ih =>
  intro a b c i j h da db hi hj hc
  cases a with
  | nil =>
   have ea := dQ da
   cases b with
   | nil =>
    have := dQ db
    refine Ev.s (fun k => by rw [cI.l0]) ?_
    exact Ev.e (by omega) (Ev.e (by omega) (Ev.p.r (by simp [uB])))
   | cons y b =>
    obtain ⟨hj2, db', hy, -⟩ := cV db
    simp only [List.length_cons, List.length_nil] at h hc
    refine Ev.s (fun k => by rw [cI.l0]) ?_
    refine Ev.e (by omega) (Ev.t (by omega) ?_)
    refine Ev.s (fun k => by rw [cI.j0, rO b0, hy, iu hj2 (by omega)]) ?_
    refine Ev.e (by omega) (Ev.e (by omega) (Ev.t (by omega) (Ev.t (by omega) (Ev.t (by omega) ?_))))
    have := ih [] b (c ++ [y]) i (j + 1) (by simp <;> omega) da db' hi (by omega) (by simp <;> omega)
    simpa [uB] using this
  | cons x a =>
   obtain ⟨hi2, da', hx, -⟩ := cV da
   have wx := wa x (List.mem_of_mem_drop (i := i) (by rw [da]; exact List.mem_cons_self ..))
   cases b with
   | nil =>
    have eb := dQ db
    simp only [List.length_cons, List.length_nil] at h hc
    refine Ev.s (fun k => by rw [cI.l0]) ?_
    refine Ev.t (by omega) ?_
    refine Ev.s (fun k => by rw [cI.j0, rO a0, hx, iu hi2 (by omega)]) ?_
    refine Ev.t (by omega) (Ev.t (by omega) (Ev.t (by omega) (Ev.t (by omega) ?_)))
    have := ih a [] (c ++ [x]) (i + 1) j (by simp <;> omega) da' db (by omega) hj (by simp <;> omega)
    rw [Bg] at this
    rw [Bg]
    simpa using this
   | cons y b =>
    obtain ⟨hj2, db', hy, -⟩ := cV db
    have wy := wb y (List.mem_of_mem_drop (i := j) (by rw [db]; exact List.mem_cons_self ..))
    simp only [List.length_cons] at h hc
    refine Ev.s (fun k => by rw [cI.l0]) ?_
    refine Ev.t (by omega) ?_
    refine Ev.s (fun k => by rw [cI.j0, rO a0, rO b0, hx, hy, iu hi2 (by omega), iu hj2 (by omega)]) ?_
    have G := Bl wx wy
    refine Ev.e (by omega) (Ev.t (by omega) (Ev.t (by omega) (Ev.t (by omega) (Ev.t (by omega) (Ev.b (jm x y) (Ev.i (fun q => ?_) (fun q => ?_)))))))
    ·refine Ev.t (by omega) ?_
     have := ih a (y :: b) (c ++ [x]) (i + 1) j (by simp <;> omega) da' db (by omega) hj (by simp <;> omega)
     rw [D5, if_neg (fun r => by have := G.2 r; omega)]
     simpa using this
    ·refine Ev.t (by omega) ?_
     have := ih (x :: a) b (c ++ [y]) i (j + 1) (by simp <;> omega) da db' hi (by omega) (by simp <;> omega)
     rw [D5, if_pos (G.1 (by omega))]
     simpa using this
theorem xK (a b : List ah) (ha : a.length ≤ 1048576000) (hb : b.length ≤ 1048576000) (wa : ∀ x ∈ a, wK x) (wb : ∀ x ∈ b, wK x) : Ev (fun k => cI.f k a b) (uB a b) :=
 Ev.u (fun k => by rw [cI.f]; rfl) (G7 a b ha hb wa wb _ a b [] 0 0 (Nat.le_refl _) rfl rfl (by omega) (by omega) (by simp <;> omega))
theorem Bk {x y : ah} (hx : wK x) (hy : wK y) : Nz x y < 0 ↔ ee x < ee y := by
 obtain ⟨⟨a1, a2⟩, ⟨b1, b2⟩, c1, c2⟩ := hx
 obtain ⟨⟨d1, d2⟩, ⟨e1, e2⟩, f1, f2⟩ := hy
 unfold Nz ee
 generalize x.f0 = p at *; generalize x.f1 = q at *; generalize x.f2 = r at *; generalize y.f0 = u at *; generalize y.f1 = v at *; generalize y.f2 = w at *
 by_cases k1 : p < u
 ·rw [if_pos k1]; omega
 rw [if_neg k1]
 by_cases k2 : p > u
 ·rw [if_pos k2]; omega
 rw [if_neg k2]
 by_cases k3 : q < v
 ·rw [if_pos k3]; omega
 rw [if_neg k3]
 by_cases k4 : q > v
 ·rw [if_pos k4]; omega
 rw [if_neg k4]
 by_cases k5 : r < w
 ·rw [if_pos k5]; omega
 rw [if_neg k5]
 by_cases k6 : r > w
 ·rw [if_pos k6]; omega
 rw [if_neg k6]; omega
theorem RU (x : ah) : Ml x [] = false := rfl
theorem Gx (x y : ah) (l : List ah) : Ml x (l ++ [y]) = decide (ee x < ee y) := by simp [Ml]
theorem Gd (l : List ah) : l = [] ∨ ∃ m y, l = m ++ [y] := by
 rcases List.eq_nil_or_concat l with h | ⟨m, y, h⟩
 ·exact Or.inl h
 ·exact Or.inr ⟨m, y, by simpa using h⟩
theorem M7 (m : List ah) (y : ah) (hm : m.length ≤ 1099511627776) : aa (m ++ [y]) (wrap64 (((m ++ [y]).length : Int) - 1)) = y := by
 have e : wrap64 (((m ++ [y]).length : Int) - 1) = ((m.length : Nat) : Int) := by rw [List.length_append, List.length_singleton, eC (by omega) (by omega)]; omega
 rw [e, rO]; simp
theorem GU (x : ah) (l : List ah) (hl : l.length ≤ 1099511627776) (wx : wK x) (hw : ∀ y ∈ l, wK y) : ow.f x.f0 x.f1 x.f2 l = some (Ml x l) := by
 rcases Gd l with h | ⟨m, y, h⟩
 ·subst h; rfl
 ·subst h
  have hm : m.length ≤ 1099511627776 := by rw [List.length_append] at hl; omega
  have e : wrap64 (((m ++ [y]).length : Int) - 1) = (m.length : Int) := by rw [List.length_append, List.length_singleton, eC (by omega) (by omega)]; omega
  unfold ow.f
  rw [if_pos (by simp <;> omega), M7 m y hm, e, if_pos (by omega), if_pos (by simp <;> omega)]
  obtain ⟨v, ev, h, -⟩ := kp wx (hw y (by simp))
  rw [ob ev, Gx]
  exact congrArg some (decide_eq_decide.2 h)
abbrev xJ (s : eQ) : Bool := decide (s.f6 = 0) && (decide (s.f7 = 0) && ((!decide (s.f4.length = 0) || decide (s.f3.length = 0)) && (decide (jw s.f2 + jw s.f3 ≤ 60) && UD (ke s.f5 ++ s.f4 ++ s.f2 ++ s.f3) (s.f0.take s.f1.toNat))))
abbrev Pn (s : eQ) : Bool := decide (2 ≤ s.f5.length) && (pk s.f6 0 (aC s.f5 0).f0.length && (pk s.f7 0 (aC s.f5 1).f0.length && (iy s.f4 (uB ((aC s.f5 0).f0.take s.f6.toNat) ((aC s.f5 1).f0.take s.f7.toNat)) && iy s.f4 ((uB (aC s.f5 0).f0 (aC s.f5 1).f0).take (s.f6 + s.f7).toNat))))
abbrev Ld (s : eQ) : Bool := decide (s.f5.length = 1) && (pk s.f6 0 ((s.f0.length : Int) - 1) && (decide (s.f7 = 0) && decide (s.f4.length = 0)))
abbrev N1 (s : eQ) : Bool := decide (s.f5.length ≤ 1) && (decide (s.f6 = s.f0.length) && (decide (s.f7 = 0) && decide (s.f4.length = 0)))
abbrev GP (s : eQ) : Bool := if s.f8 = 1 then xJ s else (decide (s.f1 = s.f0.length) && (decide (s.f2.length = 0) && (decide (s.f3.length = 0) && (UD (ke s.f5) s.f0 && (if s.f8 = 2 then Pn s else if s.f8 = 3 then Ld s else if s.f8 = 4 then N1 s else false)))))
def vS (s : eQ) : Bool := hH s.f0 && (pk s.f1 0 s.f0.length && (s.f5.all uh && (!decide (s.f9 < 0) && (HG s.f4 && ((s.f2.all fun x => !Ml x s.f4) && GP s)))))
structure WS (s : eQ) : Prop where
 i : s.f0.length ≤ 33554432 ∧ ∀ x ∈ s.f0, wK x
 h : s.f2.length ≤ 33554432 ∧ ∀ x ∈ s.f2, wK x
 d : s.f3.length ≤ 33554432 ∧ ∀ x ∈ s.f3, wK x
 o : s.f4.length ≤ 33554432 ∧ ∀ x ∈ s.f4, wK x
 r : s.f5.length ≤ 33554432 ∧ ∀ r ∈ s.f5, r.f0.length ≤ 33554432 ∧ ∀ x ∈ r.f0, wK x
 t : (ke s.f5).length ≤ 33554432
theorem RK : ∀ {l : List aT} {x : ah}, x ∈ ke l → ∃ r ∈ l, x ∈ r.f0
 | [], _, h => by simp [ke] at h
 | r :: l, x, h => by
  rcases List.mem_append.1 h with h | h
  ·exact ⟨r, List.mem_cons_self .., h⟩
  ·obtain ⟨q, hq, hx⟩ := RK h; exact ⟨q, List.mem_cons_of_mem _ hq, hx⟩
theorem WS.fl {s : eQ} (W : WS s) : ∀ x ∈ ke s.f5, wK x := by
 intro x hx
 obtain ⟨r, hr, h⟩ := RK hx
 exact (W.r.2 r hr).2 x h
theorem WS.ab {s : eQ} (W : WS s) (i : Nat) (hi : i < s.f5.length) : (aC s.f5 (i : Int)).f0.length ≤ 33554432 ∧ ∀ x ∈ (aC s.f5 (i : Int)).f0, wK x := by
 rw [uS]
 have : s.f5.getD i n5 ∈ s.f5 := by rw [List.getD_eq_getElem?_getD, List.getElem?_eq_getElem hi]; exact List.getElem_mem hi
 exact W.r.2 _ this
theorem uC {l : List ah} {n : Nat} {x : ah} (h : x ∈ l.take n) : x ∈ l := List.mem_of_mem_take h
theorem Dh (s : eQ) (W : WS s) (h : s.f8 = 1) : Ev (fun k => hJ.f k s.f0 s.f1 s.f2 s.f3 s.f4 s.f5 s.f6 s.f7 s.f8 s.f9) (jw s.f2 + jw s.f3) := by
 have a := uQ s.f2; have b := uQ s.f3; have c := W.h.1; have d := W.d.1
 refine Ev.u (fun k => by rw [hJ.f]) (Ev.t h (Ev.b (AB s.f2 (by omega)) (Ev.b (AB s.f3 (by omega)) (Ev.c ?_))))
 rw [eC (by omega) (by omega)]
theorem De (s : eQ) (W : WS s) (h : s.f8 = 1) : Ev (fun k => hI.f k s.f0 s.f1 s.f2 s.f3 s.f4 s.f5 s.f6 s.f7 s.f8 s.f9) (jw s.f2 + jw s.f3) := by
 have a := uQ s.f2; have b := uQ s.f3; have c := W.h.1; have d := W.d.1
 refine Ev.u (fun k => by rw [hI.f]) (Ev.t h (Ev.b (Av s.f2 (by omega)) (Ev.b (Av s.f3 (by omega)) (Ev.c ?_))))
 rw [eC (by omega) (by omega)]
theorem Ts {s : eQ} (W : WS s) : ∀ x ∈ ke s.f5 ++ s.f4 ++ s.f2 ++ s.f3, wK x := by
 intro x hx
 simp only [List.mem_append] at hx
 rcases hx with ((hx | hx) | hx) | hx
 ·exact W.fl x hx
 ·exact W.o.2 x hx
 ·exact W.h.2 x hx
 ·exact W.d.2 x hx
theorem WL (s : eQ) (W : WS s) (hv : hH s.f0 = true) (hp : pk s.f1 0 s.f0.length = true) : Ev (fun k => dc.l0 k (s.f2.length : Int) (s.f2.length : Int) s.f1 s.f6 s.f7 s.f8 s.f9 s.f2 s.f0 s.f3 s.f4 s.f5) (GP s) := by
 have h24 := iH hv
 have hp' := of_decide_eq_true hp
 have hb : Ev (fun k => fT.f k ([ke s.f5, s.f4, s.f2, s.f3] : List (List ah))) (ke s.f5 ++ s.f4 ++ s.f2 ++ s.f3) := by
  have a1 := W.t; have a2 := W.o.1; have a3 := W.h.1; have a4 := W.d.1
  exact (Kp [ke s.f5, s.f4, s.f2, s.f3] (by simp) (by simp <;> omega)).r (by simp)
 have hm := Dh s W
 have he := AD (ke s.f5 ++ s.f4 ++ s.f2 ++ s.f3) (s.f0.take s.f1.toNat) (by rw [List.length_take]; omega) (Ts W) (fun x hx => W.i.2 x (uC hx))
 refine Ev.s (fun k => by rw [dc.l0]) (Ev.e (by omega) (Ev.b (He s.f5 (by have := W.r.1; omega) (by have := W.t; omega)) ?_))
 refine Ev.i (fun c8 => ?_) (fun c8 => ?_)
 ·have tl : GP s = xJ s := if_pos c8
  rw [tl]
  refine Ev.i (fun c6 => ?_) (fun c6 => Ev.p.r (by simp [xJ, c6]))
  refine Ev.i (fun c7 => ?_) (fun c7 => Ev.p.r (by simp [xJ, c7]))
  refine Ev.i (fun c4 => ?_) (fun c4 => Ev.i (fun c3 => ?_) (fun c3 => Ev.p.r ?_))
  ·have c4' : ¬ s.f4.length = 0 := by omega
   refine Ev.b (hm c8) (Ev.i (fun c => ?_) (fun c => Ev.p.r (by simp [xJ, c])))
   refine Ev.t (by omega) (Ev.t (by omega) (Ev.b hb (Ev.b he (Ev.p.r ?_))))
   simp only [xJ, c6, c7, c4', c, decide_true, decide_false, Bool.true_and, Bool.not_false, Bool.true_or]
  ·have c3' : s.f3.length = 0 := by omega
   refine Ev.b (hm c8) (Ev.i (fun c => ?_) (fun c => Ev.p.r (by simp [xJ, c])))
   refine Ev.t (by omega) (Ev.t (by omega) (Ev.b hb (Ev.b he (Ev.p.r ?_))))
   simp only [xJ, c6, c7, c3', c, decide_true, decide_false, Bool.true_and, Bool.or_true]
  ·have c4' : s.f4.length = 0 := by omega
   have c3' : ¬ s.f3.length = 0 := by omega
   simp only [xJ, c4', c3', decide_true, decide_false, Bool.not_true, Bool.or_false, Bool.false_and, Bool.and_false]
 ·rw [show GP s = _ from if_neg c8]
  refine Ev.i (fun c1 => ?_) (fun c1 => Ev.p.r (by rw [decide_eq_false c1, Bool.false_and]))
  rw [decide_eq_true c1, Bool.true_and]
  refine Ev.i (fun c2 => Ev.p.r (by rw [decide_eq_false (by omega), Bool.false_and])) (fun c2 => ?_)
  rw [decide_eq_true (show s.f2.length = 0 by omega), Bool.true_and]
  refine Ev.i (fun c3 => Ev.p.r (by rw [decide_eq_false (by omega), Bool.false_and])) (fun c3 => ?_)
  rw [decide_eq_true (show s.f3.length = 0 by omega), Bool.true_and]
  refine Ev.b (AD (ke s.f5) s.f0 (by omega) W.fl W.i.2) (Ev.i (fun ce => ?_) (fun ce => Ev.p.r (by rw [eq_false_of_ne_true ce, Bool.false_and])))
  rw [ce, Bool.true_and]
  refine Ev.i (fun d2 => ?_) (fun d2 => ?_)
  ·rw [if_pos d2]
   refine Ev.i (fun c5 => Ev.p.r (by rw [Pn, decide_eq_false (by omega), Bool.false_and])) (fun c5 => ?_)
   have la : (aC s.f5 0).f0.length ≤ 33554432 := (W.ab 0 (by omega)).1
   have wa : ∀ x ∈ (aC s.f5 0).f0, wK x := (W.ab 0 (by omega)).2
   have lb : (aC s.f5 1).f0.length ≤ 33554432 := (W.ab 1 (by omega)).1
   have wb : ∀ x ∈ (aC s.f5 1).f0, wK x := (W.ab 1 (by omega)).2
   have c5' : 2 ≤ s.f5.length := by omega
   rw [Pn, decide_eq_true c5', Bool.true_and]
   refine Ev.t (by omega) (Ev.t (by omega) (Ev.b (Ev.c (pX _ _ _)) (Ev.i (fun ca => ?_) (fun ca => Ev.p.r (by rw [eq_false_of_ne_true ca, Bool.false_and])))))
   rw [ca, Bool.true_and]
   refine Ev.b (Ev.c (pX _ _ _)) (Ev.i (fun cb => ?_) (fun cb => Ev.p.r (by rw [eq_false_of_ne_true cb, Bool.false_and])))
   rw [cb, Bool.true_and]
   have ca' := of_decide_eq_true ca
   have cb' := of_decide_eq_true cb
   have e : wrap64 (s.f6 + s.f7) = s.f6 + s.f7 := eC (by omega) (by omega)
   have m1 := xN ((aC s.f5 0).f0.take s.f6.toNat) ((aC s.f5 1).f0.take s.f7.toNat) (by simp only [List.length_take]; omega) (fun x hx => wa x (uC hx)) (fun x hx => wb x (uC hx))
   have m2 := xN (aC s.f5 0).f0 (aC s.f5 1).f0 (by omega) wa wb
   have ml := IJ _ (aC s.f5 0).f0 (aC s.f5 1).f0 (Nat.le_refl _)
   refine Ev.t (by omega) (Ev.t (by omega) (Ev.t (by omega) (Ev.t (by omega) (Ev.b m1 (Ev.b (lP _ _ (by have := W.o.1; omega)) (Ev.i (fun cq => ?_) (fun cq => Ev.p.r (by rw [eq_false_of_ne_true cq, Bool.false_and]))))))))
   rw [cq, Bool.true_and, e]
   exact Ev.b m2 (Ev.t (by omega) (Ev.t (by omega) (Ev.b (lP _ _ (by have := W.o.1; omega)) Ev.p)))
  ·rw [if_neg d2]
   refine Ev.i (fun d3 => ?_) (fun d3 => ?_)
   ·rw [if_pos d3]
    refine Ev.i (fun c5 => ?_) (fun c5 => Ev.p.r (by rw [Ld, decide_eq_false (by omega), Bool.false_and]))
    rw [Ld, decide_eq_true (show s.f5.length = 1 by omega), Bool.true_and, eC (by omega) (by omega)]
    refine Ev.b (Ev.c (pX _ _ _)) (Ev.i (fun ca => ?_) (fun ca => Ev.p.r (by rw [eq_false_of_ne_true ca, Bool.false_and])))
    rw [ca, Bool.true_and]
    refine Ev.i (fun c7 => Ev.p.r ?_) (fun c7 => Ev.p.r (by rw [decide_eq_false c7, Bool.false_and]))
    rw [decide_eq_true c7, Bool.true_and]; exact decide_eq_decide.2 (by omega)
   ·rw [if_neg d3]
    refine Ev.i (fun d4 => ?_) (fun d4 => Ev.p.r (by rw [if_neg d4]))
    rw [if_pos d4]
    refine Ev.i (fun c5 => ?_) (fun c5 => Ev.p.r (by rw [N1, decide_eq_false (by omega), Bool.false_and]))
    rw [N1, decide_eq_true (show s.f5.length ≤ 1 by omega), Bool.true_and]
    refine Ev.i (fun c6 => ?_) (fun c6 => Ev.p.r (by rw [decide_eq_false c6, Bool.false_and]))
    rw [decide_eq_true c6, Bool.true_and]
    refine Ev.i (fun c7 => Ev.p.r ?_) (fun c7 => Ev.p.r (by rw [decide_eq_false c7, Bool.false_and]))
    rw [decide_eq_true c7, Bool.true_and]; exact decide_eq_decide.2 (by omega)
theorem WM (s : eQ) (W : WS s) (hv : hH s.f0 = true) (hp : pk s.f1 0 s.f0.length = true) : ∀ (t : List ah) (i : Nat), s.f2.drop i = t → i + t.length = s.f2.length → Ev (fun k => dc.l0 k (s.f2.length : Int) (i : Int) s.f1 s.f6 s.f7 s.f8 s.f9 s.f2 s.f0 s.f3 s.f4 s.f5) ((t.all fun x => !Ml x s.f4) && GP s) := by
 intro t
 induction t with
 | nil =>
  intro i hd hi
  have : i = s.f2.length := by simpa using hi
  subst this
  exact (WL s W hv hp).r (by simp)
 | cons x t ih =>
  intro i hd hi
  rw [List.length_cons] at hi
  obtain ⟨hi', hd', hx, -⟩ := cV hd
  have wx : wK x := W.h.2 x (List.mem_of_mem_drop (i := i) (by rw [hd]; exact List.mem_cons_self ..))
  have hl := W.h.1
  refine Ev.s (fun k => by rw [dc.l0]) (Ev.t (by omega) (Ev.t (by omega) (Ev.t (by omega) ?_)))
  rw [rO, hx, iu hi' (by omega)]
  refine Ev.b (Ev.c (GU x s.f4 (by have := W.o.1; omega) wx W.o.2)) (Ev.i (fun c => Ev.p.r (by simp [c])) (fun c => (ih (i + 1) hd' (by omega)).r ?_))
  rw [List.all_cons, eq_false_of_ne_true c]; rfl
theorem rS (s : eQ) (W : WS s) : Ev (fun k => dc.f k s.f0 s.f1 s.f2 s.f3 s.f4 s.f5 s.f6 s.f7 s.f8 s.f9) (vS s) := by
 unfold vS
 refine Ev.u (fun k => by rw [dc.f]) (Ev.b (ox s.f0 (by have := W.i.1; omega)) ?_)
 refine Ev.i (fun hv => ?_) (fun hv => Ev.p.r (by rw [eq_false_of_ne_true hv, Bool.false_and]))
 rw [hv, Bool.true_and]
 refine Ev.b (Ev.c (pX _ _ _)) (Ev.i (fun hp => ?_) (fun hp => Ev.p.r (by rw [eq_false_of_ne_true hp, Bool.false_and])))
 rw [hp, Bool.true_and]
 refine Ev.b (Gi s.f5 (by have := W.r.1; omega) (fun r hr => ⟨by have := (W.r.2 r hr).1; omega, (W.r.2 r hr).2⟩)) (Ev.i (fun hr => ?_) (fun hr => Ev.p.r (by rw [eq_false_of_ne_true hr, Bool.false_and])))
 rw [hr, Bool.true_and]
 refine Ev.i (fun c => Ev.p.r (by rw [decide_eq_true c]; rfl)) (fun c => ?_)
 rw [decide_eq_false c, Bool.not_false, Bool.true_and]
 refine Ev.b (CF s.f4 (by have := W.o.1; omega) W.o.2) (Ev.i (fun ho => ?_) (fun ho => Ev.p.r (by rw [eq_false_of_ne_true ho, Bool.false_and])))
 rw [ho, Bool.true_and]
 exact WM s W hv hp s.f2 0 rfl (by simp)
theorem FW {n : Nat} (h : n ≤ 33554432) : wrap64 ((n : Int) - 1) = (n : Int) - 1 := eC (by omega) (by omega)
theorem Wz (s : eQ) (W : WS s) (hv : hH s.f0 = true) (hp : pk s.f1 0 s.f0.length = true) : Ev (fun k => dx.l0 k ((s.f4.length : Int) - 1) (s.f2.length : Int) s.f1 s.f6 s.f7 s.f8 s.f9 s.f0 s.f2 s.f3 s.f4 s.f5) (GP s) := by
 have h24 := iH hv
 have hp' := of_decide_eq_true hp
 have a1 := W.t; have a2 := W.o.1; have a3 := W.h.1; have a4 := W.d.1; have a5 := W.r.1
 have hm := De s W
 have lall : (ke s.f5 ++ s.f4 ++ s.f2 ++ s.f3).length ≤ 134217728 := by simp only [List.length_append]; omega
 have he := Az (ke s.f5 ++ s.f4 ++ s.f2 ++ s.f3) (s.f0.take s.f1.toNat) (by omega) (by rw [List.length_take]; omega) (Ts W) (fun x hx => W.i.2 x (uC hx))
 have hf := G9 s.f5 (by omega) (by omega)
 have hq := Az (ke s.f5) s.f0 (by omega) (by omega) W.fl W.i.2
 refine Ev.s (fun k => by rw [dx.l0]) (Ev.e (by omega) ?_)
 refine Ev.i (fun c8 => ?_) (fun c8 => ?_)
 ·have tl : GP s = xJ s := if_pos c8
  rw [tl]
  refine Ev.b hf (Ev.t (by omega) (Ev.t (by rw [List.length_append]; omega) (Ev.t (by simp only [List.length_append]; omega) ?_)))
  refine Ev.i (fun c6 => ?_) (fun c6 => Ev.p.r (by simp [xJ, c6]))
  refine Ev.i (fun c7 => ?_) (fun c7 => Ev.p.r (by simp [xJ, c7]))
  refine Ev.i (fun c3 => ?_) (fun c3 => Ev.i (fun c4 => ?_) (fun c4 => Ev.p.r ?_))
  ·have c3' : s.f3.length = 0 := by omega
   refine Ev.b (hm c8) (Ev.i (fun c => ?_) (fun c => Ev.p.r (by simp [xJ, c])))
   refine Ev.t (by omega) (Ev.t (by omega) (Ev.b he (Ev.p.r ?_)))
   simp only [xJ, c6, c7, c3', c, decide_true, decide_false, Bool.true_and, Bool.or_true]
  ·have c4' : ¬ s.f4.length = 0 := by omega
   refine Ev.b (hm c8) (Ev.i (fun c => ?_) (fun c => Ev.p.r (by simp [xJ, c])))
   refine Ev.t (by omega) (Ev.t (by omega) (Ev.b he (Ev.p.r ?_)))
   simp only [xJ, c6, c7, c4', c, decide_true, decide_false, Bool.true_and, Bool.not_false, Bool.true_or]
  ·have c4' : s.f4.length = 0 := by omega
   have c3' : ¬ s.f3.length = 0 := by omega
   simp only [xJ, c4', c3', decide_true, decide_false, Bool.not_true, Bool.or_false, Bool.false_and, Bool.and_false]
 ·rw [show GP s = _ from if_neg c8]
  refine Ev.i (fun c1 => ?_) (fun c1 => Ev.p.r (by rw [decide_eq_false c1, Bool.false_and]))
  rw [decide_eq_true c1, Bool.true_and, eC (by omega) (by omega)]
  refine Ev.i (fun c2 => Ev.p.r ?_) (fun c2 => ?_)
  ·by_cases g : s.f2.length = 0
   ·rw [decide_eq_false (show ¬ s.f3.length = 0 by omega), Bool.false_and, Bool.and_false]
   ·rw [decide_eq_false g, Bool.false_and]
  rw [decide_eq_true (show s.f2.length = 0 by omega), Bool.true_and]
  rw [decide_eq_true (show s.f3.length = 0 by omega), Bool.true_and]
  refine Ev.i (fun d2 => ?_) (fun d2 => ?_)
  ·rw [if_pos d2]
   refine Ev.i (fun c5 => Ev.p.r (by rw [Pn, decide_eq_false (by omega), Bool.false_and, Bool.and_false])) (fun c5 => ?_)
   have la : (aC s.f5 0).f0.length ≤ 33554432 := (W.ab 0 (by omega)).1
   have wa : ∀ x ∈ (aC s.f5 0).f0, wK x := (W.ab 0 (by omega)).2
   have lb : (aC s.f5 1).f0.length ≤ 33554432 := (W.ab 1 (by omega)).1
   have wb : ∀ x ∈ (aC s.f5 1).f0, wK x := (W.ab 1 (by omega)).2
   have c5' : 2 ≤ s.f5.length := by omega
   rw [Pn, decide_eq_true c5', Bool.true_and]
   refine Ev.t (by omega) (Ev.t (by omega) (Ev.b (Ev.c (uT _ _ _)) (Ev.i (fun ca => ?_) (fun ca => Ev.p.r (by rw [eq_false_of_ne_true ca, Bool.false_and, Bool.and_false])))))
   rw [ca, Bool.true_and]
   refine Ev.b (Ev.c (uT _ _ _)) (Ev.i (fun cb => ?_) (fun cb => Ev.p.r (by rw [eq_false_of_ne_true cb, Bool.false_and, Bool.and_false])))
   rw [cb, Bool.true_and]
   have ca' := of_decide_eq_true ca
   have cb' := of_decide_eq_true cb
   have e : wrap64 (s.f6 + s.f7) = s.f6 + s.f7 := eC (by omega) (by omega)
   have m1 := xK ((aC s.f5 0).f0.take s.f6.toNat) ((aC s.f5 1).f0.take s.f7.toNat) (by rw [List.length_take]; omega) (by rw [List.length_take]; omega) (fun x hx => wa x (uC hx)) (fun x hx => wb x (uC hx))
   have m2 := xK (aC s.f5 0).f0 (aC s.f5 1).f0 (by omega) (by omega) wa wb
   have ml := IJ _ (aC s.f5 0).f0 (aC s.f5 1).f0 (Nat.le_refl _)
   have mk := IJ _ ((aC s.f5 0).f0.take s.f6.toNat) ((aC s.f5 1).f0.take s.f7.toNat) (Nat.le_refl _)
   simp only [List.length_take] at mk
   refine Ev.t (by omega) (Ev.t (by omega) (Ev.t (by omega) (Ev.t (by omega) (Ev.b m1 ?_))))
   rw [e]
   refine Ev.t (by omega) (Ev.b m2 (Ev.t (by omega) (Ev.b (mq _ _ (by omega)) (Ev.i (fun cq => ?_) (fun cq => Ev.p.r (by rw [eq_false_of_ne_true cq, Bool.and_false, Bool.and_false]))))))
   rw [cq, Bool.and_true]
   refine Ev.b (mq _ _ (by omega)) (Ev.i (fun cr => ?_) (fun cr => Ev.p.r ?_))
   ·have cr' := jV.1 cr
    rw [jV.2 cr'.symm, Bool.and_true]
    exact Ev.b hf (Ev.b hq Ev.p)
   ·have : ¬ iy s.f4 (uB ((aC s.f5 0).f0.take s.f6.toNat) ((aC s.f5 1).f0.take s.f7.toNat)) = true := fun q => cr (jV.2 (jV.1 q).symm)
    rw [eq_false_of_ne_true this, Bool.and_false]
  ·rw [if_neg d2]
   refine Ev.i (fun c5 => Ev.p.r ?_) (fun c5 => ?_)
   ·by_cases d3 : s.f8 = 3
    ·rw [if_pos d3, Ld, decide_eq_false (show ¬ s.f5.length = 1 by omega), Bool.false_and, Bool.and_false]
    ·by_cases d4 : s.f8 = 4
     ·rw [if_neg d3, if_pos d4, N1, decide_eq_false (show ¬ s.f5.length ≤ 1 by omega), Bool.false_and, Bool.and_false]
     ·rw [if_neg d3, if_neg d4, Bool.and_false]
   refine Ev.i (fun c7 => ?_) (fun c7 => Ev.p.r ?_)
   rotate_left
   ·by_cases d3 : s.f8 = 3
    ·rw [if_pos d3, Ld, decide_eq_false c7, Bool.false_and, Bool.and_false, Bool.and_false, Bool.and_false]
    ·by_cases d4 : s.f8 = 4
     ·rw [if_neg d3, if_pos d4, N1, decide_eq_false c7, Bool.false_and, Bool.and_false, Bool.and_false, Bool.and_false]
     ·rw [if_neg d3, if_neg d4, Bool.and_false]
   refine Ev.i (fun c4 => Ev.p.r ?_) (fun c4 => ?_)
   ·have c4' : ¬ s.f4.length = 0 := by omega
    by_cases d3 : s.f8 = 3
    ·rw [if_pos d3, Ld, decide_eq_false c4', Bool.and_false, Bool.and_false, Bool.and_false, Bool.and_false]
    ·by_cases d4 : s.f8 = 4
     ·rw [if_neg d3, if_pos d4, N1, decide_eq_false c4', Bool.and_false, Bool.and_false, Bool.and_false, Bool.and_false]
     ·rw [if_neg d3, if_neg d4, Bool.and_false]
   have c4' : s.f4.length = 0 := by omega
   refine Ev.b hf (Ev.b hq (Ev.i (fun ce => ?_) (fun ce => Ev.p.r (by rw [eq_false_of_ne_true ce, Bool.false_and]))))
   rw [ce, Bool.true_and]
   refine Ev.i (fun d3 => ?_) (fun d3 => ?_)
   ·rw [if_pos d3, Ld]
    refine Ev.i (fun c1 => ?_) (fun c1 => Ev.p.r (by rw [decide_eq_false (by omega), Bool.false_and]))
    rw [decide_eq_true (show s.f5.length = 1 by omega), Bool.true_and, eC (by omega) (by omega), decide_eq_true c7, decide_eq_true c4', Bool.and_true, Bool.and_true]
    exact Ev.b (Ev.c (uT _ _ _)) Ev.p
   ·rw [if_neg d3]
    refine Ev.i (fun d4 => Ev.p.r ?_) (fun d4 => Ev.p.r (by rw [if_neg d4]))
    rw [if_pos d4, N1, decide_eq_true (show s.f5.length ≤ 1 by omega), decide_eq_true c7, decide_eq_true c4', Bool.true_and, Bool.and_true, Bool.and_true]
theorem WA (s : eQ) (W : WS s) (hv : hH s.f0 = true) (hp : pk s.f1 0 s.f0.length = true) : ∀ (t : List ah) (i : Nat), s.f2.drop i = t → i + t.length = s.f2.length → Ev (fun k => dx.l0 k ((s.f4.length : Int) - 1) (i : Int) s.f1 s.f6 s.f7 s.f8 s.f9 s.f0 s.f2 s.f3 s.f4 s.f5) ((t.all fun x => !Ml x s.f4) && GP s) := by
 intro t
 induction t with
 | nil =>
  intro i hd hi
  have : i = s.f2.length := by simpa using hi
  subst this
  exact (Wz s W hv hp).r (by simp)
 | cons x t ih =>
  intro i hd hi
  rw [List.length_cons] at hi
  obtain ⟨hi', hd', hx, -⟩ := cV hd
  have wx : wK x := W.h.2 x (List.mem_of_mem_drop (i := i) (by rw [hd]; exact List.mem_cons_self ..))
  have hl := W.h.1
  have ho := W.o.1
  refine Ev.s (fun k => by rw [dx.l0]) (Ev.t (by omega) ?_)
  rw [rO, hx, iu hi' (by omega)]
  refine Ev.i (fun c0 => ?_) (fun c0 => (ih (i + 1) hd' (by omega)).r ?_)
  ·rcases Gd s.f4 with h | ⟨m, y, h⟩
   ·rw [h] at c0; simp at c0
   ·have hm : m.length ≤ 1099511627776 := by rw [h, List.length_append] at ho; omega
    have er : aa s.f4 ((s.f4.length : Int) - 1) = y := by
     have := M7 m y hm
     rw [← h, FW ho] at this; exact this
    have wy : wK y := W.o.2 y (by rw [h]; simp)
    refine Ev.t (by omega) (Ev.t (by omega) (Ev.t (by omega) ?_))
    rw [er]
    refine Ev.b (jm x y) (Ev.i (fun c => Ev.p.r ?_) (fun c => (ih (i + 1) hd' (by omega)).r ?_))
    ·rw [List.all_cons, h, Gx, decide_eq_true ((Bk wx wy).1 c)]; rfl
    ·rw [List.all_cons, h, Gx, decide_eq_false (fun q => c ((Bk wx wy).2 q))]; rfl
  ·have h0 : s.f4 = [] := List.eq_nil_of_length_eq_zero (by omega)
   rw [List.all_cons, h0, RU]; rfl
theorem rM (s : eQ) (W : WS s) : Ev (fun k => dx.f k s.f0 s.f1 s.f2 s.f3 s.f4 s.f5 s.f6 s.f7 s.f8 s.f9) (vS s) := by
 unfold vS
 refine Ev.u (fun k => by rw [dx.f]) (Ev.b (lB s.f0 (by have := W.i.1; omega)) ?_)
 refine Ev.i (fun hv => ?_) (fun hv => Ev.p.r (by rw [eq_false_of_ne_true hv, Bool.false_and]))
 rw [hv, Bool.true_and]
 refine Ev.b (Ev.c (uT _ _ _)) (Ev.i (fun hp => ?_) (fun hp => Ev.p.r (by rw [eq_false_of_ne_true hp, Bool.false_and])))
 rw [hp, Bool.true_and]
 refine Ev.b (F7 s.f5 (by have := W.r.1; omega) (fun r hr => ⟨by have := (W.r.2 r hr).1; omega, (W.r.2 r hr).2⟩)) (Ev.i (fun hr => ?_) (fun hr => Ev.p.r (by rw [eq_false_of_ne_true hr, Bool.false_and])))
 rw [hr, Bool.true_and]
 refine Ev.i (fun c => Ev.p.r (by rw [decide_eq_true c]; rfl)) (fun c => ?_)
 rw [decide_eq_false c, Bool.not_false, Bool.true_and]
 refine Ev.b (Co s.f4 (by have := W.o.1; omega) W.o.2) (Ev.i (fun ho => ?_) (fun ho => Ev.p.r (by rw [eq_false_of_ne_true ho, Bool.false_and])))
 rw [ho, Bool.true_and, FW W.o.1]
 exact WA s W hv hp s.f2 0 rfl (by simp)
def CH (l : List aT) : List UInt8 := uE 124 (l.map fun r => kL r.f0)
theorem Rj : ∀ l : List aT, tF (l.map fun r : aT => kL r.f0) ≤ 1609 * l.length
 | [] => by simp [tF]
 | x :: l => by rw [List.map_cons, nM, List.length_cons]; have := uU x.f0; have := Rj l; omega
theorem YI (l : List aT) : (CH l).length ≤ 1609 * l.length := by
 have a := Rj l
 have b := IK 124 (l.map fun r : aT => kL r.f0)
 unfold CH; omega
theorem HN (l : List aT) (hl : l.length ≤ 1000) (hr : ∀ r ∈ l, r.f0.length ≤ 33554432) : Ev (fun k => gq.f k l) (bT (CH l)) := by
 have L : ∀ (s : List aT) (i : Nat) (A : List (List UInt8)), l.drop i = s → A.length ≤ i → i ≤ l.length → tF A ≤ 1609 * i → Ev (fun k => gq.l0 k (A.map bT) (l.length : Int) (i : Int) l) (bT (uE 124 (A ++ s.map fun r : aT => kL r.f0))) := by
  intro s
  induction s with
  | nil =>
   intro i A hd hA hi ht
   have := dQ hd
   refine Ev.s (fun k => by rw [gq.l0]) ?_
   exact Ev.e (by omega) (Ev.b (yf 124 A (by omega) (by omega)) (Ev.p.r (by simp)))
  | cons x t ih =>
   intro i A hd hA hi ht
   obtain ⟨hi', hd', hx, -⟩ := cV hd
   have hf := uU x.f0
   have hm := hr x (List.mem_of_mem_drop (by rw [hd]; exact List.mem_cons_self ..))
   have h := ih (i + 1) (A ++ [kL x.f0]) hd' (by simp; omega) (by omega) (by rw [Rk, nM, show tF [] = 0 from rfl]; omega)
   refine Ev.s (fun k => by rw [gq.l0]) (Ev.t (by omega) (Ev.t (by omega) (Ev.t (by omega) ?_)))
   rw [uS, hx, iu hi' (by omega)]
   refine Ev.b (zT x.f0 (by omega)) (Ev.t (by rw [List.length_map]; omega) ?_)
   rw [List.map_append, List.append_assoc] at h
   exact h
 exact Ev.u (fun _ => rfl) (L l 0 [] rfl (by simp) (by omega) (by simp [tF]))
theorem HF (l : List aT) (hl : l.length ≤ 1000) (hr : ∀ r ∈ l, r.f0.length ≤ 33554432) : Ev (fun k => dv.f k l) (bT (CH l)) := by
 refine Ev.u (fun k => by rw [dv.f]) ?_
 have J : ∀ (x : aT) (i : Nat) (acc : List UInt8) (r : ByteArray), i < l.length → (∀ d, l.getD i d = x) → x.f0.length ≤ 33554432 → acc.length ≤ 10000000 → Ev (fun k => dv.l0 k (bT (acc ++ kL x.f0)) ((i + 1 : Nat) : Int) l) r → Ev (fun k => dv.j0 k (bT acc) (i : Int) l) r := by
  intro x i acc r hi hx hm ha h
  have hf := uU x.f0
  refine Ev.s (fun k => by rw [dv.j0]) (Ev.t (by omega) (Ev.t (by omega) ?_))
  rw [uS, hx, iu hi (by omega)]
  refine Ev.b (mS x.f0 (by omega)) ?_
  rw [gm, fw, fw]
  exact Ev.t (by omega) h
 have L : ∀ (s : List aT) (i : Nat) (acc : List UInt8), l.drop i = s → 0 < i → acc.length + 1609 * s.length ≤ 9000000 → Ev (fun k => dv.l0 k (bT acc) (i : Int) l) (bT (acc ++ (s.map fun r : aT => kL r.f0).flatMap fun y => 124 :: y)) := by
  intro s
  induction s with
  | nil =>
   intro i acc hd h0 ha
   have := dQ hd
   exact Ev.s (fun k => by rw [dv.l0]) (Ev.e (by omega) (Ev.p.r (by simp)))
  | cons x t ih =>
   intro i acc hd h0 ha
   rw [List.length_cons] at ha
   obtain ⟨hi', hd', hx, -⟩ := cV hd
   have hf := uU x.f0
   have hm := hr x (List.mem_of_mem_drop (by rw [hd]; exact List.mem_cons_self ..))
   refine Ev.s (fun k => by rw [dv.l0]) ?_
   refine Ev.t (by omega) (Ev.t (by omega) (Ev.t (by show acc.length + 1 ≤ _; omega) ?_))
   rw [show bT acc ++ (⟨#[124]⟩ : ByteArray) = bT (acc ++ [124]) from gm acc [124]]
   refine J x i (acc ++ [124]) _ hi' hx hm (by simp; omega) ((ih (i + 1) _ hd' (by omega) (by simp; omega)).r ?_)
   simp
 cases l with
 | nil => exact Ev.s (fun k => by rw [dv.l0]) (Ev.e (by simp) (Ev.p.r (by rfl)))
 | cons x t =>
  have hf := uU x.f0
  have hm := hr x (List.mem_cons_self ..)
  rw [List.length_cons] at hl
  refine Ev.s (fun k => by rw [dv.l0]) ?_
  refine Ev.t (by simp) (Ev.e (by omega) ?_)
  exact J x 0 [] _ (by simp) (fun _ => rfl) hm (by simp) (L t 1 (kL x.f0) rfl (by omega) (by omega))
theorem Wv {l : List ah} : po l = true ↔ ∀ x ∈ l, vR x = true := by unfold po vR; rw [List.all_eq_true]
theorem pY {l : List ah} : hH l = true ↔ (∀ x ∈ l, vR x = true) ∧ l.length ≤ 24 := by
 unfold hH; rw [Bool.and_eq_true, Wv, decide_eq_true_iff]
theorem Ky {a b : List ah} (h : UD a b = true) : a.Perm b := by
 have e := jV.1 h
 exact ((IF a).2.symm.trans (by rw [e])).trans (IF b).2
theorem YH : ∀ (n : Nat) (a b : List ah), a.length + b.length ≤ n → ∀ x ∈ uB a b, x ∈ a ∨ x ∈ b := by
 intro n
 induction n with
 | zero =>
  intro a b h x hx
  have h1 : a = [] := List.eq_nil_of_length_eq_zero (by omega)
  have h2 : b = [] := List.eq_nil_of_length_eq_zero (by omega)
  subst h1 h2
  simp [uB] at hx
 | succ n ih =>
  intro a b h x hx
  cases a with
  | nil => exact Or.inr hx
  | cons y a =>
   cases b with
   | nil => rw [Bg] at hx; exact Or.inl hx
   | cons z b =>
    simp only [List.length_cons] at h
    rw [D5] at hx
    split at hx
    ·rcases List.mem_cons.1 hx with h' | h'
     ·exact Or.inr (by rw [h']; exact List.mem_cons_self ..)
     ·rcases ih (y :: a) b (by simp; omega) x h' with q | q
      ·exact Or.inl q
      ·exact Or.inr (List.mem_cons_of_mem _ q)
    ·rcases List.mem_cons.1 hx with h' | h'
     ·exact Or.inl (by rw [h']; exact List.mem_cons_self ..)
     ·rcases ih a (z :: b) (by simp; omega) x h' with q | q
      ·exact Or.inl (List.mem_cons_of_mem _ q)
      ·exact Or.inr q
structure VF (s : eQ) : Prop where
 vi : hH s.f0 = true
 vh : hH s.f2 = true
 vd : hH s.f3 = true
 vo : hH s.f4 = true
 vr : ∀ r ∈ s.f5, hH r.f0 = true ∧ r.f0 ≠ []
 rn : s.f5.length ≤ 24
 pos : 0 ≤ s.f1 ∧ s.f1 ≤ 24
 lp : 0 ≤ s.f6 ∧ s.f6 ≤ 24
 rp : 0 ≤ s.f7 ∧ s.f7 ≤ 24
 ph : 1 ≤ s.f8 ∧ s.f8 ≤ 4
 wr : 0 ≤ s.f9
theorem Uw : ∀ l : List aT, (∀ r ∈ l, r.f0 ≠ []) → l.length ≤ (ke l).length
 | [], _ => by simp
 | r :: l, h => by
  have h1 := h r (List.mem_cons_self ..)
  have h2 := Uw l (fun q hq => h q (List.mem_cons_of_mem _ hq))
  have h3 : r.f0.length ≠ 0 := fun e => h1 (List.eq_nil_of_length_eq_zero e)
  rw [ke, List.length_append, List.length_cons]; omega
theorem Wu {r : aT} (h : uh r = true) : hH r.f0 = true ∧ r.f0 ≠ [] := by
 unfold uh at h
 rw [Bool.and_eq_true, Bool.and_eq_true] at h
 refine ⟨h.2, fun e => ?_⟩
 have := h.1.1
 rw [e] at this
 simp at this
theorem yI {s : eQ} (h : vS s = true) : VF s := by
 unfold vS at h
 simp only [Bool.and_eq_true] at h
 obtain ⟨hv, hp, hr, hw, ho, hh, ht⟩ := h
 have h24 := iH hv
 have hv' := (pY.1 hv).1
 have hp' := of_decide_eq_true hp
 have hw' : ¬ s.f9 < 0 := by simpa using hw
 have hr' : ∀ r ∈ s.f5, hH r.f0 = true ∧ r.f0 ≠ [] := fun r q => Wu (List.all_eq_true.1 hr r q)
 have hrn := Uw s.f5 (fun r q => (hr' r q).2)
 unfold GP at ht
 by_cases c8 : s.f8 = 1
 ·rw [if_pos c8] at ht
  simp only [xJ, Bool.and_eq_true] at ht
  obtain ⟨t6, t7, -, -, te⟩ := ht
  have t6' := of_decide_eq_true t6
  have t7' := of_decide_eq_true t7
  have pm := Ky te
  have pl := pm.length_eq
  simp only [List.length_append, List.length_take] at pl
  have pv : ∀ x ∈ ke s.f5 ++ s.f4 ++ s.f2 ++ s.f3, vR x = true := fun x hx => hv' x (uC (pm.subset hx))
  simp only [List.mem_append] at pv
  exact ⟨hv, pY.2 ⟨fun x hx => pv x (.inl (.inr hx)), by omega⟩, pY.2 ⟨fun x hx => pv x (.inr hx), by omega⟩, pY.2 ⟨fun x hx => pv x (.inl (.inl (.inr hx))), by omega⟩, hr', by omega, by omega, by omega, by omega, by omega, by omega⟩
 ·rw [if_neg c8] at ht
  simp only [Bool.and_eq_true] at ht
  obtain ⟨t1, t2, t3, te, tz⟩ := ht
  have e2 : s.f2 = [] := List.eq_nil_of_length_eq_zero (of_decide_eq_true t2)
  have e3 : s.f3 = [] := List.eq_nil_of_length_eq_zero (of_decide_eq_true t3)
  have pm := Ky te
  have pl := pm.length_eq
  have nn : hH [] = true := rfl
  by_cases c2 : s.f8 = 2
  ·rw [if_pos c2] at tz
   simp only [Pn, Bool.and_eq_true] at tz
   obtain ⟨q1, q2, q3, -, q5⟩ := tz
   have q1' := of_decide_eq_true q1
   have q2' := of_decide_eq_true q2
   have q3' := of_decide_eq_true q3
   have q5' := jV.1 q5
   have hab : ∃ a b t, s.f5 = a :: b :: t := by
    rcases h5 : s.f5 with _ | ⟨a, _ | ⟨b, t⟩⟩
    ·rw [h5] at q1'; simp at q1'
    ·rw [h5] at q1'; simp at q1'
    ·exact ⟨a, b, t, rfl⟩
   obtain ⟨a, b, t, h5⟩ := hab
   have ea : aC s.f5 0 = a := by rw [h5]; rfl
   have eb : aC s.f5 1 = b := by rw [h5]; rfl
   rw [ea] at q2' q5'
   rw [eb] at q3' q5'
   have va := hr' a (by rw [h5]; exact List.mem_cons_self ..)
   have vb := hr' b (by rw [h5]; exact List.mem_cons_of_mem _ (List.mem_cons_self ..))
   have l1 := iH va.1
   have l2 := iH vb.1
   have lf : a.f0.length + b.f0.length ≤ (ke s.f5).length := by rw [h5, ke, ke, List.length_append, List.length_append]; omega
   have lm := IJ _ a.f0 b.f0 (Nat.le_refl _)
   have mm := YH _ a.f0 b.f0 (Nat.le_refl _)
   refine ⟨hv, by rw [e2]; exact nn, by rw [e3]; exact nn, ?_, hr', by omega, by omega, by omega, by omega, by omega, by omega⟩
   rw [q5']
   refine pY.2 ⟨fun x hx => ?_, by rw [List.length_take]; omega⟩
   rcases mm x (uC hx) with h | h
   ·exact (pY.1 va.1).1 x h
   ·exact (pY.1 vb.1).1 x h
  ·rw [if_neg c2] at tz
   by_cases c3 : s.f8 = 3
   ·rw [if_pos c3] at tz
    simp only [Ld, Bool.and_eq_true] at tz
    obtain ⟨q1, q2, q3, q4⟩ := tz
    have q2' := of_decide_eq_true q2
    have q3' := of_decide_eq_true q3
    have e4 : s.f4 = [] := List.eq_nil_of_length_eq_zero (of_decide_eq_true q4)
    exact ⟨hv, by rw [e2]; exact nn, by rw [e3]; exact nn, by rw [e4]; exact nn, hr', by omega, by omega, by omega, by omega, by omega, by omega⟩
   ·rw [if_neg c3] at tz
    by_cases c4 : s.f8 = 4
    ·rw [if_pos c4] at tz
     simp only [N1, Bool.and_eq_true] at tz
     obtain ⟨q1, q2, q3, q4⟩ := tz
     have q2' := of_decide_eq_true q2
     have q3' := of_decide_eq_true q3
     have e4 : s.f4 = [] := List.eq_nil_of_length_eq_zero (of_decide_eq_true q4)
     exact ⟨hv, by rw [e2]; exact nn, by rw [e3]; exact nn, by rw [e4]; exact nn, hr', by omega, by omega, by omega, by omega, by omega, by omega⟩
    ·rw [if_neg c4] at tz; cases tz
def sP (s : eQ) : List (List UInt8) := [kL s.f0, fI s.f1, kL s.f2, kL s.f3, kL s.f4, CH s.f5, fI s.f6, fI s.f7, fI s.f8, fI s.f9]
def fS (s : eQ) : List UInt8 := if vS s = true then uE 47 (sP s) else []
theorem TK {s : eQ} (V : VF s) (h9 : s.f9 ≤ 9223372036854775807) : (kL s.f0).length ≤ 1608 ∧ (fI s.f1).length ≤ 21 ∧ (kL s.f2).length ≤ 1608 ∧ (kL s.f3).length ≤ 1608 ∧ (kL s.f4).length ≤ 1608 ∧ (CH s.f5).length ≤ 40000 ∧ (fI s.f6).length ≤ 21 ∧ (fI s.f7).length ≤ 21 ∧ (fI s.f8).length ≤ 21 ∧ (fI s.f9).length ≤ 21 := by
 have a := V.pos; have b := V.lp; have c := V.rp; have d := V.ph; have e := V.wr; have f := V.rn
 have g := YI s.f5
 exact ⟨uU _, (qA _ (by omega) (by omega)).1, uU _, uU _, uU _, by omega, (qA _ (by omega) (by omega)).1, (qA _ (by omega) (by omega)).1, (qA _ (by omega) (by omega)).1, (qA _ (by omega) (by omega)).1⟩
theorem Cu {l : List ah} (h : hH l = true) : uE 32 (l.map fR) = kL l := by unfold kL; rw [if_pos h]
theorem TJ {s : eQ} (V : VF s) (h9 : s.f9 ≤ 9223372036854775807) : tF (sP s) ≤ 100000 := by
 obtain ⟨a0, a1, a2, a3, a4, a5, a6, a7, a8, a9⟩ := TK V h9
 unfold sP
 simp only [nM, show tF [] = 0 from rfl]
 omega
theorem sT (s : eQ) (W : WS s) (h9 : s.f9 ≤ 9223372036854775807) : Ev (fun k => fe.f k s.f0 s.f1 s.f2 s.f3 s.f4 s.f5 s.f6 s.f7 s.f8 s.f9) (bT (fS s)) := by
 unfold fS
 refine Ev.u (fun _ => rfl) (Ev.b (rS s W) (Ev.i (fun h => ?_) (fun h => Ev.p.r ?_)))
 ·have V := yI h
  have a := V.pos; have b := V.lp; have c := V.rp; have d := V.ph; have e := V.wr; have f := V.rn
  have w0 := W.i.1; have w2 := W.h.1; have w3 := W.d.1; have w4 := W.o.1
  rw [if_pos h]
  refine Ev.b (zT s.f0 (by omega)) (Ev.b (iK s.f1 (by omega) (by omega)) (Ev.b ((sR s.f2 (by have := iH V.vh; omega)).r (congrArg bT (Cu V.vh))) (Ev.b ((sR s.f3 (by have := iH V.vd; omega)).r (congrArg bT (Cu V.vd))) (Ev.b ((sR s.f4 (by have := iH V.vo; omega)).r (congrArg bT (Cu V.vo))) ?_))))
  refine Ev.b (HN s.f5 (by omega) (fun r hr => (W.r.2 r hr).1)) (Ev.b (iK s.f6 (by omega) (by omega)) (Ev.b (iK s.f7 (by omega) (by omega)) (Ev.b (iK s.f8 (by omega) (by omega)) (Ev.b (iK s.f9 (by omega) (by omega)) ?_))))
  exact Ev.b (yf 47 (sP s) (by simp [sP]) (by have := TJ V h9; omega)) Ev.p
 ·rw [if_neg h]; rfl
theorem AU (A : List UInt8) : bT A ++ (⟨#[47]⟩ : ByteArray) = bT (A ++ [47]) := gm _ _
theorem w9 (s : eQ) (W : WS s) (h9 : s.f9 ≤ 9223372036854775807) : Ev (fun k => jk.f k s.f0 s.f1 s.f2 s.f3 s.f4 s.f5 s.f6 s.f7 s.f8 s.f9) (bT (fS s)) := by
 unfold fS
 refine Ev.u (fun _ => rfl) (Ev.b (rM s W) (Ev.i (fun h => ?_) (fun h => Ev.p.r ?_)))
 ·have V := yI h
  have a := V.pos; have b := V.lp; have c := V.rp; have d := V.ph; have e := V.wr; have f := V.rn
  have w0 := W.i.1; have w2 := W.h.1; have w3 := W.d.1; have w4 := W.o.1
  rw [if_pos h]
  have e0 := mS s.f0 (by omega)
  have e1 := iJ s.f1 (by omega) (by omega)
  have e2 := mS s.f2 (by omega)
  have e3 := mS s.f3 (by omega)
  have e4 := mS s.f4 (by omega)
  have e5 := HF s.f5 (by omega) (fun r hr => (W.r.2 r hr).1)
  have e6 := iJ s.f6 (by omega) (by omega)
  have e7 := iJ s.f7 (by omega) (by omega)
  have e8 := iJ s.f8 (by omega) (by omega)
  have e9 := iJ s.f9 (by omega) (by omega)
  obtain ⟨a0, a1, a2, a3, a4, a5, a6, a7, a8, a9⟩ := TK V h9
  unfold sP
  generalize kL s.f0 = A0 at *
  generalize fI s.f1 = A1 at *
  generalize kL s.f2 = A2 at *
  generalize kL s.f3 = A3 at *
  generalize kL s.f4 = A4 at *
  generalize CH s.f5 = A5 at *
  generalize fI s.f6 = A6 at *
  generalize fI s.f7 = A7 at *
  generalize fI s.f8 = A8 at *
  generalize fI s.f9 = A9 at *
  refine Ev.b e0 (Ev.t (by show A0.length + 1 ≤ _; omega) ?_)
  rw [AU A0]
  obtain ⟨B1, h1, b1⟩ : ∃ B, A0 ++ [47] = B ∧ B.length ≤ 2000 := ⟨_, rfl, by rw [List.length_append, List.length_singleton]; omega⟩
  rw [h1]
  refine Ev.b e1 (Ev.t (by show B1.length + A1.length ≤ _; omega) ?_)
  rw [gm B1 A1]
  refine Ev.t (by show (B1 ++ A1).length + 1 ≤ _; rw [List.length_append]; omega) ?_
  rw [AU (B1 ++ A1)]
  obtain ⟨B2, h2, b2⟩ : ∃ B, B1 ++ A1 ++ [47] = B ∧ B.length ≤ 4000 := ⟨_, rfl, by rw [List.length_append, List.length_append, List.length_singleton]; omega⟩
  rw [h2]
  refine Ev.b e2 (Ev.t (by show B2.length + A2.length ≤ _; omega) ?_)
  rw [gm B2 A2]
  refine Ev.t (by show (B2 ++ A2).length + 1 ≤ _; rw [List.length_append]; omega) ?_
  rw [AU (B2 ++ A2)]
  obtain ⟨B3, h3, b3⟩ : ∃ B, B2 ++ A2 ++ [47] = B ∧ B.length ≤ 6000 := ⟨_, rfl, by rw [List.length_append, List.length_append, List.length_singleton]; omega⟩
  rw [h3]
  refine Ev.b e3 (Ev.t (by show B3.length + A3.length ≤ _; omega) ?_)
  rw [gm B3 A3]
  refine Ev.t (by show (B3 ++ A3).length + 1 ≤ _; rw [List.length_append]; omega) ?_
  rw [AU (B3 ++ A3)]
  obtain ⟨B4, h4, b4⟩ : ∃ B, B3 ++ A3 ++ [47] = B ∧ B.length ≤ 8000 := ⟨_, rfl, by rw [List.length_append, List.length_append, List.length_singleton]; omega⟩
  rw [h4]
  refine Ev.b e4 (Ev.t (by show B4.length + A4.length ≤ _; omega) ?_)
  rw [gm B4 A4]
  refine Ev.t (by show (B4 ++ A4).length + 1 ≤ _; rw [List.length_append]; omega) ?_
  rw [AU (B4 ++ A4)]
  obtain ⟨B5, h5, b5⟩ : ∃ B, B4 ++ A4 ++ [47] = B ∧ B.length ≤ 10000 := ⟨_, rfl, by rw [List.length_append, List.length_append, List.length_singleton]; omega⟩
  rw [h5]
  refine Ev.b e5 (Ev.t (by show B5.length + A5.length ≤ _; omega) ?_)
  rw [gm B5 A5]
  refine Ev.t (by show (B5 ++ A5).length + 1 ≤ _; rw [List.length_append]; omega) ?_
  rw [AU (B5 ++ A5)]
  obtain ⟨B6, h6, b6⟩ : ∃ B, B5 ++ A5 ++ [47] = B ∧ B.length ≤ 60500 := ⟨_, rfl, by rw [List.length_append, List.length_append, List.length_singleton]; omega⟩
  rw [h6]
  refine Ev.b e6 (Ev.t (by show B6.length + A6.length ≤ _; omega) ?_)
  rw [gm B6 A6]
  refine Ev.t (by show (B6 ++ A6).length + 1 ≤ _; rw [List.length_append]; omega) ?_
  rw [AU (B6 ++ A6)]
  obtain ⟨B7, h7, b7⟩ : ∃ B, B6 ++ A6 ++ [47] = B ∧ B.length ≤ 60600 := ⟨_, rfl, by rw [List.length_append, List.length_append, List.length_singleton]; omega⟩
  rw [h7]
  refine Ev.b e7 (Ev.t (by show B7.length + A7.length ≤ _; omega) ?_)
  rw [gm B7 A7]
  refine Ev.t (by show (B7 ++ A7).length + 1 ≤ _; rw [List.length_append]; omega) ?_
  rw [AU (B7 ++ A7)]
  obtain ⟨B8, h8, b8⟩ : ∃ B, B7 ++ A7 ++ [47] = B ∧ B.length ≤ 60700 := ⟨_, rfl, by rw [List.length_append, List.length_append, List.length_singleton]; omega⟩
  rw [h8]
  refine Ev.b e8 (Ev.t (by show B8.length + A8.length ≤ _; omega) ?_)
  rw [gm B8 A8]
  refine Ev.t (by show (B8 ++ A8).length + 1 ≤ _; rw [List.length_append]; omega) ?_
  rw [AU (B8 ++ A8)]
  obtain ⟨B9, h9, b9⟩ : ∃ B, B8 ++ A8 ++ [47] = B ∧ B.length ≤ 60800 := ⟨_, rfl, by rw [List.length_append, List.length_append, List.length_singleton]; omega⟩
  rw [h9]
  refine Ev.b e9 (Ev.t (by show B9.length + A9.length ≤ _; omega) ?_)
  rw [gm B9 A9]
  refine Ev.p.r ?_
  subst h9 h8 h7 h6 h5 h4 h3 h2 h1
  simp [uE]
 ·rw [if_neg h]; rfl
def vL (x : List UInt8) : List aT := if x = [] then [] else (kl 124 x).map fun y => ⟨(iI y).1⟩
def Kl (x : List UInt8) : Bool := decide (x = []) || (kl 124 x).all fun y => (iI y).2
theorem JB (s : List UInt8) (hs : s.length ≤ 1100000) : Ev (fun k => eY.f k (bT s)) (if Kl s = true then (vL s, true) else ([], false)) := by
 refine Ev.u (fun k => by rw [eY.f]) ?_
 refine Ev.i (fun h => Ev.p.r ?_) (fun h => ?_)
 ·have : s = [] := Bf ((yb _ _).1 h)
  subst this
  rfl
 ·have hn : s ≠ [] := fun e => h (by rw [e]; rfl)
  have hm := fun x => wI (c := 124) (s := s) (x := x)
  have hl := yt 124 s
  have L : ∀ (t : List (List UInt8)) (i : Nat) (B : List aT), (kl 124 s).drop i = t → B.length ≤ i → Ev (fun k => eY.l0 k B ((kl 124 s).map bT) ((kl 124 s).length : Int) (i : Int)) (if (t.all fun y => (iI y).2) = true then (B ++ t.map (fun y => (⟨(iI y).1⟩ : aT)), true) else ([], false)) := by
   intro t
   induction t with
   | nil =>
    intro i B hd hB
    have := dQ hd
    exact Ev.s (fun k => by rw [eY.l0]) (Ev.e (by omega) (Ev.p.r (by simp)))
   | cons y t ih =>
    intro i B hd hB
    obtain ⟨hi, hd', hx, -⟩ := cV hd
    have zy := hm y (List.mem_of_mem_drop (by rw [hd]; exact List.mem_cons_self ..))
    refine Ev.s (fun k => by rw [eY.l0]) (Ev.t (by omega) (Ev.t (by omega) (Ev.t (by rw [List.length_map]; omega) ?_)))
    rw [Ry, hx, iu hi (by omega)]
    refine Ev.b (AC y (by omega)) (Ev.i (fun c => ?_) (fun c => Ev.p.r ?_))
    ·refine Ev.t (by omega) ((ih (i + 1) (B ++ [⟨(iI y).1⟩]) hd' (by simp; omega)).r ?_)
     rw [List.all_cons, c, Bool.true_and, List.map_cons, List.append_assoc, List.singleton_append]
    ·rw [List.all_cons, eq_false_of_ne_true c, Bool.false_and, if_neg (by decide)]
  refine Ev.b (vM s (by omega) 124 124 rfl) ?_
  rw [List.length_map]
  refine (L (kl 124 s) 0 [] rfl (by simp)).r ?_
  unfold Kl vL
  rw [if_neg hn, decide_eq_false hn, Bool.false_or, List.nil_append]
def nN (a0 a1 a2 a3 a4 a5 a6 a7 a8 a9 : List UInt8) : eQ := ⟨(iI a0).1, (pI a1).1, (iI a2).1, (iI a3).1, (iI a4).1, vL a5, (pI a6).1, (pI a7).1, (pI a8).1, (pI a9).1⟩
def pS (s : List UInt8) : eQ × Bool :=
 match kl 47 s with
 | [a0, a1, a2, a3, a4, a5, a6, a7, a8, a9] => if fS (nN a0 a1 a2 a3 a4 a5 a6 a7 a8 a9) = s then (nN a0 a1 a2 a3 a4 a5 a6 a7 a8 a9, true) else (Dv, false)
 | _ => (Dv, false)
theorem Gb (s : List UInt8) : yQ (pI s).1 := by
 by_cases h : (pI s).2 = true
 ·exact (II h).1
 ·rw [PN h]; exact ⟨by decide, by decide⟩
theorem Xa {x : ah} (h : vR x = true) : wK x := by
 have := Hy h
 exact ⟨⟨by omega, by omega⟩, ⟨by omega, by omega⟩, by omega, by omega⟩
theorem HJ (s : List UInt8) : (iI s).1.length ≤ 24 ∧ ∀ x ∈ (iI s).1, wK x := by
 refine ⟨YA s, fun x hx => ?_⟩
 by_cases h : (iI s).2 = true
 ·exact Xa ((pY.1 (PL h).1).1 x hx)
 ·rw [T4 (eq_false_of_ne_true h)] at hx; cases hx
theorem YB {x : List UInt8} {r : aT} (h : r ∈ vL x) : r.f0.length ≤ 24 ∧ ∀ y ∈ r.f0, wK y := by
 unfold vL at h
 split at h
 ·cases h
 ·obtain ⟨y, -, rfl⟩ := List.mem_map.1 h; exact HJ y
theorem YC (x : List UInt8) : (vL x).length ≤ x.length + 1 := by
 unfold vL
 split
 ·simp
 ·rw [List.length_map]; exact yt 124 x
theorem Ux : ∀ l : List aT, (∀ r ∈ l, r.f0.length ≤ 24) → (ke l).length ≤ 24 * l.length
 | [], _ => by simp [ke]
 | r :: l, h => by
  have h1 := h r (List.mem_cons_self ..)
  have h2 := Ux l (fun q hq => h q (List.mem_cons_of_mem _ hq))
  rw [ke, List.length_append, List.length_cons]; omega
theorem PP (a0 a1 a2 a3 a4 a5 a6 a7 a8 a9 : List UInt8) (h5 : a5.length ≤ 1100000) : WS (nN a0 a1 a2 a3 a4 a5 a6 a7 a8 a9) := by
 have hr := YC a5
 have hm : ∀ r ∈ vL a5, r.f0.length ≤ 24 ∧ ∀ y ∈ r.f0, wK y := fun r => YB
 have hf := Ux (vL a5) (fun r q => (hm r q).1)
 have q0 := HJ a0; have q2 := HJ a2; have q3 := HJ a3; have q4 := HJ a4
 exact ⟨⟨by show (iI a0).1.length ≤ _; omega, q0.2⟩, ⟨by show (iI a2).1.length ≤ _; omega, q2.2⟩, ⟨by show (iI a3).1.length ≤ _; omega, q3.2⟩, ⟨by show (iI a4).1.length ≤ _; omega, q4.2⟩, ⟨by show (vL a5).length ≤ _; omega, fun r q => ⟨by have := (hm r q).1; omega, (hm r q).2⟩⟩, by show (ke (vL a5)).length ≤ _; omega⟩
theorem KM : WS Dv := ⟨⟨by decide, by simp [Dv]⟩, ⟨by decide, by simp [Dv]⟩, ⟨by decide, by simp [Dv]⟩, ⟨by decide, by simp [Dv]⟩, ⟨by decide, by simp [Dv]⟩, by decide⟩
theorem WO {s : eQ} (h : fS s ≠ []) : vS s = true := by
 unfold fS at h
 by_cases g : vS s = true
 ·exact g
 ·rw [if_neg g] at h; exact absurd rfl h
theorem WI {b c : UInt8} (h : Oa b ∨ b.toNat = 46 ∨ b.toNat = 32 ∨ b.toNat = 124) (hc : c.toNat = 47) : b ≠ c := by
 rcases h with h | h | h | h
 ·exact Pa h (by omega) (by omega)
 ·intro e; rw [e] at h; omega
 ·intro e; rw [e] at h; omega
 ·intro e; rw [e] at h; omega
theorem adm {l : List aT} : ∀ b ∈ CH l, Oa b ∨ b.toNat = 46 ∨ b.toNat = 32 ∨ b.toNat = 124 := by
 unfold CH
 intro b hb
 rcases Uf hb with hb | ⟨x, hx, hb⟩
 ·right; right; right; rw [hb]; rfl
 ·obtain ⟨r, -, rfl⟩ := List.mem_map.1 hx
  rcases SZ b hb with q | q | q
  ·exact .inl q
  ·exact .inr (.inl q)
  ·exact .inr (.inr (.inl q))
theorem UG {l : List aT} (h : l ≠ []) : kl 124 (CH l) = l.map fun r => kL r.f0 := by
 cases l with
 | nil => exact absurd rfl h
 | cons x l =>
  unfold CH
  rw [List.map_cons]
  refine LK 124 _ _ fun y hy b hb => ?_
  obtain ⟨r, rfl⟩ : ∃ r : aT, y = kL r.f0 := by
   rcases List.mem_cons.1 hy with rfl | hy
   ·exact ⟨x, rfl⟩
   ·obtain ⟨r, -, rfl⟩ := List.mem_map.1 hy; exact ⟨r, rfl⟩
  rcases SZ b hb with q | q | q
  ·exact Pa q (by decide) (by decide)
  ·intro e; rw [e] at q; exact absurd q (by decide)
  ·intro e; rw [e] at q; exact absurd q (by decide)
theorem XU {s : eQ} (h : vS s = true) (h9 : s.f9 < 1000000000) : kl 47 (fS s) = sP s := by
 have V := yI h
 have a := V.pos; have b := V.lp; have c := V.rp; have d := V.ph; have e := V.wr
 have I : ∀ n : Int, 0 ≤ n → n < 1000000000 → ∀ b ∈ fI n, b ≠ 47 := fun n g0 g1 b hb => WI (.inl (Gj ⟨by omega, by omega⟩ b hb)) rfl
 have R : ∀ l : List ah, ∀ b ∈ kL l, b ≠ 47 := fun l b hb => WI (by rcases SZ b hb with q | q | q; exact .inl q; exact .inr (.inl q); exact .inr (.inr (.inl q))) rfl
 unfold fS; rw [if_pos h]
 refine LK 47 _ _ fun y hy => ?_
 simp only [List.mem_cons, List.not_mem_nil, or_false] at hy
 rcases hy with rfl | rfl | rfl | rfl | rfl | rfl | rfl | rfl | rfl | rfl
 ·exact R _
 ·exact I _ (by omega) (by omega)
 ·exact R _
 ·exact R _
 ·exact R _
 ·exact fun b hb => WI (adm b hb) rfl
 ·exact I _ (by omega) (by omega)
 ·exact I _ (by omega) (by omega)
 ·exact I _ (by omega) (by omega)
 ·exact I _ (by omega) (by omega)
theorem fR5 {x : List UInt8} {l : List aT} (hv : ∀ r ∈ l, hH r.f0 = true) (h : x = CH l) (hl : l = vL x) : Kl x = true := by
 unfold Kl
 by_cases hx : x = []
 ·rw [decide_eq_true hx, Bool.true_or]
 ·have hn : l ≠ [] := by
   intro e
   rw [e] at h
   exact hx h
  rw [decide_eq_false hx, Bool.false_or, List.all_eq_true]
  intro y hy
  rw [h, UG hn] at hy
  obtain ⟨r, hr, rfl⟩ := List.mem_map.1 hy
  rw [rP (hv r hr)]
theorem aab {s a0 a1 a2 a3 a4 a5 a6 a7 a8 a9 : List UInt8} (hc : kl 47 s = [a0, a1, a2, a3, a4, a5, a6, a7, a8, a9]) (h : fS (nN a0 a1 a2 a3 a4 a5 a6 a7 a8 a9) = s) : ((iI a0).2 = true ∧ (pI a1).2 = true ∧ (iI a2).2 = true ∧ (iI a3).2 = true ∧ (iI a4).2 = true ∧ Kl a5 = true ∧ (pI a6).2 = true ∧ (pI a7).2 = true ∧ (pI a8).2 = true ∧ (pI a9).2 = true) ∧ vS (nN a0 a1 a2 a3 a4 a5 a6 a7 a8 a9) = true := by
 have v : vS (nN a0 a1 a2 a3 a4 a5 a6 a7 a8 a9) = true := WO (by rw [h]; intro q; rw [q, P9] at hc; simp at hc)
 have V := yI v
 have n9 := Gb a9
 have h' := XU v n9.2
 have b1 := V.pos; have b6 := V.lp; have b7 := V.rp; have b8 := V.ph; have b9 := V.wr
 rw [h, hc] at h'
 unfold sP at h'
 generalize hx : nN a0 a1 a2 a3 a4 a5 a6 a7 a8 a9 = x at *
 have x9 : x.f9 < 1000000000 := by rw [← hx]; exact n9.2
 have x5 : x.f5 = vL a5 := by rw [← hx]; rfl
 injection h' with e0 h'
 injection h' with e1 h'
 injection h' with e2 h'
 injection h' with e3 h'
 injection h' with e4 h'
 injection h' with e5 h'
 injection h' with e6 h'
 injection h' with e7 h'
 injection h' with e8 h'
 injection h' with e9 h'
 have p0 := rP V.vi
 rw [← e0] at p0
 have p1 := lC x.f1 ⟨by omega, by omega⟩
 rw [← e1] at p1
 have p2 := rP V.vh
 rw [← e2] at p2
 have p3 := rP V.vd
 rw [← e3] at p3
 have p4 := rP V.vo
 rw [← e4] at p4
 have p5 := fR5 (fun r hr => (V.vr r hr).1) e5 x5
 have p6 := lC x.f6 ⟨by omega, by omega⟩
 rw [← e6] at p6
 have p7 := lC x.f7 ⟨by omega, by omega⟩
 rw [← e7] at p7
 have p8 := lC x.f8 ⟨by omega, by omega⟩
 rw [← e8] at p8
 have p9 := lC x.f9 ⟨by omega, by omega⟩
 rw [← e9] at p9
 exact ⟨⟨by rw [p0], by rw [p1], by rw [p2], by rw [p3], by rw [p4], p5, by rw [p6], by rw [p7], by rw [p8], by rw [p9]⟩, v⟩
abbrev F9 (s : eQ) (b : Bool) : List ah × Int × List ah × List ah × List ah × List aT × Int × Int × Int × Int × Bool := (s.f0, s.f1, s.f2, s.f3, s.f4, s.f5, s.f6, s.f7, s.f8, s.f9, b)
abbrev xh (s : List UInt8) (x : eQ) : eQ × Bool := if fS x = s then (x, true) else (Dv, false)
theorem D4 {s a0 a1 a2 a3 a4 a5 a6 a7 a8 a9 : List UInt8} (hc : kl 47 s = [a0, a1, a2, a3, a4, a5, a6, a7, a8, a9]) : pS s = xh s (nN a0 a1 a2 a3 a4 a5 a6 a7 a8 a9) := by unfold pS; rw [hc]
theorem Lw {s : List UInt8} (h : (kl 47 s).length ≠ 10) : pS s = (Dv, false) := by
 unfold pS
 split
 ·rename_i hc; rw [hc] at h; exact absurd rfl h
 ·rfl
theorem Tx {α : Type} {l : List α} (h : l.length = 10) : ∃ a0 a1 a2 a3 a4 a5 a6 a7 a8 a9, l = [a0, a1, a2, a3, a4, a5, a6, a7, a8, a9] := by
 match l, h with
 | [a0, a1, a2, a3, a4, a5, a6, a7, a8, a9], _ => exact ⟨a0, a1, a2, a3, a4, a5, a6, a7, a8, a9, rfl⟩
theorem yS (s : List UInt8) (hs : s.length ≤ 1100000) (b : Bool) : Ev (fun k => dD.f k (bT s) b) ((iI s).1, b && (iI s).2) :=
 Ev.u (fun _ => rfl) (Ev.b (AC s (by omega)) (Ev.i (fun h => Ev.p.r (by rw [h]; rfl)) (fun h => Ev.p.r (by rw [eq_false_of_ne_true h]; rfl))))
theorem vN (s : List UInt8) (b : Bool) : Ev (fun k => cx.f k (bT s) b) ((pI s).1, b && (pI s).2) :=
 Ev.u (fun _ => rfl) (Ev.b (sS s) (Ev.i (fun h => Ev.p.r (by rw [h]; rfl)) (fun h => Ev.p.r (by rw [eq_false_of_ne_true h]; rfl))))
theorem xM (s : List UInt8) (hs : s.length ≤ 1100000) : Ev (fun k => jd.f k (bT s)) (F9 (pS s).1 (pS s).2) := by
 have hm := fun x => wI (c := 47) (s := s) (x := x)
 refine Ev.u (fun k => by rw [jd.f]) (Ev.b (vM s (by omega) 47 47 rfl) ?_)
 rw [List.length_map]
 refine Ev.i (fun h10 => ?_) (fun h10 => Ev.p.r (by rw [Lw (by omega)]; rfl))
 obtain ⟨a0, a1, a2, a3, a4, a5, a6, a7, a8, a9, hc⟩ := Tx (l := kl 47 s) (by omega)
 rw [D4 hc]
 rw [hc] at hm
 have r0 : bu ByteArray.empty ([a0, a1, a2, a3, a4, a5, a6, a7, a8, a9].map bT) 0 = bT a0 := rfl
 have r1 : bu ByteArray.empty ([a0, a1, a2, a3, a4, a5, a6, a7, a8, a9].map bT) 1 = bT a1 := rfl
 have r2 : bu ByteArray.empty ([a0, a1, a2, a3, a4, a5, a6, a7, a8, a9].map bT) 2 = bT a2 := rfl
 have r3 : bu ByteArray.empty ([a0, a1, a2, a3, a4, a5, a6, a7, a8, a9].map bT) 3 = bT a3 := rfl
 have r4 : bu ByteArray.empty ([a0, a1, a2, a3, a4, a5, a6, a7, a8, a9].map bT) 4 = bT a4 := rfl
 have r5 : bu ByteArray.empty ([a0, a1, a2, a3, a4, a5, a6, a7, a8, a9].map bT) 5 = bT a5 := rfl
 have r6 : bu ByteArray.empty ([a0, a1, a2, a3, a4, a5, a6, a7, a8, a9].map bT) 6 = bT a6 := rfl
 have r7 : bu ByteArray.empty ([a0, a1, a2, a3, a4, a5, a6, a7, a8, a9].map bT) 7 = bT a7 := rfl
 have r8 : bu ByteArray.empty ([a0, a1, a2, a3, a4, a5, a6, a7, a8, a9].map bT) 8 = bT a8 := rfl
 have r9 : bu ByteArray.empty ([a0, a1, a2, a3, a4, a5, a6, a7, a8, a9].map bT) 9 = bT a9 := rfl
 have ln : ([a0, a1, a2, a3, a4, a5, a6, a7, a8, a9].length : Int) = 10 := rfl
 rw [hc, r0, r1, r2, r3, r4, r5, r6, r7, r8, r9, ln]
 have z0 := hm a0 (by simp)
 have z2 := hm a2 (by simp)
 have z3 := hm a3 (by simp)
 have z4 := hm a4 (by simp)
 have z5 := hm a5 (by simp)
 have W := PP a0 a1 a2 a3 a4 a5 a6 a7 a8 a9 (by omega)
 have h9 : (nN a0 a1 a2 a3 a4 a5 a6 a7 a8 a9).f9 ≤ 9223372036854775807 := by have := (Gb a9).2; show (pI a9).1 ≤ _; omega
 have ev := rS (nN a0 a1 a2 a3 a4 a5 a6 a7 a8 a9) W
 have ef := sT (nN a0 a1 a2 a3 a4 a5 a6 a7 a8 a9) W h9
 have no : ¬ (((iI a0).2 = true ∧ (pI a1).2 = true ∧ (iI a2).2 = true ∧ (iI a3).2 = true ∧ (iI a4).2 = true ∧ Kl a5 = true ∧ (pI a6).2 = true ∧ (pI a7).2 = true ∧ (pI a8).2 = true ∧ (pI a9).2 = true) ∧ vS (nN a0 a1 a2 a3 a4 a5 a6 a7 a8 a9) = true) → F9 Dv false = F9 (xh s (nN a0 a1 a2 a3 a4 a5 a6 a7 a8 a9)).1 (xh s (nN a0 a1 a2 a3 a4 a5 a6 a7 a8 a9)).2 := by
  intro g; rw [xh, if_neg (fun q => g (aab hc q))]
 refine Ev.t (by omega) (Ev.t (by omega) (Ev.t (by omega) (Ev.t (by omega) (Ev.t (by omega) (Ev.b (yS a0 (by omega) true) (Ev.b (vN a1 _) (Ev.b (yS a2 (by omega) _) (Ev.b (yS a3 (by omega) _) (Ev.b (yS a4 (by omega) _) (Ev.t (by omega) ?_))))))))))
 refine Ev.b (JB a5 (by omega)) (Ev.t (by omega) (Ev.t (by omega) (Ev.t (by omega) (Ev.t (by omega) (Ev.b (vN a6 _) (Ev.b (vN a7 _) (Ev.b (vN a8 _) (Ev.b (vN a9 _) ?_))))))))
 dsimp only
 rw [Bool.true_and]
 refine Ev.i (fun g => ?_) (fun g => Ev.p.r (no fun q => g ?_))
 rotate_left
 ·obtain ⟨⟨t0, t1, t2, t3, t4, t5, t6, t7, t8, t9⟩, -⟩ := q
  rw [t0, t1, t2, t3, t4, t6, t7, t8, t9]; rfl
 simp only [Bool.and_eq_true] at g
 by_cases c5 : Kl a5 = true
 ·rw [if_pos c5]
  refine Ev.t rfl (Ev.b ev (Ev.i (fun q4 => Ev.b ef (Ev.i (fun q5 => Ev.p.r ?_) (fun q5 => Ev.p.r ?_))) (fun q4 => Ev.p.r (no fun q => q4 q.2))))
  ·rw [xh, if_pos (Bf ((yb _ _).1 q5))]; rfl
  ·rw [xh, if_neg (fun e => q5 (by rw [e]))]; rfl
 ·rw [if_neg c5]
  exact Ev.e (by decide) (Ev.p.r (no fun q => c5 q.1.2.2.2.2.2.1))
theorem G6 (s : List UInt8) (hs : s.length ≤ 1100000) : Ev (fun k => dn.f k (bT s)) (F9 (pS s).1 (pS s).2) := by
 have hm := fun x => wI (c := 47) (s := s) (x := x)
 refine Ev.u (fun k => by rw [dn.f]) (Ev.b (tu s (by omega) 47 47 rfl) ?_)
 rw [List.length_map]
 refine Ev.i (fun h10 => ?_) (fun h10 => Ev.p.r (by rw [Lw (by omega)]; rfl))
 obtain ⟨a0, a1, a2, a3, a4, a5, a6, a7, a8, a9, hc⟩ := Tx (l := kl 47 s) (by omega)
 rw [D4 hc]
 rw [hc] at hm
 have r0 : bu ByteArray.empty ([a0, a1, a2, a3, a4, a5, a6, a7, a8, a9].map bT) 0 = bT a0 := rfl
 have r1 : bu ByteArray.empty ([a0, a1, a2, a3, a4, a5, a6, a7, a8, a9].map bT) 1 = bT a1 := rfl
 have r2 : bu ByteArray.empty ([a0, a1, a2, a3, a4, a5, a6, a7, a8, a9].map bT) 2 = bT a2 := rfl
 have r3 : bu ByteArray.empty ([a0, a1, a2, a3, a4, a5, a6, a7, a8, a9].map bT) 3 = bT a3 := rfl
 have r4 : bu ByteArray.empty ([a0, a1, a2, a3, a4, a5, a6, a7, a8, a9].map bT) 4 = bT a4 := rfl
 have r5 : bu ByteArray.empty ([a0, a1, a2, a3, a4, a5, a6, a7, a8, a9].map bT) 5 = bT a5 := rfl
 have r6 : bu ByteArray.empty ([a0, a1, a2, a3, a4, a5, a6, a7, a8, a9].map bT) 6 = bT a6 := rfl
 have r7 : bu ByteArray.empty ([a0, a1, a2, a3, a4, a5, a6, a7, a8, a9].map bT) 7 = bT a7 := rfl
 have r8 : bu ByteArray.empty ([a0, a1, a2, a3, a4, a5, a6, a7, a8, a9].map bT) 8 = bT a8 := rfl
 have r9 : bu ByteArray.empty ([a0, a1, a2, a3, a4, a5, a6, a7, a8, a9].map bT) 9 = bT a9 := rfl
 have ln : (([a0, a1, a2, a3, a4, a5, a6, a7, a8, a9].map bT).length : Int) = 10 := rfl
 have ln' : ([a0, a1, a2, a3, a4, a5, a6, a7, a8, a9].length : Int) = 10 := rfl
 have z0 := hm a0 (by simp)
 have z1 := hm a1 (by simp)
 have z2 := hm a2 (by simp)
 have z3 := hm a3 (by simp)
 have z4 := hm a4 (by simp)
 have z5 := hm a5 (by simp)
 have z6 := hm a6 (by simp)
 have z7 := hm a7 (by simp)
 have z8 := hm a8 (by simp)
 have z9 := hm a9 (by simp)
 have W := PP a0 a1 a2 a3 a4 a5 a6 a7 a8 a9 (by omega)
 have h9 : (nN a0 a1 a2 a3 a4 a5 a6 a7 a8 a9).f9 ≤ 9223372036854775807 := by have := (Gb a9).2; show (pI a9).1 ≤ _; omega
 have ef := w9 (nN a0 a1 a2 a3 a4 a5 a6 a7 a8 a9) W h9
 have J : Ev (fun k => dn.j0 k (bT s) ([a0, a1, a2, a3, a4, a5, a6, a7, a8, a9].map bT) [] 0 [] [] [] [] 0 0 0 0 (iI a0).1 (pI a1).1 (iI a2).1 (iI a3).1 (iI a4).1 (vL a5) 0 0 0 0) (F9 (xh s (nN a0 a1 a2 a3 a4 a5 a6 a7 a8 a9)).1 (xh s (nN a0 a1 a2 a3 a4 a5 a6 a7 a8 a9)).2) := by
  refine Ev.s (fun k => by rw [dn.j0]) ?_
  rw [ln, r6, r7, r8, r9]
  refine Ev.t (by omega) (Ev.b (jz a6 (by omega)) (Ev.t (by omega) (Ev.b (jz a7 (by omega)) (Ev.t (by omega) (Ev.b (jz a8 (by omega)) (Ev.t (by omega) (Ev.b (jz a9 (by omega)) (Ev.b ef (Ev.i (fun q5 => Ev.p.r ?_) (fun q5 => Ev.p.r ?_))))))))))
  ·rw [xh, if_pos (Bf ((yb _ _).1 q5))]; rfl
  ·rw [xh, if_neg (fun e => q5 (by rw [e]))]; rfl
 have hl5 := yt 124 a5
 have hm5 := fun x => wI (c := 124) (s := a5) (x := x)
 have L : a5 ≠ [] → ∀ (t : List (List UInt8)) (i : Nat) (B : List aT), (kl 124 a5).drop i = t → B.length ≤ i → B ++ t.map (fun y => (⟨(iI y).1⟩ : aT)) = vL a5 → Ev (fun k => dn.l0 k (bT s) ([a0, a1, a2, a3, a4, a5, a6, a7, a8, a9].map bT) ((kl 124 a5).map bT) (i : Int) [] 0 [] [] [] [] 0 0 0 0 (iI a0).1 (pI a1).1 (iI a2).1 (iI a3).1 (iI a4).1 B 0 0 0 0) (F9 (xh s (nN a0 a1 a2 a3 a4 a5 a6 a7 a8 a9)).1 (xh s (nN a0 a1 a2 a3 a4 a5 a6 a7 a8 a9)).2) := by
  intro hn t
  induction t with
  | nil =>
   intro i B hd hB he
   have := dQ hd
   have : B = vL a5 := by simpa using he
   subst this
   exact Ev.s (fun k => by rw [dn.l0]) (Ev.e (by rw [List.length_map]; omega) J)
  | cons y t ih =>
   intro i B hd hB he
   obtain ⟨hi, hd', hx, -⟩ := cV hd
   have zy := hm5 y (List.mem_of_mem_drop (by rw [hd]; exact List.mem_cons_self ..))
   refine Ev.s (fun k => by rw [dn.l0]) ?_
   rw [ln, r5, Ry, hx, iu hi (by omega)]
   refine Ev.t (by rw [List.length_map]; omega) (Ev.t (by omega) (Ev.e (fun e => hn (Bf ((yb _ _).1 e))) (Ev.t (by omega) (Ev.b (oc y (by omega)) (Ev.t (by omega) ?_)))))
   exact ih (i + 1) (B ++ [⟨(iI y).1⟩]) hd' (by simp; omega) (by rw [← he]; simp)
 have L0 : Ev (fun k => dn.l0 k (bT s) ([a0, a1, a2, a3, a4, a5, a6, a7, a8, a9].map bT) ((kl 124 a5).map bT) 0 [] 0 [] [] [] [] 0 0 0 0 (iI a0).1 (pI a1).1 (iI a2).1 (iI a3).1 (iI a4).1 [] 0 0 0 0) (F9 (xh s (nN a0 a1 a2 a3 a4 a5 a6 a7 a8 a9)).1 (xh s (nN a0 a1 a2 a3 a4 a5 a6 a7 a8 a9)).2) := by
  by_cases hn : a5 = []
  ·have e5 : vL a5 = [] := by unfold vL; rw [if_pos hn]
   rw [e5] at J
   refine Ev.s (fun k => by rw [dn.l0]) ?_
   rw [ln, r5]
   exact Ev.t (by rw [hn, P9]; decide) (Ev.t (by omega) (Ev.t (by rw [hn]; rfl) J))
  ·exact L hn (kl 124 a5) 0 [] rfl (by simp) (by unfold vL; rw [if_neg hn]; rfl)
 rw [hc, r0, r1, r2, r3, r4, r5, ln']
 refine Ev.t (by omega) (Ev.b (oc a0 (by omega)) (Ev.t (by omega) (Ev.b (jz a1 (by omega)) (Ev.t (by omega) (Ev.b (oc a2 (by omega)) (Ev.t (by omega) (Ev.b (oc a3 (by omega)) (Ev.t (by omega) (Ev.b (oc a4 (by omega)) (Ev.t (by omega) (Ev.b (tu a5 (by omega) 124 124 rfl) ?_)))))))))))
 exact L0
theorem aft (s : List UInt8) (hs : s.length ≤ 1100000) : WS (pS s).1 := by
 by_cases h : (kl 47 s).length = 10
 ·obtain ⟨a0, a1, a2, a3, a4, a5, a6, a7, a8, a9, hc⟩ := Tx h
  have z5 : a5.length ≤ s.length := wI (c := 47) (by rw [hc]; simp)
  rw [D4 hc, xh]
  split
  ·exact PP a0 a1 a2 a3 a4 a5 a6 a7 a8 a9 (by omega)
  ·exact KM
 ·rw [Lw h]; exact KM
theorem YD {l : List aT} (hv : ∀ r ∈ l, hH r.f0 = true ∧ r.f0 ≠ []) : vL (CH l) = l := by
 by_cases h : l = []
 ·subst h; rfl
 ·have hc := UG h
  have hn : CH l ≠ [] := by
   intro e
   rw [e, P9] at hc
   cases l with
   | nil => exact h rfl
   | cons r l =>
    rw [List.map_cons] at hc
    injection hc with h0 _
    have hr := hv r (List.mem_cons_self ..)
    have q := rP hr.1
    rw [← h0] at q
    exact hr.2 (congrArg Prod.fst q).symm
  unfold vL
  rw [if_neg hn, hc, List.map_map]
  conv => rhs; rw [← List.map_id l]
  refine List.map_congr_left fun r hr => ?_
  show (⟨(iI (kL r.f0)).1⟩ : aT) = r
  rw [rP (hv r hr).1]
theorem XG {s : eQ} (h : vS s = true) (h9 : s.f9 < 1000000000) : pS (fS s) = (s, true) := by
 have V := yI h
 have hc := XU h h9
 have b1 := V.pos; have b6 := V.lp; have b7 := V.rp; have b8 := V.ph; have b9 := V.wr
 unfold sP at hc
 rw [D4 hc, xh]
 have e : nN (kL s.f0) (fI s.f1) (kL s.f2) (kL s.f3) (kL s.f4) (CH s.f5) (fI s.f6) (fI s.f7) (fI s.f8) (fI s.f9) = s := by
  unfold nN
  rw [rP V.vi, rP V.vh, rP V.vd, rP V.vo, YD V.vr, lC s.f1 ⟨by omega, by omega⟩, lC s.f6 ⟨by omega, by omega⟩, lC s.f7 ⟨by omega, by omega⟩, lC s.f8 ⟨by omega, by omega⟩, lC s.f9 ⟨by omega, by omega⟩]
 rw [e, if_pos rfl]
theorem UB {s : eQ} (h9 : s.f9 ≤ 9223372036854775807) : (fS s).length ≤ 100000 := by
 unfold fS
 split
 ·rename_i h
  have := IK 47 (sP s); have := TJ (yI h) h9; omega
 ·simp
theorem ZM : pS [] = (Dv, false) := rfl
def HO (l : List ah) : List ah → Nat → Int → Int
 | [], _, b => b
 | x :: t, i, b => HO l t (i + 1) (if b < 0 ∨ ee x < ee (aa l b) then (i : Int) else b)
def iM (l : List ah) : Int := HO l l 0 (-1)
theorem XL (l : List ah) : ∀ (t : List ah) (i : Nat) (b : Int), i + t.length = l.length → -1 ≤ b → b < (l.length : Int) → (t = [] → 0 ≤ b) → 0 ≤ HO l t i b ∧ HO l t i b < (l.length : Int)
 | [], i, b, hi, h0, h1, h2 => ⟨h2 rfl, h1⟩
 | x :: t, i, b, hi, h0, h1, h2 => by
  rw [List.length_cons] at hi
  have hc : ∀ c : Int, 0 ≤ c ∧ c < (l.length : Int) → 0 ≤ HO l t (i + 1) c ∧ HO l t (i + 1) c < (l.length : Int) := fun c hc => XL l t (i + 1) c (by omega) (by omega) (by omega) (fun _ => hc.1)
  rw [HO]
  split
  ·exact hc _ ⟨by omega, by omega⟩
  ·exact hc _ ⟨by omega, by omega⟩
theorem WN {l : List ah} (h : l.length ≠ 0) : 0 ≤ iM l ∧ iM l < (l.length : Int) := by
 unfold iM
 exact XL l l 0 (-1) (by omega) (by omega) (by omega) (fun e => by rw [e] at h; exact absurd rfl h)
def Zd (s : eQ) : eQ := { s with f6 := 0, f7 := 0, f8 := if s.f5.length = 0 then 4 else if s.f5.length = 1 then 3 else 2 }
def UE (s : eQ) : eQ := { s with f4 := [], f5 := s.f5 ++ [⟨s.f4⟩] }
def M8 (s : eQ) (r : ah) : eQ := { s with f4 := s.f4 ++ [r], f9 := s.f9 + sU r }
def Cv (s : eQ) (g : Int) : eQ :=
 if s.f1 < s.f0.length ∧ jw s.f2 + jw s.f3 + sU (aa s.f0 s.f1) ≤ g then
  (if Ml (aa s.f0 s.f1) s.f4 = true then { s with f3 := s.f3 ++ [aa s.f0 s.f1], f1 := s.f1 + 1 } else { s with f2 := s.f2 ++ [aa s.f0 s.f1], f1 := s.f1 + 1 })
 else if s.f2.length = 0 then
  (if s.f3.length = 0 then Zd (if s.f4.length = 0 then s else UE s) else { UE s with f2 := s.f3, f3 := [] })
 else M8 { s with f2 := s.f2.take (iM s.f2).toNat ++ s.f2.drop ((iM s.f2).toNat + 1) } (aa s.f2 (iM s.f2))
def Al (s : eQ) : eQ :=
 if s.f6 = (aC s.f5 0).f0.length ∧ s.f7 = (aC s.f5 1).f0.length then Zd (UE { s with f5 := s.f5.drop 2 })
 else if s.f7 = (aC s.f5 1).f0.length ∨ (s.f6 < (aC s.f5 0).f0.length ∧ ¬ ee (aa (aC s.f5 1).f0 s.f7) < ee (aa (aC s.f5 0).f0 s.f6)) then
  M8 { s with f6 := s.f6 + 1 } (aa (aC s.f5 0).f0 s.f6)
 else M8 { s with f7 := s.f7 + 1 } (aa (aC s.f5 1).f0 s.f7)
def Dr (s : eQ) : eQ := { s with f6 := s.f6 + 1, f8 := if s.f6 + 1 = s.f0.length then 4 else 3 }
def w8 (s : eQ) (g : Int) : Bool := vS s && (pk g 8 60 && !decide (s.f8 = 4))
def w7 (s : eQ) (g : Int) : eQ := if w8 s g = true then (if s.f8 = 1 then Cv s g else if s.f8 = 2 then Al s else Dr s) else s
def DR (s : eQ) (g : Int) : List ah := if w8 s g = true then (if s.f8 = 1 then [] else if s.f8 = 2 then [] else [aa (aC s.f5 0).f0 s.f6]) else []
theorem aff : wK cK := ⟨⟨by decide, by decide⟩, ⟨by decide, by decide⟩, by decide, by decide⟩
theorem uP {l : List ah} (hw : ∀ x ∈ l, wK x) (i : Int) : wK (aa l i) := by
 unfold aa
 rw [List.getD_eq_getElem?_getD]
 rcases h : l[i.toNat]? with _ | x
 ·exact aff
 ·exact hw x (List.mem_of_getElem? h)
theorem IG {l : List aT} {m : Nat} (hr : ∀ r ∈ l, r.f0.length ≤ m ∧ ∀ x ∈ r.f0, wK x) (i : Int) : (aC l i).f0.length ≤ m ∧ ∀ x ∈ (aC l i).f0, wK x := by
 unfold aC
 rw [List.getD_eq_getElem?_getD]
 rcases h : l[i.toNat]? with _ | x
 ·exact ⟨by simp [n5], by simp [n5]⟩
 ·exact hr x (List.mem_of_getElem? h)
abbrev Sm (n : Nat) (l : List ah) : Prop := l.length ≤ n ∧ ∀ x ∈ l, wK x
theorem Sm.le {n m : Nat} {l : List ah} (h : Sm n l) (hn : n ≤ m) : Sm m l := ⟨Nat.le_trans h.1 hn, h.2⟩
theorem Sm.nil {n : Nat} : Sm n [] := ⟨Nat.zero_le _, by simp⟩
theorem Sm.snoc {n : Nat} {l : List ah} {x : ah} (h : Sm n l) (hx : wK x) : Sm (n + 1) (l ++ [x]) := by
 refine ⟨by rw [List.length_append, List.length_singleton]; have := h.1; omega, fun y hy => ?_⟩
 rcases List.mem_append.1 hy with q | q
 ·exact h.2 y q
 ·rw [List.mem_singleton.1 q]; exact hx
theorem Sm.out {n : Nat} {l : List ah} (h : Sm n l) (i : Nat) : Sm n (l.take i ++ l.drop (i + 1)) := by
 refine ⟨by rw [List.length_append, List.length_take, List.length_drop]; have := h.1; omega, fun y hy => ?_⟩
 rcases List.mem_append.1 hy with q | q
 ·exact h.2 y (List.mem_of_mem_take q)
 ·exact h.2 y (List.mem_of_mem_drop q)
structure BS (n : Nat) (s : eQ) : Prop where
 i : Sm n s.f0
 h : Sm n s.f2
 d : Sm n s.f3
 o : Sm n s.f4
 r : s.f5.length ≤ n ∧ ∀ r ∈ s.f5, Sm n r.f0
theorem XR {n : Nat} : ∀ l : List aT, (∀ r ∈ l, r.f0.length ≤ n) → (ke l).length ≤ n * l.length
 | [], _ => by simp [ke]
 | r :: l, h => by
  have h1 := h r (List.mem_cons_self ..)
  have h2 := XR l (fun q hq => h q (List.mem_cons_of_mem _ hq))
  rw [ke, List.length_append, List.length_cons, Nat.mul_add]; omega
theorem BS.W {n : Nat} {s : eQ} (B : BS n s) (hn : n ≤ 100) : WS s := by
 have f := XR s.f5 (fun r q => (B.r.2 r q).1)
 have g : n * s.f5.length ≤ 100 * 100 := Nat.mul_le_mul hn (Nat.le_trans B.r.1 hn)
 exact ⟨B.i.le (by omega), B.h.le (by omega), B.d.le (by omega), B.o.le (by omega), ⟨by have := B.r.1; omega, fun r q => (B.r.2 r q).le (by omega)⟩, by omega⟩
theorem BS.up {n m : Nat} {s : eQ} (B : BS n s) (h : n ≤ m) : BS m s := ⟨B.i.le h, B.h.le h, B.d.le h, B.o.le h, ⟨Nat.le_trans B.r.1 h, fun r q => (B.r.2 r q).le h⟩⟩
theorem VF.B {s : eQ} (V : VF s) (W : WS s) : BS 24 s :=
 ⟨⟨iH V.vi, W.i.2⟩, ⟨iH V.vh, W.h.2⟩, ⟨iH V.vd, W.d.2⟩, ⟨iH V.vo, W.o.2⟩, ⟨V.rn, fun r q => ⟨iH (V.vr r q).1, (W.r.2 r q).2⟩⟩⟩
theorem Xb {n : Nat} {s : eQ} (B : BS n s) : BS n (Zd s) := ⟨B.i, B.h, B.d, B.o, B.r⟩
theorem S3 {n : Nat} {s : eQ} (B : BS n s) : BS (n + 1) (UE s) := by
 refine ⟨B.i.le (by omega), B.h.le (by omega), B.d.le (by omega), Sm.nil, ⟨?_, fun r q => ?_⟩⟩
 ·show (s.f5 ++ [_]).length ≤ _; rw [List.length_append, List.length_singleton]; have := B.r.1; omega
 ·rcases List.mem_append.1 q with q | q
  ·exact (B.r.2 r q).le (by omega)
  ·rw [List.mem_singleton.1 q]; exact B.o.le (by omega)
theorem PH {n : Nat} {s : eQ} {x : ah} (B : BS n s) (hx : wK x) : BS (n + 1) (M8 s x) :=
 ⟨B.i.le (by omega), B.h.le (by omega), B.d.le (by omega), B.o.snoc hx, ⟨by have := B.r.1; show s.f5.length ≤ _; omega, fun r q => (B.r.2 r q).le (by omega)⟩⟩
theorem PF {s : eQ} {g : Int} (B : BS 24 s) : BS 25 (Cv s g) ∧ (Cv s g).f9 ≤ s.f9 + 4 := by
 have B5 : BS 25 s := B.up (by omega)
 unfold Cv
 split
 ·split
  ·exact ⟨⟨B5.i, B5.h, B.d.snoc (uP B.i.2 _), B5.o, B5.r⟩, by show s.f9 ≤ _; omega⟩
  ·exact ⟨⟨B5.i, B.h.snoc (uP B.i.2 _), B5.d, B5.o, B5.r⟩, by show s.f9 ≤ _; omega⟩
 ·split
  ·split
   ·refine ⟨Xb ?_, ?_⟩
    ·split
     ·exact B5
     ·exact S3 B
    ·split
     ·show s.f9 ≤ _; omega
     ·show s.f9 ≤ _; omega
   ·have E := S3 B
    exact ⟨⟨E.i, B5.d, Sm.nil, E.o, E.r⟩, by show s.f9 ≤ _; omega⟩
  ·have C : BS 24 { s with f2 := s.f2.take (iM s.f2).toNat ++ s.f2.drop ((iM s.f2).toNat + 1) } := ⟨B.i, B.h.out _, B.d, B.o, B.r⟩
   refine ⟨PH C (uP B.h.2 _), ?_⟩
   have := (o5 (aa s.f2 (iM s.f2))).2
   show s.f9 + _ ≤ _; omega
theorem PQ {s : eQ} (B : BS 24 s) : BS 25 (Al s) ∧ (Al s).f9 ≤ s.f9 + 4 := by
 unfold Al
 split
 ·have C : BS 24 { s with f5 := s.f5.drop 2 } := ⟨B.i, B.h, B.d, B.o, ⟨by have := B.r.1; show (s.f5.drop 2).length ≤ _; rw [List.length_drop]; omega, fun r q => B.r.2 r (List.mem_of_mem_drop q)⟩⟩
  exact ⟨Xb (S3 C), by show s.f9 ≤ _; omega⟩
 ·split
  ·have C : BS 24 { s with f6 := s.f6 + 1 } := ⟨B.i, B.h, B.d, B.o, B.r⟩
   have := (o5 (aa (aC s.f5 0).f0 s.f6)).2
   exact ⟨PH C (uP (IG B.r.2 _).2 _), by show s.f9 + _ ≤ _; omega⟩
  ·have C : BS 24 { s with f7 := s.f7 + 1 } := ⟨B.i, B.h, B.d, B.o, B.r⟩
   have := (o5 (aa (aC s.f5 1).f0 s.f7)).2
   exact ⟨PH C (uP (IG B.r.2 _).2 _), by show s.f9 + _ ≤ _; omega⟩
theorem ac9 {s : eQ} {g : Int} (B : BS 50 s) : BS 50 (w7 s g) ∧ (w7 s g).f9 ≤ s.f9 + 4 := by
 unfold w7
 split
 ·rename_i h
  have hv : vS s = true := by unfold w8 at h; rw [Bool.and_eq_true] at h; exact h.1
  have C := (yI hv).B (B.W (by omega))
  split
  ·exact ⟨(PF C).1.up (by omega), (PF C).2⟩
  ·split
   ·exact ⟨(PQ C).1.up (by omega), (PQ C).2⟩
   ·exact ⟨⟨B.i, B.h, B.d, B.o, B.r⟩, by show s.f9 ≤ _; omega⟩
 ·exact ⟨B, by omega⟩
theorem TH {s : eQ} {g : Int} (B : BS 60 s) : BS 60 (w7 s g) := by
 unfold w7
 split
 ·rename_i h
  have hv : vS s = true := by unfold w8 at h; rw [Bool.and_eq_true] at h; exact h.1
  have C := (yI hv).B (B.W (by omega))
  split
  ·exact (PF C).1.up (by omega)
  ·split
   ·exact (PQ C).1.up (by omega)
   ·exact ⟨B.i, B.h, B.d, B.o, B.r⟩
 ·exact B
abbrev tS (s : eQ) : List ah × Int × List ah × List ah × List ah × List aT × Int × Int × Int × Int := (s.f0, s.f1, s.f2, s.f3, s.f4, s.f5, s.f6, s.f7, s.f8, s.f9)
abbrev GQ (s : eQ) (e : List ah) (b : Bool) : List ah × Int × List ah × List ah × List ah × List aT × Int × Int × Int × Int × List ah × Bool := (s.f0, s.f1, s.f2, s.f3, s.f4, s.f5, s.f6, s.f7, s.f8, s.f9, e, b)
theorem JC (l : List aT) (hl : l.length ≤ 1099511627776) (hr : ∀ r ∈ l, r.f0.length ≤ 1099511627776) : Ev (fun k => gF.f k l) l := by
 have L : ∀ (s : List aT) (i : Nat) (a : List aT), l.drop i = s → a.length ≤ i → Ev (fun k => gF.l0 k a (l.length : Int) (i : Int) l) (a ++ s) := by
  intro s
  induction s with
  | nil =>
   intro i a hd ha
   have := dQ hd
   exact Ev.s (fun k => by rw [gF.l0]) (Ev.e (by omega) (Ev.p.r (by simp)))
  | cons x s ih =>
   intro i a hd ha
   obtain ⟨hi, hd', hx, -⟩ := cV hd
   have hm := hr x (List.mem_of_mem_drop (i := i) (by rw [hd]; exact List.mem_cons_self ..))
   refine Ev.s (fun k => by rw [gF.l0]) (Ev.t (by omega) (Ev.t (by omega) (Ev.t (by omega) ?_)))
   rw [uS, hx, iu hi (by omega)]
   refine Ev.b (Ev.c (nO x.f0 (by omega))) (Ev.t (by omega) ?_)
   exact (ih (i + 1) (a ++ [x]) hd' (by simp; omega)).r (by simp)
 exact Ev.u (fun _ => rfl) ((L l 0 [] rfl (by simp)).r (by simp))
theorem Lp (l : List aT) (hl : l.length ≤ 1099511627776) (hr : ∀ r ∈ l, r.f0.length ≤ 1099511627776) : Ev (fun k => ic.f k l) l := by
 have L : ∀ (s : List aT) (i : Nat) (a : List aT), l.drop i = s → a.length ≤ i → Ev (fun k => ic.l0 k a (i : Int) l) (a ++ s) := by
  intro s
  induction s with
  | nil =>
   intro i a hd ha
   have := dQ hd
   exact Ev.s (fun k => by rw [ic.l0]) (Ev.e (by omega) (Ev.p.r (by simp)))
  | cons x s ih =>
   intro i a hd ha
   obtain ⟨hi, hd', hx, -⟩ := cV hd
   have hm := hr x (List.mem_of_mem_drop (i := i) (by rw [hd]; exact List.mem_cons_self ..))
   refine Ev.s (fun k => by rw [ic.l0]) (Ev.t (by omega) (Ev.t (by omega) ?_))
   rw [uS, hx, iu hi (by omega)]
   refine Ev.t (by omega) (Ev.t (by omega) ?_)
   exact (ih (i + 1) (a ++ [x]) hd' (by simp; omega)).r (by simp)
 exact Ev.u (fun _ => rfl) ((L l 0 [] rfl (by simp)).r (by simp))
theorem Ha (s : eQ) (W : WS s) : Ev (fun k => mr.f k s.f0 s.f1 s.f2 s.f3 s.f4 s.f5 s.f6 s.f7 s.f8 s.f9) (s.f0, s.f1, s.f2, s.f3, s.f4, s.f5, s.f6, s.f7, s.f8, s.f9) := by
 have a := W.i.1; have b := W.h.1; have c := W.d.1; have d := W.o.1; have e := W.r.1
 exact Ev.u (fun _ => rfl) (Ev.b (Ev.c (nO s.f0 (by omega))) (Ev.b (Ev.c (nO s.f2 (by omega))) (Ev.b (Ev.c (nO s.f3 (by omega))) (Ev.b (Ev.c (nO s.f4 (by omega))) (Ev.b (JC s.f5 (by omega) (fun r q => by have := (W.r.2 r q).1; omega)) Ev.p)))))
theorem Dd (s : eQ) (W : WS s) : Ev (fun k => mR.f k s.f0 s.f1 s.f2 s.f3 s.f4 s.f5 s.f6 s.f7 s.f8 s.f9) (s.f0, s.f1, s.f2, s.f3, s.f4, s.f5, s.f6, s.f7, s.f8, s.f9) := by
 have a := W.i.1; have b := W.h.1; have c := W.d.1; have d := W.o.1; have e := W.r.1
 exact Ev.u (fun _ => rfl) (Ev.t (by omega) (Ev.t (by omega) (Ev.t (by omega) (Ev.t (by omega) (Ev.b (Lp s.f5 (by omega) (fun r q => by have := (W.r.2 r q).1; omega)) Ev.p)))))
theorem HM (l : List ah) (hl : l.length ≤ 1099511627776) (hw : ∀ x ∈ l, wK x) : ∀ (t : List ah) (i : Nat) (b : Int), l.drop i = t → -1 ≤ b → b < (l.length : Int) → Ev (fun k => dS.l0 k b (l.length : Int) (i : Int) l) (HO l t i b) := by
 intro t
 induction t with
 | nil =>
  intro i b hd h0 h1
  have := dQ hd
  refine Ev.s (fun k => by rw [dS.l0]) ?_
  exact Ev.e (by omega) (Ev.p.r rfl)
 | cons x t ih =>
  intro i b hd h0 h1
  obtain ⟨hi, hd', hx, -⟩ := cV hd
  have wx : wK x := hw x (List.mem_of_mem_drop (i := i) (by rw [hd]; exact List.mem_cons_self ..))
  have wb := uP hw b
  refine Ev.s (fun k => by rw [dS.l0]) (Ev.t (by omega) (Ev.t (by omega) (Ev.t (by omega) ?_)))
  rw [rO, hx, iu hi (by omega), HO]
  refine Ev.i (fun c => ?_) (fun c => ?_)
  ·rw [if_pos (.inl c)]; exact ih (i + 1) _ hd' (by omega) (by omega)
  ·refine Ev.t (by omega) (Ev.t (by omega) ?_)
   obtain ⟨v, ev, h, -⟩ := kp wx wb
   refine Ev.b (Ev.c ev) ?_
   refine Ev.i (fun q => ?_) (fun q => ?_)
   ·rw [if_pos (.inr (h.1 q))]; exact ih (i + 1) _ hd' (by omega) (by omega)
   ·rw [if_neg (fun z => z.elim c (fun z => q (h.2 z)))]; exact ih (i + 1) _ hd' h0 h1
theorem zS (l : List ah) (hl : l.length ≤ 1099511627776) (hw : ∀ x ∈ l, wK x) (hn : l.length ≠ 0) : Ev (fun k => dS.f k l) (iM l) :=
 Ev.u (fun k => by rw [dS.f]; rfl) (HM l hl hw l 0 (-1) rfl (by omega) (by omega))
theorem HD (l : List ah) (hl : l.length ≤ 1099511627776) (hw : ∀ x ∈ l, wK x) : ∀ (t : List ah) (i : Nat) (b : Int), l.drop i = t → -1 ≤ b → b < (l.length : Int) → Ev (fun k => fv.l0 k b (i : Int) l) (HO l t i b) := by
 intro t
 induction t with
 | nil =>
  intro i b hd h0 h1
  have := dQ hd
  refine Ev.s (fun k => by rw [fv.l0]) ?_
  exact Ev.e (by omega) (Ev.p.r rfl)
 | cons x t ih =>
  intro i b hd h0 h1
  obtain ⟨hi, hd', hx, -⟩ := cV hd
  have wx : wK x := hw x (List.mem_of_mem_drop (i := i) (by rw [hd]; exact List.mem_cons_self ..))
  have wb := uP hw b
  refine Ev.s (fun k => by rw [fv.l0]) (Ev.t (by omega) ?_)
  rw [rO, hx, iu hi (by omega), HO]
  refine Ev.i (fun c => ?_) (fun c => ?_)
  ·rw [if_pos (.inl c)]; exact ih (i + 1) _ hd' (by omega) (by omega)
  ·refine Ev.t (by omega) (Ev.t (by omega) (Ev.t (by omega) (Ev.b (jm x (aa l b)) ?_)))
   refine Ev.i (fun q => ?_) (fun q => ?_)
   ·rw [if_pos (.inr ((Bk wx wb).1 q))]; exact ih (i + 1) _ hd' (by omega) (by omega)
   ·rw [if_neg (fun z => z.elim c (fun z => q ((Bk wx wb).2 z)))]; exact ih (i + 1) _ hd' h0 h1
theorem HE (l : List ah) (hl : l.length ≤ 1099511627776) (hw : ∀ x ∈ l, wK x) (hn : l.length ≠ 0) : Ev (fun k => fv.f k l) (iM l) :=
 Ev.u (fun k => by rw [fv.f]; rfl) (HD l hl hw l 0 (-1) rfl (by omega) (by omega))
abbrev ZN (l : List ah) (i : Int) : List ah := l.take i.toNat ++ l.drop (i.toNat + 1)
theorem Zc {i : Int} (h0 : 0 ≤ i) (h1 : i ≤ 1099511627776) : (wrap64 (i + 1)).toNat = i.toNat + 1 := by rw [eC (by omega) (by omega)]; omega
theorem GT (l : List ah) (i : Int) (hl : l.length ≤ 33554432) (h0 : 0 ≤ i) (h1 : i < (l.length : Int)) : jU.f l i = some (ZN l i) := by
 have e : wrap64 (i + 1) = i + 1 := eC (by omega) (by omega)
 unfold jU.f
 rw [if_pos h0, if_pos (by omega), ob (nO _ (by rw [List.length_take]; omega)), if_pos (by omega), if_pos (by omega), if_pos (by rw [List.length_take, List.length_drop]; omega), Zc h0 (by omega)]
theorem Lq (l : List ah) (i : Int) (hl : l.length ≤ 33554432) (h0 : 0 ≤ i) (h1 : i < (l.length : Int)) : oR.f l i = some (ZN l i) := by
 have e : wrap64 (i + 1) = i + 1 := eC (by omega) (by omega)
 unfold oR.f
 rw [if_pos h0, if_pos (by omega), if_pos (by omega), if_pos (by omega), if_pos (by rw [List.length_take]; omega), if_pos (by rw [List.length_take, List.length_drop]; omega), Zc h0 (by omega)]
theorem rR (a : List ah) (b : Int) (c d e : List ah) (f : List aT) (g h i j : Int) (hl : f.length ≤ 33554432) : gJ.f a b c d e f g h i j = some (a, c, d, [], f ++ [⟨e⟩], b, g, h, i, j) := by
 unfold gJ.f; rw [if_pos (by omega)]
abbrev PK (n : Nat) : Int := if n = 0 then 4 else if n = 1 then 3 else 2
theorem od (a : List ah) (b : Int) (c d e : List ah) (f : List aT) (g h i j : Int) : ez.f a b c d e f g h i j = some (b, 0, 0, PK f.length, j) := by
 unfold ez.f PK
 by_cases q : f.length = 0
 ·rw [if_pos (by omega), if_pos q]
 ·rw [if_neg (by omega), if_neg q]
  by_cases r : f.length = 1
  ·rw [if_pos (by omega), if_pos r]
  ·rw [if_neg (by omega), if_neg r]
theorem Dc (a : List ah) (b : Int) (c d e : List ah) (f : List aT) (g h i j : Int) : Ev (fun k => gD.f k a b c d e f g h i j) (a, b, c, d, e, f, 0, 0, PK f.length, j) := by
 refine Ev.u (fun k => by rw [gD.f]) (Ev.i (fun q => ?_) (fun q => ?_))
 ·refine Ev.s (fun k => by rw [gD.j0]) (Ev.e (by omega) (Ev.p.r ?_))
  rw [PK, if_neg (by omega), if_pos (by omega)]
 ·refine Ev.s (fun k => by rw [gD.j0]) (Ev.i (fun r => Ev.p.r ?_) (fun r => Ev.p.r ?_))
  ·rw [PK, if_pos (by omega)]
  ·rw [PK, if_neg (by omega), if_neg (by omega)]
theorem fZ (e : List ah) (y0 : List ah) (y1 : Int) (y2 y3 y4 : List ah) (y5 : List aT) (y6 y7 y8 y9 : Int) (x0 : List ah) (x1 : Int) (x2 x3 x4 : List ah) (x5 : List aT) (x6 x7 x8 x9 : Int) : Ev (fun k => bi.j0 k e y0 y1 y2 y3 y4 y5 y6 y7 y8 y9 x0 x1 x2 x3 x4 x5 x6 x7 x8 x9) (x0, x1, x2, x3, x4, x5, x6, x7, x8, x9, e, true) := Ev.s (fun k => by rw [bi.j0]) Ev.p
theorem zR (e : List ah) (y0 : List ah) (y1 : Int) (y2 y3 y4 : List ah) (y5 : List aT) (y6 y7 y8 y9 : Int) (x0 : List ah) (x1 : Int) (x2 x3 x4 : List ah) (x5 : List aT) (x6 x7 x8 x9 : Int) (h1 : -1000000 ≤ x1 ∧ x1 ≤ 1000000) : Ev (fun k => bi.j1 k e y0 y1 y2 y3 y4 y5 y6 y7 y8 y9 x0 x1 x2 x3 x4 x5 x6 x7 x8 x9) (x0, x1 + 1, x2, x3, x4, x5, x6, x7, x8, x9, e, true) := by
 refine Ev.s (fun k => by rw [bi.j1]) ?_
 rw [eC (by omega) (by omega)]
 exact fZ ..
theorem ux (y0 : List ah) (y1 : Int) (y2 y3 y4 : List ah) (y5 : List aT) (y6 y7 y8 y9 : Int) (x0 : List ah) (x1 : Int) (x2 x3 x4 : List ah) (x5 : List aT) (x6 x7 x8 x9 : Int) : Ev (fun k => bz.j2 k y0 y1 y2 y3 y4 y5 y6 y7 y8 y9 x0 x1 x2 x3 x4 x5 x6 x7 x8 x9) (x0, x1, x2, x3, x4, x5, x6, x7, x8, x9, [], true) := Ev.s (fun k => by rw [bz.j2]) Ev.p
theorem qr (y0 : List ah) (y1 : Int) (y2 y3 y4 : List ah) (y5 : List aT) (y6 y7 y8 y9 : Int) (x0 : List ah) (x1 : Int) (x2 x3 x4 : List ah) (x5 : List aT) (x6 x7 x8 x9 : Int) : Ev (fun k => bz.j3 k y0 y1 y2 y3 y4 y5 y6 y7 y8 y9 x0 x1 x2 x3 x4 x5 x6 x7 x8 x9) (x0, x1, x2, x3, x4, x5, x6, x7, x8, x9, [], true) := Ev.s (fun k => by rw [bz.j3]) Ev.p
theorem qs (y0 : List ah) (y1 : Int) (y2 y3 y4 : List ah) (y5 : List aT) (y6 y7 y8 y9 : Int) (x0 : List ah) (x1 : Int) (x2 x3 x4 : List ah) (x5 : List aT) (x6 x7 x8 x9 : Int) : Ev (fun k => bz.j1 k y0 y1 y2 y3 y4 y5 y6 y7 y8 y9 x0 x1 x2 x3 x4 x5 x6 x7 x8 x9) (x0, x1, x2, x3, x4, x5, 0, 0, PK x5.length, x9, [], true) := Ev.s (fun k => by rw [bz.j1]) (Ev.b (Dc ..) Ev.p)
theorem Tt {s : eQ} (h : vS s = true) : 0 ≤ s.f1 ∧ s.f1 ≤ (s.f0.length : Int) := by
 unfold vS at h
 simp only [Bool.and_eq_true] at h
 exact of_decide_eq_true h.2.1
theorem Tv {s : eQ} (h : vS s = true) (h8 : s.f8 = 2) : 2 ≤ s.f5.length ∧ (0 ≤ s.f6 ∧ s.f6 ≤ ((aC s.f5 0).f0.length : Int)) ∧ (0 ≤ s.f7 ∧ s.f7 ≤ ((aC s.f5 1).f0.length : Int)) := by
 unfold vS at h
 simp only [Bool.and_eq_true] at h
 have ht := h.2.2.2.2.2.2
 unfold GP at ht
 rw [if_neg (by omega), if_pos h8] at ht
 simp only [Pn, Bool.and_eq_true] at ht
 exact ⟨of_decide_eq_true ht.2.2.2.2.1, of_decide_eq_true ht.2.2.2.2.2.1, of_decide_eq_true ht.2.2.2.2.2.2.1⟩
theorem Tu {s : eQ} (h : vS s = true) (h8 : s.f8 = 3) : 0 < s.f5.length ∧ 0 ≤ s.f6 ∧ s.f6 < ((aC s.f5 0).f0.length : Int) := by
 unfold vS at h
 simp only [Bool.and_eq_true] at h
 have ht := h.2.2.2.2.2.2
 unfold GP at ht
 rw [if_neg (by omega), if_neg (by omega), if_pos h8] at ht
 simp only [Ld, Bool.and_eq_true] at ht
 have e1 := of_decide_eq_true ht.2.2.2.2.1
 have e2 := of_decide_eq_true ht.2.2.2.2.2.1
 have pl := (Ky ht.2.2.2.1).length_eq
 rcases h5 : s.f5 with _ | ⟨a, _ | ⟨b, t⟩⟩
 ·rw [h5] at e1; simp at e1
 ·rw [h5, ke, ke, List.append_nil] at pl
  refine ⟨by simp, e2.1, ?_⟩
  show s.f6 < (a.f0.length : Int)
  omega
 ·rw [h5] at e1; simp at e1
theorem zO {s : eQ} {g : Int} : w8 s g = true ↔ vS s = true ∧ pk g 8 60 = true ∧ ¬ s.f8 = 4 := by
 unfold w8
 rw [Bool.and_eq_true, Bool.and_eq_true, Bool.not_eq_true', decide_eq_false_iff_not]
theorem IE {s : eQ} {g : Int} (h : ¬ w8 s g = true) : GQ s [] false = GQ (w7 s g) (DR s g) (w8 s g) := by
 unfold w7 DR
 rw [if_neg h, if_neg h, eq_false_of_ne_true h]
theorem Xv {s : eQ} {g : Int} (h : w8 s g = true) (h8 : s.f8 = 1) : GQ (Cv s g) [] true = GQ (w7 s g) (DR s g) (w8 s g) := by
 unfold w7 DR
 rw [if_pos h, if_pos h, if_pos h8, if_pos h8, h]
theorem Xw {s : eQ} {g : Int} (h : w8 s g = true) (h8 : s.f8 = 2) : GQ (Al s) [] true = GQ (w7 s g) (DR s g) (w8 s g) := by
 unfold w7 DR
 have n1 : ¬ s.f8 = 1 := by omega
 rw [if_pos h, if_pos h, if_neg n1, if_pos h8, if_neg n1, if_pos h8, h]
theorem Xx {s : eQ} {g : Int} (h : w8 s g = true) (h8 : s.f8 = 3) : GQ (Dr s) [aa (aC s.f5 0).f0 s.f6] true = GQ (w7 s g) (DR s g) (w8 s g) := by
 unfold w7 DR
 have n1 : ¬ s.f8 = 1 := by omega
 have n2 : ¬ s.f8 = 2 := by omega
 rw [if_pos h, if_pos h, if_neg n1, if_neg n2, if_neg n1, if_neg n2, h]
theorem SU (g : Int) : oV.f g = some (pk g 8 60) := by unfold oV.f; rw [ob (pX g 8 60)]
theorem HK (s : eQ) (g : Int) (W : WS s) (h9 : s.f9 ≤ 1000000000) : Ev (fun k => bi.f k s.f0 s.f1 s.f2 s.f3 s.f4 s.f5 s.f6 s.f7 s.f8 s.f9 g) (GQ (w7 s g) (DR s g) (w8 s g)) := by
 refine Ev.u (fun k => by rw [bi.f]) (Ev.b (Ha s W) ?_)
 dsimp only
 refine Ev.b (rS s W) (Ev.i (fun hv => ?_) (fun hv => Ev.p.r (IE fun q => hv (zO.1 q).1)))
 refine Ev.b (Ev.c (SU g)) (Ev.i (fun hg => ?_) (fun hg => Ev.p.r (IE fun q => hg (zO.1 q).2.1)))
 refine Ev.i (fun c4 => Ev.p.r (IE fun q => (zO.1 q).2.2 c4)) (fun c4 => ?_)
 have O : w8 s g = true := zO.2 ⟨hv, hg, c4⟩
 have hg' := of_decide_eq_true hg
 have V := yI hv
 have B := V.B W
 have P1 := Tt hv
 have l0 := B.i.1; have l2 := B.h.1; have l3 := B.d.1; have l4 := B.o.1; have l5 := B.r.1
 have v6 := V.lp; have v7 := V.rp; have v8 := V.ph; have v9 := V.wr
 have t2 := uQ s.f2; have t3 := uQ s.f3
 refine Ev.i (fun c1 => ?_) (fun c1 => ?_)
 ·rw [← Xv O c1]
  refine Ev.i (fun cp => ?_) (fun cp => ?_)
  ·have cr := o5 (aa s.f0 s.f1)
   refine Ev.t (by omega) (Ev.b (Dh s W c1) (Ev.b (Ev.c (qu _)) ?_))
   rw [eC (by omega) (by omega)]
   refine Ev.i (fun cg => ?_) (fun cg => ?_)
   ·have M : Cv s g = _ := if_pos ⟨cp, cg⟩
    rw [M]
    have wx : wK (aa s.f0 s.f1) := uP W.i.2 _
    refine Ev.b (Ev.c (GU (aa s.f0 s.f1) s.f4 (by omega) wx W.o.2)) (Ev.i (fun cb => ?_) (fun cb => ?_))
    ·rw [if_pos cb]
     exact Ev.t (by omega) ((zR _ _ _ _ _ _ _ _ _ _ _ _ _ _ _ _ _ _ _ _ _ ⟨by omega, by omega⟩).r rfl)
    ·rw [if_neg cb]
     exact Ev.t (by omega) ((zR _ _ _ _ _ _ _ _ _ _ _ _ _ _ _ _ _ _ _ _ _ ⟨by omega, by omega⟩).r rfl)
   ·have nr : ¬ (s.f1 < s.f0.length ∧ jw s.f2 + jw s.f3 + sU (aa s.f0 s.f1) ≤ g) := fun q => cg q.2
    have M : Cv s g = _ := if_neg nr
    rw [M]
    by_cases h2 : s.f2.length = 0
    ·rw [if_pos h2]
     by_cases h3 : s.f3.length = 0
     ·rw [if_pos h3]
      by_cases h4 : s.f4.length = 0
      ·rw [if_pos h4]
       exact Ev.t (by omega) (Ev.e (by omega) (Ev.e (by omega) (Ev.e (by omega) (Ev.b (Ev.c (od ..)) ((fZ ..).r rfl)))))
      ·rw [if_neg h4]
       exact Ev.t (by omega) (Ev.e (by omega) (Ev.e (by omega) (Ev.t (by omega) (Ev.b (Ev.c (rR _ _ _ _ _ _ _ _ _ _ (by omega))) (Ev.b (Ev.c (od ..)) ((fZ ..).r rfl))))))
     ·rw [if_neg h3]
      exact Ev.t (by omega) (Ev.t (by omega) (Ev.b (Ev.c (rR _ _ _ _ _ _ _ _ _ _ (by omega))) ((fZ ..).r rfl)))
    ·rw [if_neg h2]
     have m := WN h2
     have cr := o5 (aa s.f2 (iM s.f2))
     refine Ev.e (by omega) (Ev.t (by omega) (Ev.b (zS s.f2 (by omega) W.h.2 h2) (Ev.t (by omega) (Ev.t (by omega) (Ev.b (Ev.c (GT s.f2 _ (by omega) m.1 m.2)) (Ev.t (by omega) (Ev.b (Ev.c (qu _)) ?_)))))))
     rw [eC (by omega) (by omega)]
     exact (fZ ..).r rfl
  ·have nr : ¬ (s.f1 < s.f0.length ∧ jw s.f2 + jw s.f3 + sU (aa s.f0 s.f1) ≤ g) := fun q => cp q.1
   have M : Cv s g = _ := if_neg nr
   rw [M]
   by_cases h2 : s.f2.length = 0
   ·rw [if_pos h2]
    by_cases h3 : s.f3.length = 0
    ·rw [if_pos h3]
     by_cases h4 : s.f4.length = 0
     ·rw [if_pos h4]
      exact Ev.t (by omega) (Ev.e (by omega) (Ev.e (by omega) (Ev.e (by omega) (Ev.b (Ev.c (od ..)) ((fZ ..).r rfl)))))
     ·rw [if_neg h4]
      exact Ev.t (by omega) (Ev.e (by omega) (Ev.e (by omega) (Ev.t (by omega) (Ev.b (Ev.c (rR _ _ _ _ _ _ _ _ _ _ (by omega))) (Ev.b (Ev.c (od ..)) ((fZ ..).r rfl))))))
    ·rw [if_neg h3]
     exact Ev.t (by omega) (Ev.t (by omega) (Ev.b (Ev.c (rR _ _ _ _ _ _ _ _ _ _ (by omega))) ((fZ ..).r rfl)))
   ·rw [if_neg h2]
    have m := WN h2
    have cr := o5 (aa s.f2 (iM s.f2))
    refine Ev.e (by omega) (Ev.t (by omega) (Ev.b (zS s.f2 (by omega) W.h.2 h2) (Ev.t (by omega) (Ev.t (by omega) (Ev.b (Ev.c (GT s.f2 _ (by omega) m.1 m.2)) (Ev.t (by omega) (Ev.b (Ev.c (qu _)) ?_)))))))
    rw [eC (by omega) (by omega)]
    exact (fZ ..).r rfl
 ·refine Ev.i (fun c2 => ?_) (fun c2 => ?_)
  ·rw [← Xw O c2]
   obtain ⟨p5, p6, p7⟩ := Tv hv c2
   have wa : ∀ x ∈ (aC s.f5 0).f0, wK x := (IG B.r.2 0).2
   have wb : ∀ x ∈ (aC s.f5 1).f0, wK x := (IG B.r.2 1).2
   have ca := o5 (aa (aC s.f5 0).f0 s.f6)
   have cb := o5 (aa (aC s.f5 1).f0 s.f7)
   have J2 : ¬ (s.f6 = (aC s.f5 0).f0.length ∧ s.f7 = (aC s.f5 1).f0.length) → Ev (fun k => bi.j2 k [] ((aC s.f5 0).f0) ((aC s.f5 1).f0) [] 0 [] [] [] [] 0 0 0 0 s.f0 s.f1 s.f2 s.f3 s.f4 s.f5 s.f6 s.f7 s.f8 s.f9) (GQ (Al s) [] true) := by
    intro ne
    have M : Al s = _ := if_neg ne
    rw [M]
    have A : ∀ (r : ah) (a6 a7 : Int), 0 ≤ sU r ∧ sU r ≤ 4 → Ev (fun k => bi.j3 k [] [] 0 [] [] [] [] 0 0 0 0 s.f0 s.f1 s.f2 s.f3 s.f4 s.f5 a6 a7 s.f8 s.f9 r.f0 r.f1 r.f2) (GQ (M8 { s with f6 := a6, f7 := a7 } r) [] true) := by
     intro r a6 a7 hc
     refine Ev.s (fun k => by rw [bi.j3]) (Ev.t (by omega) (Ev.b (Ev.c (qu r)) ?_))
     rw [eC (by omega) (by omega)]
     exact (fZ ..).r rfl
    refine Ev.s (fun k => by rw [bi.j2]) (Ev.i (fun q7 => ?_) (fun q7 => ?_))
    ·rw [if_pos (.inl q7)]
     refine Ev.t (by omega) (Ev.t (by omega) ?_)
     rw [eC (by omega) (by omega)]
     exact (A _ _ _ ca).r rfl
    ·refine Ev.i (fun q6 => ?_) (fun q6 => ?_)
     ·refine Ev.t (by omega) (Ev.t (by omega) (Ev.t (by omega) ?_))
      obtain ⟨v, ev, e1, e2⟩ := kp (uP wa s.f6) (uP wb s.f7)
      refine Ev.b (Ev.c ev) (Ev.i (fun qv => ?_) (fun qv => ?_))
      ·have nl : ¬ ee (aa (aC s.f5 1).f0 s.f7) < ee (aa (aC s.f5 0).f0 s.f6) := by
        intro z
        have n1 : ¬ v < 0 := fun y => by have := e1.1 y; omega
        have n2 : ¬ v = 0 := fun y => by have := e2.1 y; omega
        omega
       rw [if_pos (.inr ⟨q6, nl⟩), eC (by omega) (by omega)]
       exact (A _ _ _ ca).r rfl
      ·have yl : ee (aa (aC s.f5 1).f0 s.f7) < ee (aa (aC s.f5 0).f0 s.f6) := by
        by_cases z : ee (aa (aC s.f5 0).f0 s.f6) < ee (aa (aC s.f5 1).f0 s.f7)
        ·have := e1.2 z; omega
        ·by_cases z2 : ee (aa (aC s.f5 0).f0 s.f6) = ee (aa (aC s.f5 1).f0 s.f7)
         ·have := e2.2 z2; omega
         ·omega
       rw [if_neg (fun z => z.elim q7 (fun z => z.2 yl)), eC (by omega) (by omega)]
       exact (A _ _ _ cb).r rfl
     ·rw [if_neg (fun z => z.elim q7 (fun z => q6 z.1))]
      refine Ev.t (by omega) (Ev.t (by omega) ?_)
      rw [eC (by omega) (by omega)]
      exact (A _ _ _ cb).r rfl
   refine Ev.t (by omega) (Ev.t (by omega) (Ev.i (fun q6 => Ev.i (fun q7 => ?_) (fun q7 => J2 fun z => q7 z.2)) (fun q6 => J2 fun z => q6 z.1)))
   have M : Al s = _ := if_pos ⟨q6, q7⟩
   rw [M]
   have ld : (s.f5.drop (2 : Int).toNat).length ≤ 33554432 := by rw [List.length_drop]; omega
   exact Ev.t (by omega) (Ev.b (Ev.c (rR _ _ _ _ _ _ _ _ _ _ ld)) (Ev.b (Ev.c (od ..)) ((fZ ..).r rfl)))
  ·have c3 : s.f8 = 3 := by omega
   rw [← Xx O c3]
   obtain ⟨p5, p6, p7⟩ := Tu hv c3
   have e : wrap64 (s.f6 + 1) = s.f6 + 1 := eC (by omega) (by omega)
   rw [e]
   refine Ev.t c3 (Ev.t (by omega) (Ev.t (by omega) (Ev.t (by omega) (Ev.t (by simp) (Ev.i (fun q => ?_) (fun q => ?_))))))
   ·have M : Dr s = { s with f6 := s.f6 + 1, f8 := 4 } := by unfold Dr; rw [if_pos q]
    rw [M]
    exact (fZ ..).r rfl
   ·have M : Dr s = { s with f6 := s.f6 + 1, f8 := s.f8 } := by unfold Dr; rw [if_neg q, c3]
    rw [M]
    exact (fZ ..).r rfl
theorem uR (s : eQ) (B : BS 24 s) (v9 : 0 ≤ s.f9) (h9 : s.f9 ≤ 1000000000) : Ev (fun k => rm.f k s.f0 s.f1 s.f2 s.f3 s.f4 s.f5 s.f6 s.f7 s.f8 s.f9) (tS (if s.f2.length = 0 then { UE s with f2 := s.f3, f3 := [] } else M8 { s with f2 := s.f2.take (iM s.f2).toNat ++ s.f2.drop ((iM s.f2).toNat + 1) } (aa s.f2 (iM s.f2)))) := by
 have l2 := B.h.1; have l3 := B.d.1; have l4 := B.o.1; have l5 := B.r.1
 refine Ev.u (fun k => by rw [rm.f]) ?_
 by_cases h2 : s.f2.length = 0
 ·rw [if_pos h2]
  exact Ev.t (by omega) (Ev.t (by omega) Ev.p)
 ·rw [if_neg h2]
  have m := WN h2
  have cr := o5 (aa s.f2 (iM s.f2))
  refine Ev.e (by omega) (Ev.b (HE s.f2 (by omega) B.h.2 h2) (Ev.t (by omega) (Ev.t (by omega) (Ev.b (Ev.c (lA _)) (Ev.t (by omega) (Ev.b (Ev.c (Lq s.f2 _ (by omega) m.1 m.2)) ?_))))))
  rw [eC (by omega) (by omega)]
  exact Ev.p
theorem DS (l : List aT) (i : Nat) (j : Int) (hi : i < l.length) (hj : 0 ≤ j) : hX.f l (i : Int) j = some (if j < ((aC l (i : Int)).f0.length : Int) then [aa (aC l (i : Int)).f0 j] else []) := by
 unfold hX.f
 rw [if_pos (by omega), if_pos (by omega)]
 by_cases h : j < ((aC l (i : Int)).f0.length : Int)
 ·rw [if_pos h, if_pos h, if_pos hj]
 ·rw [if_neg h, if_neg h]
theorem PE (x : ah) : aa [x] 0 = x := rfl
theorem uy (s : eQ) (g : Int) (W : WS s) (h9 : s.f9 ≤ 1000000000) : Ev (fun k => bz.f k s.f0 s.f1 s.f2 s.f3 s.f4 s.f5 s.f6 s.f7 s.f8 s.f9 g) (GQ (w7 s g) (DR s g) (w8 s g)) := by
 refine Ev.u (fun k => by rw [bz.f]) (Ev.b (Dd s W) ?_)
 dsimp only
 refine Ev.b (rM s W) (Ev.i (fun hv => ?_) (fun hv => Ev.p.r (IE fun q => hv (zO.1 q).1)))
 refine Ev.b (Ev.c (uT g 8 60)) (Ev.i (fun hg => ?_) (fun hg => Ev.p.r (IE fun q => hg (zO.1 q).2.1)))
 refine Ev.i (fun c4 => Ev.p.r (IE fun q => (zO.1 q).2.2 c4)) (fun c4 => ?_)
 have O : w8 s g = true := zO.2 ⟨hv, hg, c4⟩
 have hg' := of_decide_eq_true hg
 have V := yI hv
 have B := V.B W
 have P1 := Tt hv
 have l0 := B.i.1; have l2 := B.h.1; have l3 := B.d.1; have l4 := B.o.1; have l5 := B.r.1
 have v6 := V.lp; have v7 := V.rp; have v8 := V.ph; have v9 := V.wr
 have t2 := uQ s.f2; have t3 := uQ s.f3
 refine Ev.i (fun c1 => ?_) (fun c1 => ?_)
 ·rw [← Xv O c1]
  refine Ev.i (fun cp => ?_) (fun cp => ?_)
  ·have cr := o5 (aa s.f0 s.f1)
   refine Ev.t (by omega) (Ev.b (De s W c1) (Ev.b (Ev.c (lA _)) ?_))
   rw [eC (by omega) (by omega)]
   refine Ev.i (fun cg => ?_) (fun cg => ?_)
   ·have M : Cv s g = _ := if_pos ⟨cp, cg⟩
    rw [M, eC (x := s.f1 + 1) (by omega) (by omega)]
    have wx : wK (aa s.f0 s.f1) := uP W.i.2 _
    refine Ev.i (fun c0 => ?_) (fun c0 => ?_)
    ·rcases Gd s.f4 with h | ⟨m, y, h⟩
     ·rw [h] at c0; simp at c0
     ·have ho := W.o.1
      have hm : m.length ≤ 1099511627776 := by rw [h, List.length_append] at ho; omega
      have er : aa s.f4 ((s.f4.length : Int) - 1) = y := by
       have := M7 m y hm
       rw [← h, FW ho] at this; exact this
      have wy : wK y := W.o.2 y (by rw [h]; simp)
      have bw : Ml (aa s.f0 s.f1) s.f4 = decide (ee (aa s.f0 s.f1) < ee y) := by rw [h]; exact Gx _ _ _
      rw [FW ho]
      refine Ev.t (by omega) (Ev.t (by omega) ?_)
      rw [er]
      refine Ev.b (jm (aa s.f0 s.f1) y) (Ev.i (fun c => ?_) (fun c => ?_))
      ·rw [if_pos (by rw [bw]; exact decide_eq_true ((Bk wx wy).1 c))]
       exact Ev.t (by omega) ((ux ..).r rfl)
      ·rw [if_neg (by rw [bw]; intro z; exact c ((Bk wx wy).2 (of_decide_eq_true z)))]
       exact Ev.t (by omega) ((ux ..).r rfl)
    ·have h0 : s.f4 = [] := List.eq_nil_of_length_eq_zero (by omega)
     rw [if_neg (by rw [h0, RU]; decide)]
     exact Ev.t (by omega) ((ux ..).r rfl)
   ·have nr : ¬ (s.f1 < s.f0.length ∧ jw s.f2 + jw s.f3 + sU (aa s.f0 s.f1) ≤ g) := fun q => cg q.2
    have M : Cv s g = _ := if_neg nr
    rw [M]
    refine Ev.s (fun k => by rw [bz.j0]) ?_
    rw [eC (by omega) (by omega)]
    by_cases h2 : s.f2.length = 0
    ·rw [if_pos h2]
     by_cases h3 : s.f3.length = 0
     ·rw [if_pos h3]
      by_cases h4 : s.f4.length = 0
      ·rw [if_pos h4]
       exact Ev.e (by omega) (Ev.e (by omega) ((qs ..).r rfl))
      ·rw [if_neg h4]
       exact Ev.e (by omega) (Ev.t (by omega) (Ev.t (by omega) ((qs ..).r rfl)))
     ·rw [if_neg h3]
      have q := uR s B v9 h9
      rw [if_pos h2] at q
      exact Ev.t (by omega) (Ev.b q (Ev.p.r rfl))
    ·rw [if_neg h2]
     have q := uR s B v9 h9
     rw [if_neg h2] at q
     exact Ev.t (by omega) (Ev.b q (Ev.p.r rfl))
  ·have nr : ¬ (s.f1 < s.f0.length ∧ jw s.f2 + jw s.f3 + sU (aa s.f0 s.f1) ≤ g) := fun q => cp q.1
   have M : Cv s g = _ := if_neg nr
   rw [M]
   refine Ev.s (fun k => by rw [bz.j0]) ?_
   rw [eC (by omega) (by omega)]
   by_cases h2 : s.f2.length = 0
   ·rw [if_pos h2]
    by_cases h3 : s.f3.length = 0
    ·rw [if_pos h3]
     by_cases h4 : s.f4.length = 0
     ·rw [if_pos h4]
      exact Ev.e (by omega) (Ev.e (by omega) ((qs ..).r rfl))
     ·rw [if_neg h4]
      exact Ev.e (by omega) (Ev.t (by omega) (Ev.t (by omega) ((qs ..).r rfl)))
    ·rw [if_neg h3]
     have q := uR s B v9 h9
     rw [if_pos h2] at q
     exact Ev.t (by omega) (Ev.b q (Ev.p.r rfl))
   ·rw [if_neg h2]
    have q := uR s B v9 h9
    rw [if_neg h2] at q
    exact Ev.t (by omega) (Ev.b q (Ev.p.r rfl))
 ·refine Ev.i (fun c2 => ?_) (fun c2 => ?_)
  ·rw [← Xw O c2]
   obtain ⟨p5, p6, p7⟩ := Tv hv c2
   have wa : ∀ x ∈ (aC s.f5 0).f0, wK x := (IG B.r.2 0).2
   have wb : ∀ x ∈ (aC s.f5 1).f0, wK x := (IG B.r.2 1).2
   have ca := o5 (aa (aC s.f5 0).f0 s.f6)
   have cb := o5 (aa (aC s.f5 1).f0 s.f7)
   have ra : hX.f s.f5 0 s.f6 = some (if s.f6 < ((aC s.f5 0).f0.length : Int) then [aa (aC s.f5 0).f0 s.f6] else []) := DS s.f5 0 s.f6 (by omega) p6.1
   have rb : hX.f s.f5 1 s.f7 = some (if s.f7 < ((aC s.f5 1).f0.length : Int) then [aa (aC s.f5 1).f0 s.f7] else []) := DS s.f5 1 s.f7 (by omega) p7.1
   refine Ev.b (Ev.c ra) (Ev.b (Ev.c rb) ?_)
   by_cases qa : s.f6 < ((aC s.f5 0).f0.length : Int)
   ·rw [if_pos qa]
    by_cases qb : s.f7 < ((aC s.f5 1).f0.length : Int)
    ·rw [if_pos qb]
     have ne : ¬ (s.f6 = (aC s.f5 0).f0.length ∧ s.f7 = (aC s.f5 1).f0.length) := by omega
     have M : Al s = _ := if_neg ne
     rw [M]
     refine Ev.e (by simp only [List.length_singleton, List.length_nil]; rw [eC (by omega) (by omega)]; omega) (Ev.e (by simp) (Ev.t (by simp) (Ev.t (by simp) (Ev.t (by simp) (Ev.b (jm (aa [aa (aC s.f5 0).f0 s.f6] 0) (aa [aa (aC s.f5 1).f0 s.f7] 0)) ?_)))))
     simp only [PE]
     have cg := Bl (uP wa s.f6) (uP wb s.f7)
     refine Ev.i (fun q => ?_) (fun q => ?_)
     ·rw [if_pos (.inr ⟨qa, fun z => by have := cg.2 z; omega⟩)]
      refine Ev.t (by omega) (Ev.b (Ev.c (lA _)) ?_)
      rw [eC (x := s.f6 + 1) (by omega) (by omega), eC (by omega) (by omega)]
      exact (qr ..).r rfl
     ·rw [if_neg (fun z => z.elim (fun z => by omega) (fun z => z.2 (cg.1 (by omega))))]
      refine Ev.t (by omega) (Ev.b (Ev.c (lA _)) ?_)
      rw [eC (x := s.f7 + 1) (by omega) (by omega), eC (by omega) (by omega)]
      exact (qr ..).r rfl
    ·rw [if_neg qb]
     have ne : ¬ (s.f6 = (aC s.f5 0).f0.length ∧ s.f7 = (aC s.f5 1).f0.length) := by omega
     have M : Al s = _ := if_neg ne
     rw [M, if_pos (.inl (by omega))]
     refine Ev.e (by simp only [List.length_singleton, List.length_nil]; rw [eC (by omega) (by omega)]; omega) (Ev.t (by simp) (Ev.t (by simp) (Ev.t (by omega) ?_)))
     simp only [PE]
     refine Ev.b (Ev.c (lA _)) ?_
     rw [eC (x := s.f6 + 1) (by omega) (by omega), eC (by omega) (by omega)]
     exact (qr ..).r rfl
   ·rw [if_neg qa]
    by_cases qb : s.f7 < ((aC s.f5 1).f0.length : Int)
    ·rw [if_pos qb]
     have ne : ¬ (s.f6 = (aC s.f5 0).f0.length ∧ s.f7 = (aC s.f5 1).f0.length) := by omega
     have M : Al s = _ := if_neg ne
     rw [M, if_neg (fun z => z.elim (fun z => by omega) (fun z => qa z.1))]
     refine Ev.e (by simp only [List.length_singleton, List.length_nil]; rw [eC (by omega) (by omega)]; omega) (Ev.e (by simp) (Ev.e (by simp) (Ev.t (by simp) (Ev.t (by omega) ?_))))
     simp only [PE]
     refine Ev.b (Ev.c (lA _)) ?_
     rw [eC (x := s.f7 + 1) (by omega) (by omega), eC (by omega) (by omega)]
     exact (qr ..).r rfl
    ·rw [if_neg qb]
     have M : Al s = _ := if_pos ⟨by omega, by omega⟩
     rw [M]
     have ld : (s.f5.drop (2 : Int).toNat).length < 5864062014805 := by rw [List.length_drop]; omega
     exact Ev.t (by simp only [List.length_nil]; rw [eC (by omega) (by omega)]; omega) (Ev.t (by omega) (Ev.t ld (Ev.b (Dc ..) (Ev.p.r rfl))))
  ·have c3 : s.f8 = 3 := by omega
   rw [← Xx O c3]
   obtain ⟨p5, p6, p7⟩ := Tu hv c3
   have e : wrap64 (s.f6 + 1) = s.f6 + 1 := eC (by omega) (by omega)
   rw [e]
   refine Ev.i (fun q => ?_) (fun q => ?_)
   ·have M : Dr s = { s with f6 := s.f6 + 1, f8 := 4 } := by unfold Dr; rw [if_pos q]
    rw [M]
    exact Ev.s (fun k => by rw [bz.j4]) (Ev.t (by omega) (Ev.t (by omega) (Ev.t (by omega) (Ev.p.r rfl))))
   ·have M : Dr s = { s with f6 := s.f6 + 1, f8 := s.f8 } := by unfold Dr; rw [if_neg q, c3]
    rw [M]
    exact Ev.s (fun k => by rw [bz.j4]) (Ev.t (by omega) (Ev.t (by omega) (Ev.t (by omega) (Ev.p.r rfl))))
def xo : List aT → List aT → Bool
 | [], [] => true
 | r :: a, q :: b => iy r.f0 q.f0 && xo a b
 | _, _ => false
theorem Nf : ∀ {a b : List aT}, a.length ≠ b.length → xo a b = false
 | [], [], h => absurd rfl h
 | [], q :: b, _ => rfl
 | r :: a, [], _ => rfl
 | r :: a, q :: b, h => by rw [xo, Nf (a := a) (b := b) (by simpa using h), Bool.and_false]
theorem Ol : ∀ a : List aT, xo a a = true
 | [] => rfl
 | r :: a => by rw [xo, Ol a, jV.2 rfl]; rfl
abbrev PZ (a b : eQ) (c : Bool) : Bool := iy a.f0 b.f0 && (decide (a.f1 = b.f1) && (iy a.f2 b.f2 && (iy a.f3 b.f3 && (iy a.f4 b.f4 && (c && (decide (a.f6 = b.f6) && (decide (a.f7 = b.f7) && (decide (a.f8 = b.f8) && decide (a.f9 = b.f9)))))))))
def RM (a b : eQ) : Bool := PZ a b (xo a.f5 b.f5)
theorem P0 (a : eQ) : RM a a = true := by
 unfold RM PZ
 rw [Ol, jV.2 rfl, jV.2 rfl, jV.2 rfl, jV.2 rfl]
 simp
theorem G4 (l m : List aT) (hl : l.length ≤ 1048576) (hm : l.length = m.length) (hr : ∀ r ∈ l, r.f0.length ≤ 1048576) : ∀ (s t : List aT) (i : Nat), l.drop i = s → m.drop i = t → Ev (fun k => fX.l0 k (i : Int) l m) (xo s t) := by
 intro s
 induction s with
 | nil =>
  intro t i hd he
  have := dQ hd
  have ht : t = [] := by rw [← he]; exact List.drop_eq_nil_iff.2 (by omega)
  subst ht
  exact Ev.s (fun k => by rw [fX.l0]) (Ev.e (by omega) (Ev.p.r (by rfl)))
 | cons x s ih =>
  intro t i hd he
  obtain ⟨hi, hd', hx, -⟩ := cV hd
  cases t with
  | nil => have := dQ he; omega
  | cons y t =>
   obtain ⟨hj, he', hy, -⟩ := cV he
   have hz := hr x (List.mem_of_mem_drop (i := i) (by rw [hd]; exact List.mem_cons_self ..))
   refine Ev.s (fun k => by rw [fX.l0]) (Ev.t (by omega) (Ev.t (by omega) (Ev.t (by omega) ?_)))
   rw [uS, uS, hx, hy, iu hi (by omega)]
   refine Ev.b (mq x.f0 y.f0 (by omega)) (Ev.i (fun h => ?_) (fun h => ?_))
   ·exact (ih t (i + 1) hd' he').r (by rw [xo, h, Bool.true_and])
   ·exact Ev.p.r (by rw [xo, eq_false_of_ne_true h, Bool.false_and])
theorem G5 (l m : List aT) (hl : l.length ≤ 1048576) (hr : ∀ r ∈ l, r.f0.length ≤ 1048576) : Ev (fun k => fX.f k l m) (xo l m) :=
 Ev.u (fun _ => rfl) (Ev.i (fun h => G4 l m hl (by omega) hr l m 0 rfl rfl) (fun h => Ev.p.r (Nf (by omega)).symm))
theorem xz {x : Bool} (h : ¬ x = true) (y : Bool) : false = (x && y) := by rw [eq_false_of_ne_true h]; rfl
theorem zV {q : Prop} [Decidable q] (h : ¬ q) (y : Bool) : false = (decide q && y) := by rw [decide_eq_false h]; rfl
theorem sQ (a b : eQ) (B : BS 100 a) : Ev (fun k => eH.f k a.f0 a.f1 a.f2 a.f3 a.f4 a.f5 a.f6 a.f7 a.f8 a.f9 b.f0 b.f1 b.f2 b.f3 b.f4 b.f5 b.f6 b.f7 b.f8 b.f9) (RM a b) := by
 have l0 := B.i.1; have l2 := B.h.1; have l3 := B.d.1; have l4 := B.o.1; have l5 := B.r.1
 have hr : ∀ r ∈ a.f5, r.f0.length ≤ 1048576 := fun r q => by have := (B.r.2 r q).1; omega
 unfold RM PZ
 refine Ev.u (fun k => by rw [eH.f]) (Ev.b (mq a.f0 b.f0 (by omega)) ?_)
 refine Ev.i (fun h => ?_) (fun h => Ev.p.r (xz h _))
 rw [h, Bool.true_and]
 refine Ev.i (fun h => ?_) (fun h => Ev.p.r (zV h _))
 rw [decide_eq_true h, Bool.true_and]
 refine Ev.b (mq a.f2 b.f2 (by omega)) (Ev.i (fun h => ?_) (fun h => Ev.p.r (xz h _)))
 rw [h, Bool.true_and]
 refine Ev.b (mq a.f3 b.f3 (by omega)) (Ev.i (fun h => ?_) (fun h => Ev.p.r (xz h _)))
 rw [h, Bool.true_and]
 refine Ev.b (mq a.f4 b.f4 (by omega)) (Ev.i (fun h => ?_) (fun h => Ev.p.r (xz h _)))
 rw [h, Bool.true_and]
 refine Ev.b (G5 a.f5 b.f5 (by omega) hr) (Ev.i (fun h => ?_) (fun h => Ev.p.r (xz h _)))
 rw [h, Bool.true_and]
 refine Ev.i (fun h => ?_) (fun h => Ev.p.r (zV h _))
 rw [decide_eq_true h, Bool.true_and]
 refine Ev.i (fun h => ?_) (fun h => Ev.p.r (zV h _))
 rw [decide_eq_true h, Bool.true_and]
 refine Ev.i (fun h => ?_) (fun h => Ev.p.r (zV h _))
 rw [decide_eq_true h, Bool.true_and]
 exact Ev.p
theorem Ok (a b : eQ) : PZ a b false = false := by
 unfold PZ; simp
theorem Gf (a b : eQ) (B : BS 100 a) (hm : a.f5.length = b.f5.length) : ∀ (s t : List aT) (i : Nat), a.f5.drop i = s → b.f5.drop i = t → Ev (fun k => dP.l0 k (a.f5.length : Int) (i : Int) a.f1 a.f6 a.f7 a.f8 a.f9 b.f1 b.f6 b.f7 b.f8 b.f9 a.f0 a.f2 a.f3 a.f4 a.f5 b.f0 b.f2 b.f3 b.f4 b.f5) (PZ a b (xo s t)) := by
 have l0 := B.i.1; have l2 := B.h.1; have l3 := B.d.1; have l4 := B.o.1; have l5 := B.r.1
 intro s
 induction s with
 | nil =>
  intro t i hd he
  have := dQ hd
  have ht : t = [] := by rw [← he]; exact List.drop_eq_nil_iff.2 (by omega)
  subst ht
  rw [show xo [] [] = true from rfl]
  unfold PZ
  rw [Bool.true_and]
  refine Ev.s (fun k => by rw [dP.l0]) (Ev.e (by omega) (Ev.b (lP a.f0 b.f0 (by omega)) ?_))
  refine Ev.i (fun h => ?_) (fun h => Ev.p.r (xz h _))
  rw [h, Bool.true_and]
  refine Ev.i (fun h => ?_) (fun h => Ev.p.r (zV h _))
  rw [decide_eq_true h, Bool.true_and]
  refine Ev.b (lP a.f2 b.f2 (by omega)) (Ev.i (fun h => ?_) (fun h => Ev.p.r (xz h _)))
  rw [h, Bool.true_and]
  refine Ev.b (lP a.f3 b.f3 (by omega)) (Ev.i (fun h => ?_) (fun h => Ev.p.r (xz h _)))
  rw [h, Bool.true_and]
  refine Ev.b (lP a.f4 b.f4 (by omega)) (Ev.i (fun h => ?_) (fun h => Ev.p.r (xz h _)))
  rw [h, Bool.true_and]
  refine Ev.i (fun h => ?_) (fun h => Ev.p.r (zV h _))
  rw [decide_eq_true h, Bool.true_and]
  refine Ev.i (fun h => ?_) (fun h => Ev.p.r (zV h _))
  rw [decide_eq_true h, Bool.true_and]
  refine Ev.i (fun h => ?_) (fun h => Ev.p.r (zV h _))
  rw [decide_eq_true h, Bool.true_and]
  exact Ev.p
 | cons x s ih =>
  intro t i hd he
  obtain ⟨hi, hd', hx, -⟩ := cV hd
  cases t with
  | nil => have := dQ he; omega
  | cons y t =>
   obtain ⟨hj, he', hy, -⟩ := cV he
   have hz := (B.r.2 x (List.mem_of_mem_drop (i := i) (by rw [hd]; exact List.mem_cons_self ..))).1
   refine Ev.s (fun k => by rw [dP.l0]) (Ev.t (by omega) (Ev.t (by omega) (Ev.t (by omega) (Ev.t (by omega) ?_))))
   rw [uS, uS, hx, hy, iu hi (by omega)]
   refine Ev.b (lP x.f0 y.f0 (by omega)) (Ev.i (fun h => ?_) (fun h => ?_))
   ·exact (ih t (i + 1) hd' he').r (by rw [xo, h, Bool.true_and])
   ·exact Ev.p.r (by rw [xo, eq_false_of_ne_true h, Bool.false_and, Ok])
theorem Gg (a b : eQ) (B : BS 100 a) : Ev (fun k => dP.f k a.f0 a.f1 a.f2 a.f3 a.f4 a.f5 a.f6 a.f7 a.f8 a.f9 b.f0 b.f1 b.f2 b.f3 b.f4 b.f5 b.f6 b.f7 b.f8 b.f9) (RM a b) := by
 refine Ev.u (fun k => by rw [dP.f]) (Ev.i (fun h => ?_) (fun h => Ev.p.r ?_))
 ·exact Gf a b B (by omega) a.f5 b.f5 0 rfl rfl
 ·unfold RM; rw [Nf (by omega), Ok]
theorem Km (l : List ah) (hl : l.length ≤ 1048576) : Ev (fun k => gX.f k l l) true := by
 have L : ∀ (s : List ah) (i : Nat), l.drop i = s → Ev (fun k => gX.l0 k (i : Int) l l) true := by
  intro s
  induction s with
  | nil =>
   intro i hd
   have := dQ hd
   exact Ev.s (fun k => by rw [gX.l0]) (Ev.e (by omega) Ev.p)
  | cons x s ih =>
   intro i hd
   obtain ⟨hi, hd', hx, -⟩ := cV hd
   refine Ev.s (fun k => by rw [gX.l0]) (Ev.t (by omega) (Ev.t (by omega) (Ev.t (by omega) ?_)))
   rw [rO, hx, iu hi (by omega)]
   exact Ev.t (by simp) (ih (i + 1) hd')
 exact Ev.u (fun _ => rfl) (Ev.t rfl (L l 0 rfl))
def N7 (s : List UInt8) (i : Int) : List UInt8 × Bool := if pk i 0 (((kl 47 s).length : Int) - 1) = true then ((kl 47 s).getD i.toNat [], true) else ([], false)
theorem ZB (l : List (List UInt8)) (i : Int) (h0 : 0 ≤ i) : bu ByteArray.empty (l.map bT) i = bT (l.getD i.toNat []) := by
 have := Ry l i.toNat
 rwa [Int.toNat_of_nonneg h0] at this
theorem HL (s : List UInt8) (i : Int) (hs : s.length ≤ 1000000) : Ev (fun k => lG.f k (bT s) i) (bT (N7 s i).1, (N7 s i).2) := by
 have hl := yt 47 s
 refine Ev.u (fun k => by rw [lG.f]) (Ev.b (vM s (by omega) 47 47 rfl) (Ev.b (Ev.c (pX _ _ _)) ?_))
 rw [List.length_map, eC (by omega) (by omega)]
 refine Ev.i (fun h => ?_) (fun h => Ev.p.r ?_)
 ·have h' := of_decide_eq_true h
  refine Ev.t (by omega) (Ev.t (by omega) (Ev.p.r ?_))
  unfold N7; rw [if_pos h, ZB _ _ h'.1]
 ·unfold N7; rw [if_neg h]; rfl
theorem HC (s : List UInt8) (i : Int) (hs : s.length ≤ 1000000) : Ev (fun k => lz.f k (bT s) i) (bT (N7 s i).1, (N7 s i).2) := by
 have hl := yt 47 s
 refine Ev.u (fun k => by rw [lz.f]) (Ev.b (tu s (by omega) 47 47 rfl) (Ev.b (Ev.c (uT _ _ _)) ?_))
 rw [List.length_map, eC (by omega) (by omega)]
 refine Ev.i (fun h => ?_) (fun h => Ev.p.r ?_)
 ·have h' := of_decide_eq_true h
  refine Ev.t (by omega) (Ev.t (by omega) (Ev.p.r ?_))
  unfold N7; rw [if_pos h, ZB _ _ h'.1]
 ·unfold N7; rw [if_neg h]; rfl
def WH (R : List ah) : eQ := ⟨R, 0, [], [], [], [], 0, 0, 1, 0⟩
theorem Jz (R : List ah) (h : hH R = true) : Ev (fun k => oC.f k R) (R, 0, [], [], [], [], 0, 0, 1, 0, true) := by
 have hl := iH h
 exact Ev.u (fun _ => rfl) (Ev.b (lB R (by omega)) (Ev.t h (Ev.t (by omega) Ev.p)))
abbrev tSp (s : eQ) (p z : Int) : List ah × Int × List ah × List ah × List ah × List aT × Int × Int × Int × Int × Int × Int := (s.f0, s.f1, s.f2, s.f3, s.f4, s.f5, s.f6, s.f7, s.f8, s.f9, p, z)
theorem PS (l : List Int) (y0 : List ah) (y1 : Int) (y2 y3 y4 : List ah) (y5 : List aT) (y6 y7 y8 y9 : Int) : ∀ (m : Nat) (s : eQ) (p z : Int), Rd l p → BS 50 s → m ≤ 1000 → s.f9 + 4 * m ≤ 100000 → ∃ s' : eQ, ∃ p' z', Ev (fun k => et.l0 k (m : Int) p z y0 y1 y2 y3 y4 y5 y6 y7 y8 y9 s.f0 s.f1 s.f2 s.f3 s.f4 s.f5 s.f6 s.f7 s.f8 s.f9 l) (tSp s' p' z') ∧ BS 60 s' ∧ s'.f9 ≤ s.f9 + 4 * m ∧ Rd l p' := by
 intro m
 induction m with
 | zero =>
  intro s p z h B hm h9
  obtain ⟨v, p1, z1, e1, v0, v1, h1⟩ := iw l p z 16 h (by omega)
  have l2 := B.h.1
  by_cases k0 : v = 0
  ·obtain ⟨w, p2, z2, e2, -, -, h2⟩ := iw l p1 z1 6 h1 (by omega)
   refine ⟨{ s with f8 := w }, p2, z2, Ev.s (fun k => by rw [et.l0]) ?_, ⟨B.i.le (by omega), B.h.le (by omega), B.d.le (by omega), B.o.le (by omega), (B.up (by omega : 50 ≤ 60)).r⟩, by show s.f9 ≤ _; omega, h2⟩
   exact Ev.e (by omega) (Ev.b (Ev.c e1) (Ev.t k0 (Ev.b (Ev.c e2) Ev.p)))
  by_cases k1 : v = 1
  ·obtain ⟨w, p2, z2, e2, -, -, h2⟩ := iw l p1 z1 8 h1 (by omega)
   refine ⟨{ s with f1 := wrap64 (w - 1) }, p2, z2, Ev.s (fun k => by rw [et.l0]) ?_, ⟨B.i.le (by omega), B.h.le (by omega), B.d.le (by omega), B.o.le (by omega), (B.up (by omega : 50 ≤ 60)).r⟩, by show s.f9 ≤ _; omega, h2⟩
   exact Ev.e (by omega) (Ev.b (Ev.c e1) (Ev.e k0 (Ev.t k1 (Ev.b (Ev.c e2) Ev.p))))
  by_cases k2 : v = 2
  ·obtain ⟨w, p2, z2, e2, -, -, h2⟩ := iw l p1 z1 4 h1 (by omega)
   refine ⟨{ s with f6 := wrap64 (w - 1) }, p2, z2, Ev.s (fun k => by rw [et.l0]) ?_, ⟨B.i.le (by omega), B.h.le (by omega), B.d.le (by omega), B.o.le (by omega), (B.up (by omega : 50 ≤ 60)).r⟩, by show s.f9 ≤ _; omega, h2⟩
   exact Ev.e (by omega) (Ev.b (Ev.c e1) (Ev.e k0 (Ev.e k1 (Ev.t k2 (Ev.b (Ev.c e2) Ev.p)))))
  by_cases k3 : v = 3
  ·obtain ⟨a, b, c, p2, z2, e2, a0, a1, b0, b1, c0, c1, h2⟩ := PR l p1 z1 2 h1 (by omega)
   have wx : wK (⟨a, b, c⟩ : ah) := ⟨⟨by show _ ≤ a; omega, by show a ≤ _; omega⟩, ⟨by show _ ≤ b; omega, by show b ≤ _; omega⟩, by show _ ≤ c; omega, by show c ≤ _; omega⟩
   refine ⟨{ s with f2 := s.f2 ++ [⟨a, b, c⟩] }, p2, z2, Ev.s (fun k => by rw [et.l0]) ?_, ⟨B.i.le (by omega), (B.h.snoc wx).le (by omega), B.d.le (by omega), B.o.le (by omega), (B.up (by omega : 50 ≤ 60)).r⟩, by show s.f9 ≤ _; omega, h2⟩
   exact Ev.e (by omega) (Ev.b (Ev.c e1) (Ev.e k0 (Ev.e k1 (Ev.e k2 (Ev.t k3 (Ev.t (by omega) (Ev.b (Ev.c e2) Ev.p)))))))
  refine ⟨s, p1, z1, Ev.s (fun k => by rw [et.l0]) ?_, B.up (by omega), by omega, h1⟩
  exact Ev.e (by omega) (Ev.b (Ev.c e1) (Ev.e k0 (Ev.e k1 (Ev.e k2 (Ev.e k3 Ev.p)))))
 | succ m ih =>
  intro s p z h B hm h9
  obtain ⟨v, p1, z1, e1, -, h1⟩ := CA l p z [8, 9, 12, 20] h (by simp) (by simp)
  have C := ac9 (g := v) B
  obtain ⟨s', p', z', e, B', n', r'⟩ := ih (w7 s v) p1 z1 h1 C.1 (by omega) (by have := C.2; omega)
  refine ⟨s', p', z', Ev.s (fun k => by rw [et.l0]) ?_, B', by have := C.2; omega, r'⟩
  rw [show wrap64 (((m + 1 : Nat) : Int) - 1) = (m : Int) by rw [eC (by omega) (by omega)]; omega]
  exact Ev.t (by omega) (Ev.b (Ev.c e1) (Ev.b (uy s v (B.W (by omega)) (by omega)) e))
theorem CB (l : List Int) (p z : Int) (h : Rd l p) : ∃ s : eQ, ∃ p' z', Ev (fun k => et.f k l p z) (tSp s p' z') ∧ BS 60 s ∧ s.f9 ≤ 100000 ∧ Rd l p' := by
 obtain ⟨R, p1, z1, e1, v1, n1, h1⟩ := Uc l p z 9 h (by omega)
 obtain ⟨v, p2, z2, e2, v0, v2, h2⟩ := iw l p1 z1 60 h1 (by omega)
 obtain ⟨m, rfl⟩ : ∃ m : Nat, v = m := ⟨v.toNat, by omega⟩
 have hv : hH R = true := N0.2 ⟨v1, by omega⟩
 have B : BS 50 (WH R) := ⟨⟨by show R.length ≤ 50; omega, fun x hx => Xa ((pY.1 hv).1 x hx)⟩, Sm.nil, Sm.nil, Sm.nil, ⟨by show ([] : List aT).length ≤ _; simp, fun r q => by cases q⟩⟩
 obtain ⟨s', p', z', e, B', n', r'⟩ := PS l [] 0 [] [] [] [] 0 0 0 0 m (WH R) p2 z2 h2 B (by omega) (by show (0 : Int) + _ ≤ _; omega)
 refine ⟨s', p', z', Ev.u (fun _ => rfl) (Ev.b e1 (Ev.b (Jz R hv) (Ev.b (Ev.c e2) e))), B', ?_, r'⟩
 have : (WH R).f9 = 0 := rfl
 omega
theorem Hf (l : List Int) (hl : l.length ≤ 1048576) : ∃ s : eQ, Ev (fun k => jt.f k l) (tS s) ∧ BS 60 s ∧ s.f9 ≤ 100000 := by
 obtain ⟨z, e0⟩ := Ge l hl
 obtain ⟨s, p1, z1, e1, B, n9, -⟩ := CB l 0 z (Yb l hl)
 exact ⟨s, Ev.u (fun _ => rfl) (Ev.b e0 (Ev.b e1 Ev.p)), B, n9⟩
theorem H8 (l : List Int) (hl : l.length ≤ 1048576) : ∃ s, Ev (fun k => jT.f k l) (bT s) ∧ s.length ≤ 1000000 := by
 obtain ⟨z, e0⟩ := Ge l hl
 obtain ⟨s, p1, z1, e1, B, n9, h1⟩ := CB l 0 z (Yb l hl)
 have ef := w9 s (B.W (by omega)) (by omega)
 have hf := UB (s := s) (by omega)
 obtain ⟨b, p2, z2, e2, h2⟩ := Oc l p1 z1 3 h1 (by omega)
 cases b with
 | false => exact ⟨fS s, Ev.u (fun _ => rfl) (Ev.b e0 (Ev.b e1 (Ev.b ef (Ev.b (Ev.c e2) (Ev.e (by simp) Ev.p))))), by omega⟩
 | true =>
  obtain ⟨s', p3, z3, e3, hs', h3⟩ := SR l p2 z2 (fS s) h2 (by omega)
  obtain ⟨v, p4, z4, e4, hv, h4⟩ := Ob l p3 z3 ([(⟨#[]⟩ : ByteArray), (⟨#[47, 48, 47, 47, 47, 47, 47, 47, 47, 49, 47, 48]⟩ : ByteArray), (⟨#[47, 48, 47, 47, 47, 47, 47, 48, 47, 48, 47, 49, 47, 48]⟩ : ByteArray), (⟨#[47, 48, 47, 47, 47, 47, 47, 48, 47, 48, 47, 52, 47, 48]⟩ : ByteArray), bT s'] : List ByteArray) h3 (by simp) (by simp)
  refine ⟨bs v, Ev.u (fun _ => rfl) (Ev.b e0 (Ev.b e1 (Ev.b ef (Ev.b (Ev.c e2) (Ev.t rfl (Ev.b e3 (Ev.b (Ev.c e4) Ev.p))))))), ?_⟩
  rw [Mj]
  have : ∀ x ∈ ([(⟨#[]⟩ : ByteArray), (⟨#[47, 48, 47, 47, 47, 47, 47, 47, 47, 49, 47, 48]⟩ : ByteArray), (⟨#[47, 48, 47, 47, 47, 47, 47, 48, 47, 48, 47, 49, 47, 48]⟩ : ByteArray), (⟨#[47, 48, 47, 47, 47, 47, 47, 48, 47, 48, 47, 52, 47, 48]⟩ : ByteArray), bT s'] : List ByteArray), x.size ≤ 1000000 := by
   have hz : (bT s').size ≤ 1000000 := by rw [fw]; omega
   intro x hx
   simp only [List.mem_cons, List.not_mem_nil, or_false] at hx
   rcases hx with rfl | rfl | rfl | rfl | rfl
   ·decide
   ·decide
   ·decide
   ·decide
   ·exact hz
  exact this v hv
theorem Hg (l : List Int) (hl : l.length ≤ 1048576) : ∃ a b : eQ, Ev (fun k => eK.f k l) (a.f0, a.f1, a.f2, a.f3, a.f4, a.f5, a.f6, a.f7, a.f8, a.f9, b.f0, b.f1, b.f2, b.f3, b.f4, b.f5, b.f6, b.f7, b.f8, b.f9) ∧ BS 60 a ∧ BS 60 b := by
 obtain ⟨z, e0⟩ := Ge l hl
 obtain ⟨s, p1, z1, e1, B, n9, h1⟩ := CB l 0 z (Yb l hl)
 obtain ⟨b, p2, z2, e2, h2⟩ := Oc l p1 z1 2 h1 (by omega)
 have ec := Dd s (B.W (by omega))
 have es := uy s 12 (B.W (by omega)) (by omega)
 cases b with
 | true => exact ⟨s, w7 s 12, Ev.u (fun _ => rfl) (Ev.b e0 (Ev.b e1 (Ev.b ec (Ev.b (Ev.c e2) (Ev.t rfl (Ev.b es (Ev.s (fun k => by rw [eK.j0]) Ev.p))))))), B, TH B⟩
 | false => exact ⟨s, s, Ev.u (fun _ => rfl) (Ev.b e0 (Ev.b e1 (Ev.b ec (Ev.b (Ev.c e2) (Ev.e (by simp) (Ev.s (fun k => by rw [eK.j0]) Ev.p)))))), B, B⟩
theorem JG (l : List Int) (hl : l.length ≤ 1048576) : ∃ s i, Ev (fun k => ko.f k l) (bT s, i) ∧ s.length ≤ 1000 := by
 obtain ⟨z, e0⟩ := Ge l hl
 obtain ⟨v, p1, z1, e1, hv, h1⟩ := Ob l 0 z ([(⟨#[]⟩ : ByteArray), (⟨#[47]⟩ : ByteArray), (⟨#[97, 47, 98, 47, 99]⟩ : ByteArray), (⟨#[97]⟩ : ByteArray), (⟨#[47, 47, 120]⟩ : ByteArray)] : List ByteArray) (Yb l hl) (by simp) (by simp)
 obtain ⟨w, p2, z2, e2, -, -, h2⟩ := iw l p1 z1 5 h1 (by omega)
 refine ⟨bs v, wrap64 (w - 1), Ev.u (fun _ => rfl) (Ev.b e0 (Ev.b (Ev.c e1) (Ev.b (Ev.c e2) Ev.p))), ?_⟩
 rw [Mj]
 simp only [List.mem_cons, List.not_mem_nil, or_false] at hv
 rcases hv with rfl | rfl | rfl | rfl | rfl
 ·decide
 ·decide
 ·decide
 ·decide
 ·decide
theorem Yz {s : List UInt8} (h : (pS s).2 = true) : fS (pS s).1 = s := by
 by_cases hl : (kl 47 s).length = 10
 ·obtain ⟨a0, a1, a2, a3, a4, a5, a6, a7, a8, a9, hc⟩ := Tx hl
  rw [D4 hc] at h ⊢
  by_cases g : fS (nN a0 a1 a2 a3 a4 a5 a6 a7 a8 a9) = s
  ·rw [xh, if_pos g]; exact g
  ·rw [xh, if_neg g] at h; cases h
 ·rw [Lw hl] at h; cases h
theorem adi (s : List UInt8) : (pS s).1.f9 ≤ 1000000000 := by
 by_cases hl : (kl 47 s).length = 10
 ·obtain ⟨a0, a1, a2, a3, a4, a5, a6, a7, a8, a9, hc⟩ := Tx hl
  rw [D4 hc, xh]
  split
  ·have := (Gb a9).2; show (pI a9).1 ≤ _; omega
  ·decide
 ·rw [Lw hl]; decide
theorem Yu (s : eQ) (g : Int) : (DR s g).length ≤ 1 := by
 unfold DR
 split
 ·split
  ·simp
  ·split
   ·simp
   ·simp
 ·simp
theorem Yy (s : eQ) (h9 : s.f9 < 1000000000) : (pS (fS s)).2 = vS s := by
 by_cases h : vS s = true
 ·rw [XG h h9, h]
 ·have : fS s = [] := by unfold fS; rw [if_neg h]
  rw [this, ZM, eq_false_of_ne_true h]
theorem pure_FnSorterRoundTrip (l0 : List Int) (G0 : (l0.length ≤ maxLen ∧ ∀ y ∈ l0, (Lit.int .u8 y).wf = true)) : ∃ k, dC.f k l0 = some true := by
 refine Ev.ex ?_
 by_cases s0 : (l0.length : Int) > 1048576
 ·exact Ev.u (fun _ => rfl) (Ev.b (Ev.c (VH l0)) (Ev.t (by simpa using s0) Ev.p))
 obtain ⟨T, e1, hT, n9⟩ := Hf l0 (by omega)
 obtain ⟨s, e2, hs⟩ := H8 l0 (by omega)
 obtain ⟨C, D, e4, hC, hD⟩ := Hg l0 (by omega)
 obtain ⟨u, i, e5, hu⟩ := JG l0 (by omega)
 have W := hT.W (by omega)
 have hf := UB (s := T) (by omega)
 have f1 := sT T W (by omega)
 have p1 := xM (fS T) (by omega)
 have p2 := xM s (by omega)
 have p3 := G6 s (by omega)
 have q1 := Gg C D (hC.up (by omega))
 have q2 := sQ C D (hC.up (by omega))
 have g1 := HL u i (by omega)
 have g2 := HC u i (by omega)
 have v1 := rM T W
 have hx := Yy T (by omega)
 have x1 : (pS (fS T)).2 = true → (pS (fS T)).1 = T := fun h => by rw [XG (hx ▸ h) (by omega)]
 have r1 : (pS (fS T)).2 = true → Ev (fun k => eH.f k (pS (fS T)).1.f0 (pS (fS T)).1.f1 (pS (fS T)).1.f2 (pS (fS T)).1.f3 (pS (fS T)).1.f4 (pS (fS T)).1.f5 (pS (fS T)).1.f6 (pS (fS T)).1.f7 (pS (fS T)).1.f8 (pS (fS T)).1.f9 T.f0 T.f1 T.f2 T.f3 T.f4 T.f5 T.f6 T.f7 T.f8 T.f9) true := by
  intro h
  rw [x1 h]
  exact (sQ T T (hT.up (by omega))).r (P0 T)
 have r3 : (pS s).2 = true → fS (pS s).1 = s := Yz
 have b9 := adi s
 have r2 := sT (pS s).1 (aft s (by omega)) (by omega)
 have st1 := HK T 20 W (by omega)
 have st2 := uy T 20 W (by omega)
 have BT := TH (g := 20) hT
 have eq1 := (sQ (w7 T 20) (w7 T 20) (BT.up (by omega))).r (P0 _)
 have sr := Km (DR T 20) (by have := Yu T 20; omega)
 have JT : (pS (fS T)).2 = true → Ev (fun k => dC.j0 k true T.f0 T.f1 T.f2 T.f3 T.f4 T.f5 T.f6 T.f7 T.f8 T.f9 (pS (fS T)).1.f0 (pS (fS T)).1.f1 (pS (fS T)).1.f2 (pS (fS T)).1.f3 (pS (fS T)).1.f4 (pS (fS T)).1.f5 (pS (fS T)).1.f6 (pS (fS T)).1.f7 (pS (fS T)).1.f8 (pS (fS T)).1.f9) true := by
  intro h
  rw [x1 h]
  refine Ev.s (fun k => by rw [dC.j0]) ?_
  refine Ev.t rfl (Ev.b st1 (Ev.b st2 ?_))
  exact Ev.t (beq_self_eq_true (w8 T 20)) (Ev.b eq1 (Ev.t rfl (Ev.b sr Ev.p)))
 have JF : ∀ x : eQ, Ev (fun k => dC.j0 k false T.f0 T.f1 T.f2 T.f3 T.f4 T.f5 T.f6 T.f7 T.f8 T.f9 x.f0 x.f1 x.f2 x.f3 x.f4 x.f5 x.f6 x.f7 x.f8 x.f9) true := fun x => Ev.s (fun k => by rw [dC.j0]) (Ev.e (by decide) Ev.p)
 refine Ev.u (fun _ => rfl) (Ev.b (Ev.c (VH l0)) (Ev.e (by simpa using s0) (Ev.b e1 (Ev.b f1 (Ev.b p1 (Ev.b e2 (Ev.b p2 (Ev.b p3 ?_))))))))
 refine Ev.b e4 (Ev.b e5 (Ev.b g1 (Ev.b g2 (Ev.b v1 (Ev.t (by simp [hx]) ?_)))))
 refine Ev.i (fun h1 => Ev.b (r1 h1) (Ev.t rfl (Ev.t (by simp) (Ev.i (fun h2 => Ev.b r2 (Ev.t (by rw [r3 h2]) ?_)) (fun h2 => ?_))))) (fun h1 => Ev.t (by simp) (Ev.i (fun h2 => Ev.b r2 (Ev.t (by rw [r3 h2]) ?_)) (fun h2 => ?_)))
 ·exact Ev.b q1 (Ev.b q2 (Ev.t (by simp) (Ev.t rfl (Ev.t (by simp) (JT h1)))))
 ·exact Ev.b q1 (Ev.b q2 (Ev.t (by simp) (Ev.t rfl (Ev.t (by simp) (JT h1)))))
 ·exact Ev.b q1 (Ev.b q2 (Ev.t (by simp) (Ev.t rfl (Ev.t (by simp) (JF _)))))
 ·exact Ev.b q1 (Ev.b q2 (Ev.t (by simp) (Ev.t rfl (Ev.t (by simp) (JF _)))))
end Go.Proofs.YtfoblaonklkaoaaGreat.K
namespace Go.Proofs.YtfoblaonklkaoaaGreat.fnSorterRoundTrip
open Go Go.ChangeShapes Go.WideShapes Go.ChangeAt Go.RowKit Go.Proofs.YtfoblaonklkaoaaGreat.K
open Go.ChangeMaps (open_string shut_string)
set_option linter.unusedVariables false
theorem own : ownKnob Tryz.prog.godebug = none := by kernel_rfl
theorem laidOut : laidOutB Tryz.prog = true := by kernel_rfl
set_option maxRecDepth 100000 in
theorem lifted (os : Os) (started : os.Started) (H : Type) (enc : TypeId × Value → H) :
  ReturnsInHanded {} Tryz.checked os 3 .any (Rows.fnSorterRoundTripSpec.pre6 enc Tryz.prog Tryz.f3 Rows.fnSorterRoundTripRow.domain false) (Rows.fnSorterRoundTripSpec.post enc Tryz.prog Tryz.f3 false true false false) := by
 refine returnsInHanded_of_change_sized (C := Tryz.checked) own started (by kernel_rfl) Tryz.func3
  (ChangeSpec.witness6 (enc := enc) (C := Tryz.checked) false ⟨#[], #[.slice none 0 0], []⟩ 8 (by kernel_rfl) (by kernel_rfl) (by kernel_rfl) (by kernel_rfl)) ?_
 intro W base args ds gs before hval0 hW hcnd hsz0 _
 have hsz : (DataW.weightsEach Tryz.prog (Tryz.f3.params.toList ++ Rows.fnSorterRoundTripSpec.plain.varTypes Tryz.prog) (ds ++ gs)).all (· ≤ reachBytes) = true := hsz0
 have hval : ∀ (j : Nat) t v, Tryz.f3.params[j]? = some t → args[j]? = some v → Value.okWide Tryz.prog W .any base t v := hval0
 have hW' := hW
 obtain ⟨p, q, hA0, hV, rfl, hfz, hnd⟩ := hW
 have hA : DataW.TrodAll enc Tryz.prog W 0 (fun _ => true) true Tryz.f3.params.toList args.toList ds p := hA0
 rw [Tryz.params3] at hA hval hsz
 obtain ⟨v0, vs0, d0, ds0, p0, q0, hargs, rfl, rfl, h0, r0⟩ := trodAll_cons hA
 obtain ⟨rfl, rfl, rfl⟩ := trodAll_nil r0
 obtain rfl : args = #[v0] := by cases args; simp_all
 obtain ⟨rfl, rfl⟩ := trodVars_none hV
 have k0 := h0
 have lt0 : ∀ x ∈ p0, x.block < W.heap.size := by obtain ⟨m, hm⟩ := k0; exact DataW.trod_lt m _ _ _ hm
 obtain ⟨A0, len0, c0, rfl⟩ := okWide_slice Tryz.underlying22 (hval 0 22 v0 rfl rfl)
 obtain ⟨l0, rfl, F0, G0⟩ := TI (Rf Tryz.underlying22 (by kernel_rfl) (by kernel_rfl) (T6 Tryz.underlying5 (by kernel_rfl))) h0
 clear hA0 hval0 hsz0 hsz
 obtain ⟨k, hk⟩ := K.pure_FnSorterRoundTrip l0 G0
 refine (Ua (dC.ok k l0 A0 c0 true hk) (UA F0 Uz)).mono fun e W' he => ?_
 obtain ⟨rfl, bel⟩ := he
 exact ⟨_, rfl, _, _, _, [], _, [], hW', trodAll_mk1 (shut_bool Tryz.underlying4 _), (trodAll_cons_mk (Below.trod laidOut (by kernel_rfl) (of_decide_eq_true (by kernel_rfl)) k0 bel lt0) trodAll_mk0), rfl, bel.frame _, fun h => by cases h⟩
theorem over : Rows.fnSorterRoundTripRow.holds Tryz.pinned (OpenSpec.ofChange Rows.fnSorterRoundTripSpec) :=
 OpenClaim.holds_of_wide 3 Tryz.f3 rfl rfl rfl rfl rfl rfl rfl ⟨rfl, rfl, rfl, rfl, rfl⟩ rfl rfl rfl rfl rfl (by kernel_rfl) Tryz.func3 (by kernel_rfl)
  (of_decide_eq_true (by kernel_rfl)) (by unfold Func.isWrapper; first | (rw [if_pos (by decide +kernel)]; kernel_rfl) | (rw [if_neg (by decide +kernel)]; exact ⟨rfl, rfl⟩))
  (fun os started H enc _ => lifted os started H enc)
theorem proved : Rows.FnSorterRoundTripSaid := over
#print axioms proved
end Go.Proofs.YtfoblaonklkaoaaGreat.fnSorterRoundTrip
namespace Go.Proofs.YtfoblaonklkaoaaGreat
theorem fnSorterRoundTrip_holds : Rows.FnSorterRoundTripSaid := fnSorterRoundTrip.proved
end Go.Proofs.YtfoblaonklkaoaaGreat
