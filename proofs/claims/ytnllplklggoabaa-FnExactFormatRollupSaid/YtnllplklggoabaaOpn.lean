/- Written by tools/seatprint.py over the translation. Lean checks it. -/
import Derived.Test.YtnllplklggoabaaP0
import Derived.ChangeArms
import Derived.WideShapes
import Derived.KernelRfl
namespace Go.Proofs.Ytnllplklggoabaa.Opn
open Go.RowKit Go.Proofs.YtnllplklggoabaaW.PrintWords Go.Proofs.Ytnllplklggoabaa.P
set_option linter.unusedVariables false

/-- Every reading of a type is a value of the kind d that meets G. -/
def Opens (P : Program) (t : TypeId) {α : Type} (d : Kd α) (G : α → Prop) : Prop :=
  d.sz = P.cellsOf t ∧ ∀ (H : Type) (enc : TypeId × Value → H) (w : World) (base : Nat) (sp : Nat → Bool) (held : Bool) (fuel : Nat) (cs : List Value) (x : DataW H × List MemPlace),
    DataW.trod enc P w base sp held fuel t cs = some x → ∃ a, d.K w a cs ∧ G a

theorem add_add (a : Addr) (i j : Nat) : (a.add i).add j = a.add (i + j) := by
  unfold Addr.add
  by_cases hi : i = 0 <;> by_cases hj : j = 0 <;> simp [hi, hj, Nat.add_assoc]

theorem list_of {α : Type} {n : Nat} {p : Nat → α → Prop} (h : ∀ i, i < n → ∃ y, p i y) : ∃ l : List α, l.length = n ∧ ∀ i y, l[i]? = some y → p i y := by
  induction n with
  | zero => exact ⟨[], rfl, fun i y hi => by simp at hi⟩
  | succ n ih =>
    obtain ⟨l, hl, hp⟩ := ih (fun i hi => h i (by omega))
    obtain ⟨y, hy⟩ := h n (by omega)
    refine ⟨l ++ [y], by simp [hl], fun i z hz => ?_⟩
    rcases Nat.lt_or_ge i l.length with hi | hi
    · rw [List.getElem?_append_left hi] at hz
      exact hp i z hz
    · have h2 : i < (l ++ [y]).length := (List.getElem?_eq_some_iff.1 hz).1
      rw [List.length_append, List.length_singleton] at h2
      have h3 : i = l.length := by omega
      subst h3
      rw [List.getElem?_append_right (Nat.le_refl _), Nat.sub_self] at hz
      simp at hz
      subst hz
      rw [hl]
      exact hy

section
variable {P : Program} {t e : TypeId}
theorem opens_int {k : IntKind} (ht : P.underlying t = some (.int k)) (hc : P.cellsOf t = 1) : Opens P t (Kd.int k) (fun n : Int => (Lit.int k n).wf = true) :=
  ⟨hc.symm, fun H enc w base sp held fuel cs x h => by
    obtain ⟨n, rfl, _, hw⟩ := DataW.trod_int ht h
    exact ⟨n, rfl, hw⟩⟩
theorem opens_bool (ht : P.underlying t = some .bool) (hc : P.cellsOf t = 1) : Opens P t Kd.bool (fun _ : Bool => True) :=
  ⟨hc.symm, fun H enc w base sp held fuel cs x h => by
    obtain ⟨n, rfl, _⟩ := DataW.trod_bool ht h
    exact ⟨n, rfl, trivial⟩⟩
theorem opens_string (ht : P.underlying t = some .string) (hc : P.cellsOf t = 1) : Opens P t Kd.string (fun s : ByteArray => s.size ≤ maxLen) :=
  ⟨hc.symm, fun H enc w base sp held fuel cs x h => by
    obtain ⟨n, rfl, _, hw⟩ := DataW.trod_string ht h
    exact ⟨n, rfl, hw⟩⟩
theorem opens_slice {α : Type} {d : Kd α} {G : α → Prop} (ht : P.underlying t = some (.slice e)) (hc : P.cellsOf t = 1) (h : Opens P e d G) : Opens P t (Kd.slice e d) (fun l : List α => l.length ≤ maxLen ∧ ∀ x ∈ l, G x) := by
  refine ⟨hc.symm, ?_⟩
  intro H enc w base sp held fuel cs x hx
  rcases DataW.trod_slice ht hx with ⟨rfl, _⟩ | ⟨a, len, cap, elems, rest, n, _, rfl, _, hb, hl, hm, hlen, hel, _, _⟩
  · exact ⟨[], ⟨none, 0, rfl, Nat.le_refl _, rfl, by simp, fun h => absurd h (Nat.lt_irrefl 0)⟩, by simp, by simp⟩
  · have key : ∀ i, i < len → ∃ y : α, (∃ c, w.cells? base (a.add (i * P.cellsOf e)) (P.cellsOf e) = some c ∧ d.K w y c) ∧ G y := by
      intro i hi
      have h1 := hel i hi
      rw [List.getElem?_eq_getElem (by omega)] at h1
      obtain ⟨c, hc1, hc2⟩ := Option.bind_eq_some_iff.1 h1
      obtain ⟨y, hy, hg⟩ := h.2 _ _ _ _ _ _ _ _ _ hc2
      exact ⟨y, ⟨c, hc1, hy⟩, hg⟩
    obtain ⟨l, hll, hlg⟩ := list_of key
    have hm' : len ≤ 9223372036854775807 := Nat.le_trans hl (by simpa [maxLen] using hm)
    refine ⟨l, ⟨some a, cap, by rw [hll], by omega, rfl, by omega, fun _ => ⟨a, rfl, fun j p hj => ?_⟩⟩, by rw [hll]; simpa [maxLen] using hm', fun y hy => ?_⟩
    · obtain ⟨⟨c, h1, h2⟩, _⟩ := hlg j p hj
      obtain ⟨_, hlen2, hcell⟩ := World.cells?_some h1
      refine ⟨c, hlen2.trans h.1.symm, h2, fun i u hu => ?_⟩
      have hi : i < P.cellsOf e := by rw [← hlen2]; exact (List.getElem?_eq_some_iff.1 hu).1
      rw [h.1, ← add_add, hcell i hi]
      exact hu
    · obtain ⟨j, hj⟩ := List.getElem?_of_mem hy
      exact (hlg j y hj).2
end

/-- The fields of a struct, from a cell on, as a chain of pairs. -/
inductive OpensFs (P : Program) : List Field → Nat → (α : Type) → Kd α → (α → Prop) → Prop
  | one {f : Field} {off : Nat} {α : Type} {d : Kd α} {G : α → Prop} (hf : f.offset = off) (h : Opens P f.type d G) : OpensFs P [f] off α d G
  | cons {f : Field} {fs : List Field} {off : Nat} {α β : Type} {d : Kd α} {G : α → Prop} {d' : Kd β} {G' : β → Prop} (hf : f.offset = off) (h : Opens P f.type d G) (h' : OpensFs P fs (off + d.sz) β d' G') :
      OpensFs P (f :: fs) off (α × β) (Kd.pair d d') (fun x => G x.1 ∧ G' x.2)

theorem opensFs_open {P : Program} {H : Type} {enc : TypeId × Value → H} {w : World} {base : Nat} {sp : Nat → Bool} {held : Bool} {n : Nat} {cs : List Value} {fs : List Field} {off : Nat} {α : Type} {d : Kd α} {G : α → Prop}
    (h : OpensFs P fs off α d G) : (∀ f ∈ fs, ∃ x, DataW.trod enc P w base sp held n f.type ((cs.drop f.offset).take (P.cellsOf f.type)) = some x) → cs.length = off + d.sz → ∃ a, d.K w a (cs.drop off) ∧ G a := by
  induction h with
  | @one f off α d G hf h =>
    intro hx hl
    obtain ⟨x, hx⟩ := hx f (by simp)
    rw [hf, ← h.1, List.take_of_length_le (by rw [List.length_drop]; omega)] at hx
    exact h.2 _ _ _ _ _ _ _ _ _ hx
  | @cons f fs off α β d G d' G' hf h h' ih =>
    intro hx hl
    obtain ⟨x, hx1⟩ := hx f (by simp)
    rw [hf, ← h.1] at hx1
    obtain ⟨a, ha, hga⟩ := h.2 _ _ _ _ _ _ _ _ _ hx1
    have hl' : cs.length = (off + d.sz) + d'.sz := by rw [hl]; exact (Nat.add_assoc _ _ _).symm
    obtain ⟨b, hb, hgb⟩ := ih (fun g hg => hx g (by simp [hg])) hl'
    refine ⟨(a, b), ⟨(cs.drop off).take d.sz, cs.drop (off + d.sz), ?_, ha, hb⟩, hga, hgb⟩
    rw [← List.drop_drop, List.take_append_drop]

theorem opens_struct {P : Program} {t : TypeId} {fs : Array Field} {α β : Type} {d : Kd α} {G : α → Prop} {f : β → α} {Gb : β → Prop} (ht : P.underlying t = some (.struct fs)) (hs : d.sz = P.cellsOf t) (hF : OpensFs P fs.toList 0 α d G) (g : α → β) (hg : ∀ a, f (g a) = a) (hG : ∀ a, G a → Gb (g a)) :
    Opens P t (Kd.iso d f) Gb := by
  refine ⟨hs, ?_⟩
  intro H enc w base sp held fuel cs x hx
  obtain ⟨xs, n, _, _, hl, hlen, hf⟩ := DataW.trod_struct ht hx
  have hall : ∀ q ∈ fs.toList, ∃ x, DataW.trod enc P w base sp held n q.type ((cs.drop q.offset).take (P.cellsOf q.type)) = some x := by
    intro q hq
    obtain ⟨i, hi⟩ := List.getElem?_of_mem hq
    have hi' : fs[i]? = some q := by rw [← Array.getElem?_toList]; exact hi
    have hlt : i < xs.length := by rw [hlen, ← Array.length_toList]; exact (List.getElem?_eq_some_iff.1 hi).1
    exact ⟨xs[i], by rw [hf i q hi', List.getElem?_eq_getElem hlt]⟩
  obtain ⟨a, ha, hga⟩ := opensFs_open hF hall (by rw [hl, hs]; omega)
  rw [List.drop_zero] at ha
  refine ⟨g a, ?_, hG a hga⟩
  show d.K w (f (g a)) cs
  rw [hg]
  exact ha

section
variable {P : Program} {H : Type} {enc : TypeId × Value → H} {w : World} {base : Nat} {sp : Nat → Bool} {held : Bool} {t : TypeId}
theorem open_arg {α : Type} {d : Kd α} {G : α → Prop} (h : Opens P t d G) {v : Value} {x : DataW H} {ps : List MemPlace} (hv : DataW.Trod enc P w base sp held t v x ps) : ∃ a, d.K w a v.cells.toList ∧ G a := by
  obtain ⟨fuel, hf⟩ := hv
  exact h.2 _ _ _ _ _ _ _ _ _ hf
theorem open_slice_arg {α : Type} {e : Nat} {d : Kd α} {G : List α → Prop} (h : Opens P t (Kd.slice e d) G) {a : Option Addr} {len cap : Nat} {x : DataW H} {ps : List MemPlace} (hv : DataW.Trod enc P w base sp held t (.slice a len cap) x ps) :
    ∃ l : List α, (len = l.length ∧ l.length ≤ cap ∧ d.C w a l.length l) ∧ G l := by
  obtain ⟨l, ⟨A, c, he, hc, hr⟩, hg⟩ := open_arg h hv
  have he' : [Value.slice a len cap] = [Value.slice A l.length c] := he
  injection he' with he' _
  injection he' with h1 h2 h3
  subst h1 h3
  exact ⟨l, ⟨h2, hc, hr⟩, hg⟩
end
end Go.Proofs.Ytnllplklggoabaa.Opn


