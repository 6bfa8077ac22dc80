/- Written by tools/seatprint.py over the translation. Lean checks it. -/
import Derived.Test.YtoncjohnkiilcaaOpn
import Derived.Test.YtoncjohnkiilcaaChecked
namespace Go.Proofs.Ytoncjohnkiilcaa.P
open Go.RowKit Go.Proofs.YtoncjohnkiilcaaW.PrintWords Go.Proofs.YtoncjohnkiilcaaW.PrintLast Go.Proofs.YtoncjohnkiilcaaW.PrintMore
attribute [local go_sem] max2_int min2_int max_two min_two max_three min_three max_four min_four
set_option linter.unusedVariables false
set_option linter.unusedSimpArgs false

open Go.Proofs.Ytoncjohnkiilcaa.Opn

def rd_L10 (xs : List (List S107)) (i : Int) : (List S107) := xs.getD i.toNat ([] : List S107)
theorem at_L10 {w : World} {A : Option Addr} {n : Nat} {xs : List (List S107)} (h : Kd.C (Kd.slice 107 k107) w A n xs) (i : Int) (h0 : 0 ≤ i) (h1 : i < n) : ∃ ad A0 c0, A = some ad ∧ w.cell? (ad.add i.toNat) = some (.slice A0 (rd_L10 xs i).length c0) ∧ (rd_L10 xs i).length ≤ c0 ∧ k107.C w A0 (rd_L10 xs i).length (rd_L10 xs i) := by
  obtain ⟨ad, c, e, _, hK, hc0⟩ := Kd.C_get h ([] : List S107) i h0 h1
  have hc : ∀ j u, c[j]? = some u → w.cell? (ad.add (i.toNat * 1 + j)) = some u := hc0
  obtain ⟨A0, c0, rfl, l0, g0⟩ := hK
  exact ⟨ad, A0, c0, e, by have hq := hc 0 _ rfl; rwa [Nat.mul_one, Nat.add_zero] at hq, l0, g0⟩

/-! #### struct type 35 -/
structure S35 where
  f0 : (List S107)
  f1 : Int
  f2 : Bool
def z35 : S35 := ⟨([] : List S107), (0 : Int), false⟩
def k35 : Kd S35 := Kd.iso (Kd.pair (Kd.slice 107 k107) (Kd.pair (Kd.int .i64) Kd.bool)) (fun x : S35 => (x.f0, x.f1, x.f2))
theorem k35_open {w : World} {x : S35} {cs : List Value} (h : k35.K w x cs) : ∃ A0 c0, cs = [.slice A0 x.f0.length c0, .int .i64 x.f1, .bool x.f2] ∧ x.f0.length ≤ c0 ∧ k107.C w A0 x.f0.length x.f0 := by
  obtain ⟨_, _, rfl, ⟨A0, c0, rfl, l0, g0⟩, ⟨_, _, rfl, rfl, rfl⟩⟩ := h
  exact ⟨A0, c0, rfl, l0, g0⟩
theorem k35_openM {w : World} {base : Nat} {ok : Nat → Prop} {x : S35} {cs : List Value} (h : k35.M w base ok x cs) : ∃ v0, cs = [v0, .int .i64 x.f1, .bool x.f2] ∧ k107.R 107 w base ok v0 x.f0 := by
  obtain ⟨_, _, rfl, ⟨v0, rfl, g0⟩, ⟨_, _, rfl, rfl, rfl⟩⟩ := h
  exact ⟨v0, rfl, g0⟩
theorem k35_mk (w : World) (x : S35) {A0 : Option Addr} {c0 : Nat} (l0 : x.f0.length ≤ c0) (g0 : k107.C w A0 x.f0.length x.f0) : k35.K w x [.slice A0 x.f0.length c0, .int .i64 x.f1, .bool x.f2] := ⟨[.slice A0 x.f0.length c0], [.int .i64 x.f1, .bool x.f2], rfl, ⟨A0, c0, rfl, l0, g0⟩, ⟨[.int .i64 x.f1], [.bool x.f2], rfl, rfl, rfl⟩⟩
theorem k35_mkM (w : World) (base : Nat) (ok : Nat → Prop) (x : S35) {v0 : Value} (g0 : k107.R 107 w base ok v0 x.f0) : k35.M w base ok x [v0, .int .i64 x.f1, .bool x.f2] := ⟨[v0], [.int .i64 x.f1, .bool x.f2], rfl, ⟨v0, rfl, g0⟩, ⟨[.int .i64 x.f1], [.bool x.f2], rfl, rfl, rfl⟩⟩
theorem k35_openF {W : World} {ok : Nat → Prop} {x : S35} {cs : List Value} (h : Kd.FK k35 W ok x cs) : ∃ A0 c0, cs = [.slice A0 x.f0.length c0, .int .i64 x.f1, .bool x.f2] ∧ x.f0.length ≤ c0 ∧ Kd.F k107 W ok A0 x.f0.length x.f0 := by
  obtain ⟨A0, c0, rfl, l0, _⟩ := k35_open (Kd.FK_now h)
  exact ⟨A0, c0, rfl, l0, (fun W' hW => by obtain ⟨A0_, c0_, he, l0_, g0_⟩ := k35_open (h W' hW); injection (Option.some.inj (show some (Value.slice A0 x.f0.length c0) = some (Value.slice A0_ x.f0.length c0_) from congrArg (fun l => l[0]?) he)) with ha_ _ _; rw [ha_]; exact g0_)⟩
theorem k35_mkF (W : World) (ok : Nat → Prop) (x : S35) {A0 : Option Addr} {c0 : Nat} (l0 : x.f0.length ≤ c0) (g0 : Kd.F k107 W ok A0 x.f0.length x.f0) : Kd.FK k35 W ok x [.slice A0 x.f0.length c0, .int .i64 x.f1, .bool x.f2] := fun W2 hW => k35_mk W2 x l0 (g0 W2 hW)
def rd_T35 (xs : List S35) (i : Int) : S35 := xs.getD i.toNat z35
theorem at_T35 {w : World} {A : Option Addr} {n : Nat} {xs : List S35} (h : Kd.C k35 w A n xs) (i : Int) (h0 : 0 ≤ i) (h1 : i < n) : ∃ ad A0 c0, A = some ad ∧ w.cell? (ad.add (i.toNat * 3)) = some (.slice A0 (rd_T35 xs i).f0.length c0) ∧ w.cell? ⟨(ad.add (i.toNat * 3)).block, (ad.add (i.toNat * 3)).off + 1, none⟩ = some (.int .i64 (rd_T35 xs i).f1) ∧ w.cell? ⟨(ad.add (i.toNat * 3)).block, (ad.add (i.toNat * 3)).off + 2, none⟩ = some (.bool (rd_T35 xs i).f2) ∧ (rd_T35 xs i).f0.length ≤ c0 ∧ k107.C w A0 (rd_T35 xs i).f0.length (rd_T35 xs i).f0 := by
  obtain ⟨ad, c, e, _, hK, hc0⟩ := Kd.C_get h z35 i h0 h1
  have hc : ∀ j u, c[j]? = some u → w.cell? (ad.add (i.toNat * 3 + j)) = some u := hc0
  obtain ⟨A0, c0, rfl, l0, g0⟩ := k35_open hK
  exact ⟨ad, A0, c0, e, hc 0 _ rfl, by rw [← add_field _ _ 1 (by omega)]; exact hc 1 _ rfl, by rw [← add_field _ _ 2 (by omega)]; exact hc 2 _ rfl, l0, g0⟩

def good75 (x : S75) : Prop := (((fun n : Int => (Lit.int .i64 n).wf = true) x.f0) ∧ (((fun n : Int => (Lit.int .i64 n).wf = true) x.f1) ∧ ((fun n : Int => (Lit.int .i64 n).wf = true) x.f2)))
theorem open75 : Opens Try.prog 75 k75 good75 := opens_struct (d := (Kd.pair (Kd.int .i64) (Kd.pair (Kd.int .i64) (Kd.int .i64)))) (f := fun x : S75 => (x.f0, x.f1, x.f2)) Try.underlying75 (by kernel_rfl) (.cons rfl (opens_int Try.underlying3 (by kernel_rfl)) (.cons rfl (opens_int Try.underlying3 (by kernel_rfl)) (.one rfl (opens_int Try.underlying3 (by kernel_rfl))))) (fun p => ⟨p.1, p.2.1, p.2.2⟩) (fun _ => rfl) (fun _ h => h)
def good107 (x : S107) : Prop := (((fun l : List (S75) => l.length ≤ maxLen ∧ ∀ x ∈ l, good75 x) x.f0) ∧ ((fun n : Int => (Lit.int .i64 n).wf = true) x.f1))
theorem open107 : Opens Try.prog 107 k107 good107 := opens_struct (d := (Kd.pair (Kd.slice 75 k75) (Kd.int .i64))) (f := fun x : S107 => (x.f0, x.f1)) Try.underlying107 (by kernel_rfl) (.cons rfl (opens_slice Try.underlying22 (by kernel_rfl) open75) (.one rfl (opens_int Try.underlying3 (by kernel_rfl)))) (fun p => ⟨p.1, p.2⟩) (fun _ => rfl) (fun _ h => h)
def good35 (x : S35) : Prop := (((fun l : List (S107) => l.length ≤ maxLen ∧ ∀ x ∈ l, good107 x) x.f0) ∧ (((fun n : Int => (Lit.int .i64 n).wf = true) x.f1) ∧ ((fun _ : Bool => True) x.f2)))
theorem open35 : Opens Try.prog 35 k35 good35 := opens_struct (d := (Kd.pair (Kd.slice 107 k107) (Kd.pair (Kd.int .i64) Kd.bool))) (f := fun x : S35 => (x.f0, x.f1, x.f2)) Try.underlying35 (by kernel_rfl) (.cons rfl (opens_slice Try.underlying33 (by kernel_rfl) open107) (.cons rfl (opens_int Try.underlying3 (by kernel_rfl)) (.one rfl (opens_bool Try.underlying4 (by kernel_rfl))))) (fun p => ⟨p.1, p.2.1, p.2.2⟩) (fun _ => rfl) (fun _ h => h)
end Go.Proofs.Ytoncjohnkiilcaa.P
