/- Written by tools/seatprint.py over the translation. Lean checks it. -/
import Derived.Test.YtnllplklggoabaaOpn
import Derived.Test.YtnllplklggoabaaChecked
namespace Go.Proofs.Ytnllplklggoabaa.P
open Go.RowKit Go.Proofs.YtnllplklggoabaaW.PrintWords Go.Proofs.YtnllplklggoabaaW.PrintLast Go.Proofs.YtnllplklggoabaaW.PrintMore
attribute [local go_sem] max2_int min2_int max_two min_two max_three min_three max_four min_four
set_option linter.unusedVariables false
set_option linter.unusedSimpArgs false

open Go.Proofs.Ytnllplklggoabaa.Opn

def rd_L17 (xs : List (List S130)) (i : Int) : (List S130) := xs.getD i.toNat ([] : List S130)
theorem at_L17 {w : World} {A : Option Addr} {n : Nat} {xs : List (List S130)} (h : Kd.C (Kd.slice 130 k130) w A n xs) (i : Int) (h0 : 0 ≤ i) (h1 : i < n) : ∃ ad A0 c0, A = some ad ∧ w.cell? (ad.add i.toNat) = some (.slice A0 (rd_L17 xs i).length c0) ∧ (rd_L17 xs i).length ≤ c0 ∧ k130.C w A0 (rd_L17 xs i).length (rd_L17 xs i) := by
  obtain ⟨ad, c, e, _, hK, hc0⟩ := Kd.C_get h ([] : List S130) i h0 h1
  have hc : ∀ j u, c[j]? = some u → w.cell? (ad.add (i.toNat * 1 + j)) = some u := hc0
  obtain ⟨A0, c0, rfl, l0, g0⟩ := hK
  exact ⟨ad, A0, c0, e, by have hq := hc 0 _ rfl; rwa [Nat.mul_one, Nat.add_zero] at hq, l0, g0⟩

/-! #### struct type 43 -/
structure S43 where
  f0 : (List S130)
  f1 : Int
  f2 : Bool
def z43 : S43 := ⟨([] : List S130), (0 : Int), false⟩
def k43 : Kd S43 := Kd.iso (Kd.pair (Kd.slice 130 k130) (Kd.pair (Kd.int .i64) Kd.bool)) (fun x : S43 => (x.f0, x.f1, x.f2))
theorem k43_open {w : World} {x : S43} {cs : List Value} (h : k43.K w x cs) : ∃ A0 c0, cs = [.slice A0 x.f0.length c0, .int .i64 x.f1, .bool x.f2] ∧ x.f0.length ≤ c0 ∧ k130.C w A0 x.f0.length x.f0 := by
  obtain ⟨_, _, rfl, ⟨A0, c0, rfl, l0, g0⟩, ⟨_, _, rfl, rfl, rfl⟩⟩ := h
  exact ⟨A0, c0, rfl, l0, g0⟩
theorem k43_openM {w : World} {base : Nat} {ok : Nat → Prop} {x : S43} {cs : List Value} (h : k43.M w base ok x cs) : ∃ v0, cs = [v0, .int .i64 x.f1, .bool x.f2] ∧ k130.R 130 w base ok v0 x.f0 := by
  obtain ⟨_, _, rfl, ⟨v0, rfl, g0⟩, ⟨_, _, rfl, rfl, rfl⟩⟩ := h
  exact ⟨v0, rfl, g0⟩
theorem k43_mk (w : World) (x : S43) {A0 : Option Addr} {c0 : Nat} (l0 : x.f0.length ≤ c0) (g0 : k130.C w A0 x.f0.length x.f0) : k43.K w x [.slice A0 x.f0.length c0, .int .i64 x.f1, .bool x.f2] := ⟨[.slice A0 x.f0.length c0], [.int .i64 x.f1, .bool x.f2], rfl, ⟨A0, c0, rfl, l0, g0⟩, ⟨[.int .i64 x.f1], [.bool x.f2], rfl, rfl, rfl⟩⟩
theorem k43_mkM (w : World) (base : Nat) (ok : Nat → Prop) (x : S43) {v0 : Value} (g0 : k130.R 130 w base ok v0 x.f0) : k43.M w base ok x [v0, .int .i64 x.f1, .bool x.f2] := ⟨[v0], [.int .i64 x.f1, .bool x.f2], rfl, ⟨v0, rfl, g0⟩, ⟨[.int .i64 x.f1], [.bool x.f2], rfl, rfl, rfl⟩⟩
def rd_T43 (xs : List S43) (i : Int) : S43 := xs.getD i.toNat z43
theorem at_T43 {w : World} {A : Option Addr} {n : Nat} {xs : List S43} (h : Kd.C k43 w A n xs) (i : Int) (h0 : 0 ≤ i) (h1 : i < n) : ∃ ad A0 c0, A = some ad ∧ w.cell? (ad.add (i.toNat * 3)) = some (.slice A0 (rd_T43 xs i).f0.length c0) ∧ w.cell? ⟨(ad.add (i.toNat * 3)).block, (ad.add (i.toNat * 3)).off + 1, none⟩ = some (.int .i64 (rd_T43 xs i).f1) ∧ w.cell? ⟨(ad.add (i.toNat * 3)).block, (ad.add (i.toNat * 3)).off + 2, none⟩ = some (.bool (rd_T43 xs i).f2) ∧ (rd_T43 xs i).f0.length ≤ c0 ∧ k130.C w A0 (rd_T43 xs i).f0.length (rd_T43 xs i).f0 := by
  obtain ⟨ad, c, e, _, hK, hc0⟩ := Kd.C_get h z43 i h0 h1
  have hc : ∀ j u, c[j]? = some u → w.cell? (ad.add (i.toNat * 3 + j)) = some u := hc0
  obtain ⟨A0, c0, rfl, l0, g0⟩ := k43_open hK
  exact ⟨ad, A0, c0, e, hc 0 _ rfl, by rw [← add_field _ _ 1 (by omega)]; exact hc 1 _ rfl, by rw [← add_field _ _ 2 (by omega)]; exact hc 2 _ rfl, l0, g0⟩

def rd_L19 (xs : List (List S32)) (i : Int) : (List S32) := xs.getD i.toNat ([] : List S32)
theorem at_L19 {w : World} {A : Option Addr} {n : Nat} {xs : List (List S32)} (h : Kd.C (Kd.slice 32 k32) w A n xs) (i : Int) (h0 : 0 ≤ i) (h1 : i < n) : ∃ ad A0 c0, A = some ad ∧ w.cell? (ad.add i.toNat) = some (.slice A0 (rd_L19 xs i).length c0) ∧ (rd_L19 xs i).length ≤ c0 ∧ k32.C w A0 (rd_L19 xs i).length (rd_L19 xs i) := by
  obtain ⟨ad, c, e, _, hK, hc0⟩ := Kd.C_get h ([] : List S32) i h0 h1
  have hc : ∀ j u, c[j]? = some u → w.cell? (ad.add (i.toNat * 1 + j)) = some u := hc0
  obtain ⟨A0, c0, rfl, l0, g0⟩ := hK
  exact ⟨ad, A0, c0, e, by have hq := hc 0 _ rfl; rwa [Nat.mul_one, Nat.add_zero] at hq, l0, g0⟩

/-! #### struct type 54 -/
structure S54 where
  f0 : (List S32)
  f1 : Int
  f2 : Int
def z54 : S54 := ⟨([] : List S32), (0 : Int), (0 : Int)⟩
def k54 : Kd S54 := Kd.iso (Kd.pair (Kd.slice 32 k32) (Kd.pair (Kd.int .i64) (Kd.int .i64))) (fun x : S54 => (x.f0, x.f1, x.f2))
theorem k54_open {w : World} {x : S54} {cs : List Value} (h : k54.K w x cs) : ∃ A0 c0, cs = [.slice A0 x.f0.length c0, .int .i64 x.f1, .int .i64 x.f2] ∧ x.f0.length ≤ c0 ∧ k32.C w A0 x.f0.length x.f0 := by
  obtain ⟨_, _, rfl, ⟨A0, c0, rfl, l0, g0⟩, ⟨_, _, rfl, rfl, rfl⟩⟩ := h
  exact ⟨A0, c0, rfl, l0, g0⟩
theorem k54_openM {w : World} {base : Nat} {ok : Nat → Prop} {x : S54} {cs : List Value} (h : k54.M w base ok x cs) : ∃ v0, cs = [v0, .int .i64 x.f1, .int .i64 x.f2] ∧ k32.R 32 w base ok v0 x.f0 := by
  obtain ⟨_, _, rfl, ⟨v0, rfl, g0⟩, ⟨_, _, rfl, rfl, rfl⟩⟩ := h
  exact ⟨v0, rfl, g0⟩
theorem k54_mk (w : World) (x : S54) {A0 : Option Addr} {c0 : Nat} (l0 : x.f0.length ≤ c0) (g0 : k32.C w A0 x.f0.length x.f0) : k54.K w x [.slice A0 x.f0.length c0, .int .i64 x.f1, .int .i64 x.f2] := ⟨[.slice A0 x.f0.length c0], [.int .i64 x.f1, .int .i64 x.f2], rfl, ⟨A0, c0, rfl, l0, g0⟩, ⟨[.int .i64 x.f1], [.int .i64 x.f2], rfl, rfl, rfl⟩⟩
theorem k54_mkM (w : World) (base : Nat) (ok : Nat → Prop) (x : S54) {v0 : Value} (g0 : k32.R 32 w base ok v0 x.f0) : k54.M w base ok x [v0, .int .i64 x.f1, .int .i64 x.f2] := ⟨[v0], [.int .i64 x.f1, .int .i64 x.f2], rfl, ⟨v0, rfl, g0⟩, ⟨[.int .i64 x.f1], [.int .i64 x.f2], rfl, rfl, rfl⟩⟩
def rd_T54 (xs : List S54) (i : Int) : S54 := xs.getD i.toNat z54
theorem at_T54 {w : World} {A : Option Addr} {n : Nat} {xs : List S54} (h : Kd.C k54 w A n xs) (i : Int) (h0 : 0 ≤ i) (h1 : i < n) : ∃ ad A0 c0, A = some ad ∧ w.cell? (ad.add (i.toNat * 3)) = some (.slice A0 (rd_T54 xs i).f0.length c0) ∧ w.cell? ⟨(ad.add (i.toNat * 3)).block, (ad.add (i.toNat * 3)).off + 1, none⟩ = some (.int .i64 (rd_T54 xs i).f1) ∧ w.cell? ⟨(ad.add (i.toNat * 3)).block, (ad.add (i.toNat * 3)).off + 2, none⟩ = some (.int .i64 (rd_T54 xs i).f2) ∧ (rd_T54 xs i).f0.length ≤ c0 ∧ k32.C w A0 (rd_T54 xs i).f0.length (rd_T54 xs i).f0 := by
  obtain ⟨ad, c, e, _, hK, hc0⟩ := Kd.C_get h z54 i h0 h1
  have hc : ∀ j u, c[j]? = some u → w.cell? (ad.add (i.toNat * 3 + j)) = some u := hc0
  obtain ⟨A0, c0, rfl, l0, g0⟩ := k54_open hK
  exact ⟨ad, A0, c0, e, hc 0 _ rfl, by rw [← add_field _ _ 1 (by omega)]; exact hc 1 _ rfl, by rw [← add_field _ _ 2 (by omega)]; exact hc 2 _ rfl, l0, g0⟩

def good81 (x : S81) : Prop := (((fun n : Int => (Lit.int .i64 n).wf = true) x.f0) ∧ (((fun n : Int => (Lit.int .i64 n).wf = true) x.f1) ∧ (((fun n : Int => (Lit.int .i64 n).wf = true) x.f2) ∧ (((fun n : Int => (Lit.int .i64 n).wf = true) x.f3) ∧ ((fun n : Int => (Lit.int .i64 n).wf = true) x.f4)))))
theorem open81 : Opens Try.prog 81 k81 good81 := opens_struct (d := (Kd.pair (Kd.int .i64) (Kd.pair (Kd.int .i64) (Kd.pair (Kd.int .i64) (Kd.pair (Kd.int .i64) (Kd.int .i64)))))) (f := fun x : S81 => (x.f0, x.f1, x.f2, x.f3, x.f4)) Try.underlying81 (by kernel_rfl) (.cons rfl (opens_int Try.underlying3 (by kernel_rfl)) (.cons rfl (opens_int Try.underlying3 (by kernel_rfl)) (.cons rfl (opens_int Try.underlying3 (by kernel_rfl)) (.cons rfl (opens_int Try.underlying3 (by kernel_rfl)) (.one rfl (opens_int Try.underlying3 (by kernel_rfl))))))) (fun p => ⟨p.1, p.2.1, p.2.2.1, p.2.2.2.1, p.2.2.2.2⟩) (fun _ => rfl) (fun _ h => h)
def good83 (x : S83) : Prop := (((fun n : Int => (Lit.int .i64 n).wf = true) x.f0) ∧ (good81 x.f1))
theorem open83 : Opens Try.prog 83 k83 good83 := opens_struct (d := (Kd.pair (Kd.int .i64) k81)) (f := fun x : S83 => (x.f0, x.f1)) Try.underlying83 (by kernel_rfl) (.cons rfl (opens_int Try.underlying3 (by kernel_rfl)) (.one rfl open81)) (fun p => ⟨p.1, p.2⟩) (fun _ => rfl) (fun _ h => h)
def good126 (x : S126) : Prop := (((fun n : Int => (Lit.int .i64 n).wf = true) x.f0) ∧ (((fun n : Int => (Lit.int .i64 n).wf = true) x.f1) ∧ ((fun n : Int => (Lit.int .i64 n).wf = true) x.f2)))
theorem open126 : Opens Try.prog 126 k126 good126 := opens_struct (d := (Kd.pair (Kd.int .i64) (Kd.pair (Kd.int .i64) (Kd.int .i64)))) (f := fun x : S126 => (x.f0, x.f1, x.f2)) Try.underlying126 (by kernel_rfl) (.cons rfl (opens_int Try.underlying3 (by kernel_rfl)) (.cons rfl (opens_int Try.underlying3 (by kernel_rfl)) (.one rfl (opens_int Try.underlying3 (by kernel_rfl))))) (fun p => ⟨p.1, p.2.1, p.2.2⟩) (fun _ => rfl) (fun _ h => h)
def good32 (x : S32) : Prop := (((fun n : Int => (Lit.int .i64 n).wf = true) x.f0) ∧ (((fun l : List (S126) => l.length ≤ maxLen ∧ ∀ x ∈ l, good126 x) x.f1) ∧ (((fun l : List (S126) => l.length ≤ maxLen ∧ ∀ x ∈ l, good126 x) x.f2) ∧ (((fun l : List Bool => l.length ≤ maxLen ∧ ∀ x ∈ l, (fun _ : Bool => True) x) x.f3) ∧ ((fun n : Int => (Lit.int .i64 n).wf = true) x.f4)))))
theorem open32 : Opens Try.prog 32 k32 good32 := opens_struct (d := (Kd.pair (Kd.int .i64) (Kd.pair (Kd.slice 126 k126) (Kd.pair (Kd.slice 126 k126) (Kd.pair (Kd.slice 4 Kd.bool) (Kd.int .i64)))))) (f := fun x : S32 => (x.f0, x.f1, x.f2, x.f3, x.f4)) Try.underlying32 (by kernel_rfl) (.cons rfl (opens_int Try.underlying3 (by kernel_rfl)) (.cons rfl (opens_slice Try.underlying29 (by kernel_rfl) open126) (.cons rfl (opens_slice Try.underlying29 (by kernel_rfl) open126) (.cons rfl (opens_slice Try.underlying30 (by kernel_rfl) (opens_bool Try.underlying4 (by kernel_rfl))) (.one rfl (opens_int Try.underlying3 (by kernel_rfl))))))) (fun p => ⟨p.1, p.2.1, p.2.2.1, p.2.2.2.1, p.2.2.2.2⟩) (fun _ => rfl) (fun _ h => h)
def good130 (x : S130) : Prop := (((fun l : List (S126) => l.length ≤ maxLen ∧ ∀ x ∈ l, good126 x) x.f0) ∧ ((fun n : Int => (Lit.int .i64 n).wf = true) x.f1))
theorem open130 : Opens Try.prog 130 k130 good130 := opens_struct (d := (Kd.pair (Kd.slice 126 k126) (Kd.int .i64))) (f := fun x : S130 => (x.f0, x.f1)) Try.underlying130 (by kernel_rfl) (.cons rfl (opens_slice Try.underlying29 (by kernel_rfl) open126) (.one rfl (opens_int Try.underlying3 (by kernel_rfl)))) (fun p => ⟨p.1, p.2⟩) (fun _ => rfl) (fun _ h => h)
def good43 (x : S43) : Prop := (((fun l : List (S130) => l.length ≤ maxLen ∧ ∀ x ∈ l, good130 x) x.f0) ∧ (((fun n : Int => (Lit.int .i64 n).wf = true) x.f1) ∧ ((fun _ : Bool => True) x.f2)))
theorem open43 : Opens Try.prog 43 k43 good43 := opens_struct (d := (Kd.pair (Kd.slice 130 k130) (Kd.pair (Kd.int .i64) Kd.bool))) (f := fun x : S43 => (x.f0, x.f1, x.f2)) Try.underlying43 (by kernel_rfl) (.cons rfl (opens_slice Try.underlying41 (by kernel_rfl) open130) (.cons rfl (opens_int Try.underlying3 (by kernel_rfl)) (.one rfl (opens_bool Try.underlying4 (by kernel_rfl))))) (fun p => ⟨p.1, p.2.1, p.2.2⟩) (fun _ => rfl) (fun _ h => h)
def good54 (x : S54) : Prop := (((fun l : List (S32) => l.length ≤ maxLen ∧ ∀ x ∈ l, good32 x) x.f0) ∧ (((fun n : Int => (Lit.int .i64 n).wf = true) x.f1) ∧ ((fun n : Int => (Lit.int .i64 n).wf = true) x.f2)))
theorem open54 : Opens Try.prog 54 k54 good54 := opens_struct (d := (Kd.pair (Kd.slice 32 k32) (Kd.pair (Kd.int .i64) (Kd.int .i64)))) (f := fun x : S54 => (x.f0, x.f1, x.f2)) Try.underlying54 (by kernel_rfl) (.cons rfl (opens_slice Try.underlying52 (by kernel_rfl) open32) (.cons rfl (opens_int Try.underlying3 (by kernel_rfl)) (.one rfl (opens_int Try.underlying3 (by kernel_rfl))))) (fun p => ⟨p.1, p.2.1, p.2.2⟩) (fun _ => rfl) (fun _ h => h)
end Go.Proofs.Ytnllplklggoabaa.P
