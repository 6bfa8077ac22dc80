/- Written by tools/seatprint.py over the translation. Lean checks it. -/
import Derived.Test.YtfcebaplphpajaaP0
import Derived.Test.YtfcebaplphpajaaP6bc0
import Derived.Test.YtfcebaplphpajaaP6fc0
namespace Go.Proofs.Ytfcebaplphpajaa.P
open Go.RowKit Go.Proofs.YtfcebaplphpajaaW.PrintWords Go.Proofs.YtfcebaplphpajaaW.PrintLast Go.Proofs.YtfcebaplphpajaaW.PrintMore
attribute [local go_sem] max2_int min2_int max_two min_two max_three min_three max_four min_four
set_option linter.unusedVariables false
set_option linter.unusedSimpArgs false

attribute [local go_sem high] eqA77
/-! ### spec_l6Rows: function 88 -/
def spec_l6Rows.l0 : Nat → List (S77) → List (S77) → Int → Option (Bool)
 | 0, _, _, _ => none
 | k + 1, x0, x1, x5 => if x5 < (x0.length : Int) then (if 0 ≤ x5 then (if x5 < (x1.length : Int) then (if (!(((rd_T77 x0 x5).f0) == ((rd_T77 x1 x5).f0)) || (!(((rd_T77 x0 x5).f1) == ((rd_T77 x1 x5).f1)) || (!(((rd_T77 x0 x5).f2) == ((rd_T77 x1 x5).f2))))) = true then (some false) else (spec_l6Rows.l0 k x0 x1 (wrap64 (x5 + 1)))) else (none)) else (none)) else (some true)
def spec_l6Rows.f (k : Nat) (l0 : List (S77)) (l1 : List (S77)) : Option (Bool) := if (l0.length : Int) = (l1.length : Int) then (spec_l6Rows.l0 k l0 l1 0) else (some false)
theorem spec_l6Rows.mono_l : ∀ k, (∀ y0 y1 y2, LeO (spec_l6Rows.l0 k y0 y1 y2) (spec_l6Rows.l0 (k + 1) y0 y1 y2))
 | 0 => fun _ _ _ r h => by simp [spec_l6Rows.l0] at h
 | k + 1 => by
  have ih0 := spec_l6Rows.mono_l k
  ·
   intro y0 y1 y2
   unfold spec_l6Rows.l0
   repeat' first
   | (with_reducible exact ih0 _ _ _)
   | (with_reducible exact LeO.refl _)
   | (with_reducible exact LeO.none _)
   | (with_reducible refine LeO.ite ?_ ?_)
   | (with_reducible refine LeO.bind ?_ (fun _ => ?_))
   | exact ih0 _ _ _
   | exact LeO.none _
   | refine LeO.ite ?_ ?_
   | refine LeO.bind ?_ (fun _ => ?_)
theorem spec_l6Rows.mono : ∀ a0 a1 k, LeO (spec_l6Rows.f k a0 a1) (spec_l6Rows.f (k + 1) a0 a1) := by
 intro a0 a1 k
 have ih0 := spec_l6Rows.mono_l k
 unfold spec_l6Rows.f
 repeat' first
   | (with_reducible exact ih0 _ _ _)
   | (with_reducible exact LeO.refl _)
   | (with_reducible exact LeO.none _)
   | (with_reducible refine LeO.ite ?_ ?_)
   | (with_reducible refine LeO.bind ?_ (fun _ => ?_))
   | exact ih0 _ _ _
   | exact LeO.none _
   | refine LeO.ite ?_ ?_
   | refine LeO.bind ?_ (fun _ => ?_)
set_option maxHeartbeats 8000000 in
set_option maxRecDepth 100000 in
theorem spec_l6Rows.calls (k : Nat) (A0 : Option Addr) (c0 : Nat) (l0 : List (S77)) (A1 : Option Addr) (c1 : Nat) (l1 : List (S77)) (r : Bool) (w : World) (hr0 : Kd.C k77 w A0 l0.length l0) (hc0 : l0.length ≤ c0) (hr1 : Kd.C k77 w A1 l1.length l1) (hc1 : l1.length ≤ c1) (h : spec_l6Rows.f k l0 l1 = some r) :
  Calls Try.prog 88 #[.slice A0 l0.length c0, .slice A1 l1.length c1] w fun e w' => e = .returned (.bool r) ∧ Drawn0 w w' := by
 have hu77 := Try.underlying77
 have HR0 := mA hr0
 have HC0 := mA hc0
 clear hr0 hc0
 have HR1 := mA hr1
 have HC1 := mA hc1
 clear hr1 hc1
 have H : (if (l0.length : Int) = (l1.length : Int) then (spec_l6Rows.l0 k l0 l1 0) else (some false)) = some r := h
 clear h
 by_cases c3 : (l0.length : Int) = (l1.length : Int)
 ·
  rw [if_pos c3] at H
  have c3b0 : ((l0.length : Int) == (l1.length : Int)) = true := beq_iff_eq.mpr c3
  have c3b1 : ((l0.length : Int) != (l1.length : Int)) = false := bne_eq_false_iff_eq.mpr c3
  have c3b2 : (l0.length == l1.length) = true := by first | simpa using c3 | (simp at c3 ⊢; omega)
  clear c3
  have H' := mA H
  clear H
  go_enter Try.func88, Try.ntmps88
  go_wp2
  repeat (go_quiet (fail); try go_wp2)
  go_loopg [5] k (fun kq v5 w' => ∃ (x5_1 : Int), v5 = .int .i64 x5_1 ∧ Aside0 (spec_l6Rows.l0 kq l0 l1 x5_1 = some r) ∧ Aside0 (kq ≤ k) ∧ Drawn0 w w')
  case atStart => exact ⟨(0), sT, H', ⟨Nat.le_refl _⟩, by repeat (first | exact Drawn0.refl _ | apply Drawn0.step)⟩
  case round =>
   clear H'
   try clear c1
   try clear p2
   try clear c3
   try clear c3b0
   try clear c3b1
   try clear c3b2
   obtain ⟨x5_1, rfl, HA, HK1, ⟨m1, rfl⟩⟩ := hrel
   cases gk with
   | zero => exact absurd HA.out (by simp [spec_l6Rows.l0])
   | succ k1 =>
    have H := HA.out
    clear HA
    simp only [spec_l6Rows.l0] at H
    by_cases c4 : x5_1 < (l0.length : Int)
    ·
     rw [if_pos c4] at H
     have c4b0 : decide (x5_1 < (l0.length : Int)) = true := decide_eq_true c4
     clear c4
     by_cases c5 : 0 ≤ x5_1
     ·
      rw [if_pos c5] at H
      have c5b0 : decide (0 ≤ x5_1) = true := decide_eq_true c5
      clear c5
      by_cases c6 : x5_1 < (l1.length : Int)
      ·
       rw [if_pos c6] at H
       have c6b0 : decide (x5_1 < (l1.length : Int)) = true := decide_eq_true c6
       clear c6
       by_cases c7 : (!(((rd_T77 l0 x5_1).f0) == ((rd_T77 l1 x5_1).f0)) || (!(((rd_T77 l0 x5_1).f1) == ((rd_T77 l1 x5_1).f1)) || (!(((rd_T77 l0 x5_1).f2) == ((rd_T77 l1 x5_1).f2))))) = true
       ·
        rw [if_pos c7] at H
        have c7b0 : (!(((rd_T77 l0 x5_1).f0) == ((rd_T77 l1 x5_1).f0)) || (!(((rd_T77 l0 x5_1).f1) == ((rd_T77 l1 x5_1).f1)) || (!(((rd_T77 l0 x5_1).f2) == ((rd_T77 l1 x5_1).f2))))) = true := c7
        clear c7
        obtain rfl := Option.some.inj H
        have p267 : 0 ≤ (x5_1 : Int) := of_decide_eq_true aT
        have q267 : x5_1 < (l0.length : Int) := of_decide_eq_true aT
        obtain ⟨ad267, e267, hx267_0, hx267_1, hx267_2⟩ := at_T77 HR0.out x5_1 p267 q267
        cases e267
        replace p267 := eq_true p267
        replace q267 := eq_true q267
        have p268 : 0 ≤ (x5_1 : Int) := of_decide_eq_true aT
        have q268 : x5_1 < (l1.length : Int) := of_decide_eq_true aT
        obtain ⟨ad268, e268, hx268_0, hx268_1, hx268_2⟩ := at_T77 HR1.out x5_1 p268 q268
        cases e268
        replace p268 := eq_true p268
        replace q268 := eq_true q268
        go_wp2
        repeat (go_quiet (fail); try go_wp2)
        go_ret
        exact ⟨sT, by repeat (first | exact Drawn0.refl _ | apply Drawn0.step)⟩
       ·
        rw [if_neg c7] at H
        have c7b0 : (!(((rd_T77 l0 x5_1).f0) == ((rd_T77 l1 x5_1).f0)) || (!(((rd_T77 l0 x5_1).f1) == ((rd_T77 l1 x5_1).f1)) || (!(((rd_T77 l0 x5_1).f2) == ((rd_T77 l1 x5_1).f2))))) = false := by simpa using c7
        clear c7
        have H' := mA H
        clear H
        have p267 : 0 ≤ (x5_1 : Int) := of_decide_eq_true aT
        have q267 : x5_1 < (l0.length : Int) := of_decide_eq_true aT
        obtain ⟨ad267, e267, hx267_0, hx267_1, hx267_2⟩ := at_T77 HR0.out x5_1 p267 q267
        cases e267
        replace p267 := eq_true p267
        replace q267 := eq_true q267
        have p268 : 0 ≤ (x5_1 : Int) := of_decide_eq_true aT
        have q268 : x5_1 < (l1.length : Int) := of_decide_eq_true aT
        obtain ⟨ad268, e268, hx268_0, hx268_1, hx268_2⟩ := at_T77 HR1.out x5_1 p268 q268
        cases e268
        replace p268 := eq_true p268
        replace q268 := eq_true q268
        go_wp2
        repeat (go_quiet (fail); try go_wp2)
        go_roundg k1
        case measure => have := HK1.out; omega
        case rel => exact ⟨(wrap64 (x5_1 + 1)), sT, H', ⟨by have := HK1.out; omega⟩, by repeat (first | exact Drawn0.refl _ | apply Drawn0.step)⟩
      ·
       rw [if_neg c6] at H
       exact absurd H (by simp)
     ·
      rw [if_neg c5] at H
      exact absurd H (by simp)
    ·
     rw [if_neg c4] at H
     have c4b0 : decide (x5_1 < (l0.length : Int)) = false := decide_eq_false c4
     clear c4
     obtain rfl := Option.some.inj H
     go_wp2
     repeat (go_quiet (fail); try go_wp2)
     go_ret
     exact ⟨sT, by repeat (first | exact Drawn0.refl _ | apply Drawn0.step)⟩
 ·
  rw [if_neg c3] at H
  have c3b0 : ((l0.length : Int) == (l1.length : Int)) = false := beq_eq_false_iff_ne.mpr c3
  have c3b1 : ((l0.length : Int) != (l1.length : Int)) = true := bne_iff_ne.mpr c3
  have c3b2 : (l0.length == l1.length) = false := by first | simpa using c3 | (simp at c3 ⊢; omega)
  obtain rfl := Option.some.inj H
  go_enter Try.func88, Try.ntmps88
  go_wp2
  repeat (go_quiet (fail); try go_wp2)
  go_ret
  exact ⟨sT, by repeat (first | exact Drawn0.refl _ | apply Drawn0.step)⟩

/-! ### spec_EqualTasks: function 49 -/
mutual
def spec_EqualTasks.j0 : Nat → Bool → Int → List (S77) → List (S77) → List Bool → Int → Int → List (S77) → List (S77) → List Bool → Int → Option (Bool)
 | 0, _, _, _, _, _, _, _, _, _, _, _ => none
 | k + 1, x42, x270000, x270001, x270002, x270003, x270004, x271000, x271001, x271002, x271003, x271004 => if x42 = true then (some false) else (spec_EqualTasks.l0 k 0 x270000 x270001 x270002 x270003 x270004 x271000 x271001 x271002 x271003 x271004)
def spec_EqualTasks.l0 : Nat → Int → Int → List (S77) → List (S77) → List Bool → Int → Int → List (S77) → List (S77) → List Bool → Int → Option (Bool)
 | 0, _, _, _, _, _, _, _, _, _, _, _ => none
 | k + 1, x5, x270000, x270001, x270002, x270003, x270004, x271000, x271001, x271002, x271003, x271004 => if x5 < (x270003.length : Int) then (if 0 ≤ x5 then (if x5 < (x271003.length : Int) then (if ((rdOf false x270003 x5) != (rdOf false x271003 x5)) = true then (some false) else (spec_EqualTasks.l0 k (wrap64 (x5 + 1)) x270000 x270001 x270002 x270003 x270004 x271000 x271001 x271002 x271003 x271004)) else (none)) else (none)) else (some true)
end
def spec_EqualTasks.f (k : Nat) (a0_0 : Int) (l0_1 : List (S77)) (l0_2 : List (S77)) (l0_3 : List Bool) (a0_4 : Int) (a1_0 : Int) (l1_1 : List (S77)) (l1_2 : List (S77)) (l1_3 : List Bool) (a1_4 : Int) : Option (Bool) := if a0_0 = a1_0 then ((spec_l6Rows.f k l0_1 l1_1).bind fun t271 => (if t271 = true then ((spec_l6Rows.f k l0_2 l1_2).bind fun t272 => (if t272 = true then (if a0_4 = a1_4 then (spec_EqualTasks.j0 k ((l0_3.length : Int) != (l1_3.length : Int)) a0_0 l0_1 l0_2 l0_3 a0_4 a1_0 l1_1 l1_2 l1_3 a1_4) else (spec_EqualTasks.j0 k true a0_0 l0_1 l0_2 l0_3 a0_4 a1_0 l1_1 l1_2 l1_3 a1_4)) else (spec_EqualTasks.j0 k true a0_0 l0_1 l0_2 l0_3 a0_4 a1_0 l1_1 l1_2 l1_3 a1_4))) else (spec_EqualTasks.j0 k true a0_0 l0_1 l0_2 l0_3 a0_4 a1_0 l1_1 l1_2 l1_3 a1_4))) else (spec_EqualTasks.j0 k true a0_0 l0_1 l0_2 l0_3 a0_4 a1_0 l1_1 l1_2 l1_3 a1_4)
theorem spec_EqualTasks.mono_l : ∀ k, (∀ y0 y1 y2 y3 y4 y5 y6 y7 y8 y9 y10, LeO (spec_EqualTasks.j0 k y0 y1 y2 y3 y4 y5 y6 y7 y8 y9 y10) (spec_EqualTasks.j0 (k + 1) y0 y1 y2 y3 y4 y5 y6 y7 y8 y9 y10)) ∧ (∀ y0 y1 y2 y3 y4 y5 y6 y7 y8 y9 y10, LeO (spec_EqualTasks.l0 k y0 y1 y2 y3 y4 y5 y6 y7 y8 y9 y10) (spec_EqualTasks.l0 (k + 1) y0 y1 y2 y3 y4 y5 y6 y7 y8 y9 y10))
 | 0 => ⟨fun _ _ _ _ _ _ _ _ _ _ _ r h => by simp [spec_EqualTasks.j0] at h, fun _ _ _ _ _ _ _ _ _ _ _ r h => by simp [spec_EqualTasks.l0] at h⟩
 | k + 1 => by
  obtain ⟨ih0, ih1⟩ := spec_EqualTasks.mono_l k
  refine ⟨?_, ?_⟩
  ·
   intro y0 y1 y2 y3 y4 y5 y6 y7 y8 y9 y10
   unfold spec_EqualTasks.j0
   repeat' first
   | (with_reducible exact ih0 _ _ _ _ _ _ _ _ _ _ _)
   | (with_reducible exact ih1 _ _ _ _ _ _ _ _ _ _ _)
   | (with_reducible exact spec_l6Rows.mono _ _ _)
   | (with_reducible exact LeO.refl _)
   | (with_reducible exact LeO.none _)
   | (with_reducible refine LeO.ite ?_ ?_)
   | (with_reducible refine LeO.bind ?_ (fun _ => ?_))
   | exact ih0 _ _ _ _ _ _ _ _ _ _ _
   | exact ih1 _ _ _ _ _ _ _ _ _ _ _
   | exact spec_l6Rows.mono _ _ _
   | exact LeO.none _
   | refine LeO.ite ?_ ?_
   | refine LeO.bind ?_ (fun _ => ?_)
  ·
   intro y0 y1 y2 y3 y4 y5 y6 y7 y8 y9 y10
   unfold spec_EqualTasks.l0
   repeat' first
   | (with_reducible exact ih0 _ _ _ _ _ _ _ _ _ _ _)
   | (with_reducible exact ih1 _ _ _ _ _ _ _ _ _ _ _)
   | (with_reducible exact spec_l6Rows.mono _ _ _)
   | (with_reducible exact LeO.refl _)
   | (with_reducible exact LeO.none _)
   | (with_reducible refine LeO.ite ?_ ?_)
   | (with_reducible refine LeO.bind ?_ (fun _ => ?_))
   | exact ih0 _ _ _ _ _ _ _ _ _ _ _
   | exact ih1 _ _ _ _ _ _ _ _ _ _ _
   | exact spec_l6Rows.mono _ _ _
   | exact LeO.none _
   | refine LeO.ite ?_ ?_
   | refine LeO.bind ?_ (fun _ => ?_)
theorem spec_EqualTasks.mono : ∀ a0 a1 a2 a3 a4 a5 a6 a7 a8 a9 k, LeO (spec_EqualTasks.f k a0 a1 a2 a3 a4 a5 a6 a7 a8 a9) (spec_EqualTasks.f (k + 1) a0 a1 a2 a3 a4 a5 a6 a7 a8 a9) := by
 intro a0 a1 a2 a3 a4 a5 a6 a7 a8 a9 k
 obtain ⟨ih0, ih1⟩ := spec_EqualTasks.mono_l k
 unfold spec_EqualTasks.f
 repeat' first
   | (with_reducible exact ih0 _ _ _ _ _ _ _ _ _ _ _)
   | (with_reducible exact ih1 _ _ _ _ _ _ _ _ _ _ _)
   | (with_reducible exact spec_l6Rows.mono _ _ _)
   | (with_reducible exact LeO.refl _)
   | (with_reducible exact LeO.none _)
   | (with_reducible refine LeO.ite ?_ ?_)
   | (with_reducible refine LeO.bind ?_ (fun _ => ?_))
   | exact ih0 _ _ _ _ _ _ _ _ _ _ _
   | exact ih1 _ _ _ _ _ _ _ _ _ _ _
   | exact spec_l6Rows.mono _ _ _
   | exact LeO.none _
   | refine LeO.ite ?_ ?_
   | refine LeO.bind ?_ (fun _ => ?_)
set_option maxHeartbeats 8000000 in
set_option maxRecDepth 100000 in
theorem spec_EqualTasks.calls (k : Nat) (a0_0 : Int) (A0_1 : Option Addr) (c0_1 : Nat) (l0_1 : List (S77)) (A0_2 : Option Addr) (c0_2 : Nat) (l0_2 : List (S77)) (A0_3 : Option Addr) (c0_3 : Nat) (l0_3 : List Bool) (a0_4 : Int) (a1_0 : Int) (A1_1 : Option Addr) (c1_1 : Nat) (l1_1 : List (S77)) (A1_2 : Option Addr) (c1_2 : Nat) (l1_2 : List (S77)) (A1_3 : Option Addr) (c1_3 : Nat) (l1_3 : List Bool) (a1_4 : Int) (r : Bool) (w : World) (hr0_1 : Kd.C k77 w A0_1 l0_1.length l0_1) (hc0_1 : l0_1.length ≤ c0_1) (hr0_2 : Kd.C k77 w A0_2 l0_2.length l0_2) (hc0_2 : l0_2.length ≤ c0_2) (hr0_3 : Kd.C Kd.bool w A0_3 l0_3.length l0_3) (hc0_3 : l0_3.length ≤ c0_3) (hr1_1 : Kd.C k77 w A1_1 l1_1.length l1_1) (hc1_1 : l1_1.length ≤ c1_1) (hr1_2 : Kd.C k77 w A1_2 l1_2.length l1_2) (hc1_2 : l1_2.length ≤ c1_2) (hr1_3 : Kd.C Kd.bool w A1_3 l1_3.length l1_3) (hc1_3 : l1_3.length ≤ c1_3) (h : spec_EqualTasks.f k a0_0 l0_1 l0_2 l0_3 a0_4 a1_0 l1_1 l1_2 l1_3 a1_4 = some r) :
  Calls Try.prog 49 #[.agg #[.int .i64 a0_0, .slice A0_1 l0_1.length c0_1, .slice A0_2 l0_2.length c0_2, .slice A0_3 l0_3.length c0_3, .int .i64 a0_4], .agg #[.int .i64 a1_0, .slice A1_1 l1_1.length c1_1, .slice A1_2 l1_2.length c1_2, .slice A1_3 l1_3.length c1_3, .int .i64 a1_4]] w fun e w' => e = .returned (.bool r) ∧ Below w.heap.size w w' := by
 have hu68 := Try.underlying68
 have HR0_1 := mA hr0_1
 have HC0_1 := mA hc0_1
 clear hr0_1 hc0_1
 have HR0_2 := mA hr0_2
 have HC0_2 := mA hc0_2
 clear hr0_2 hc0_2
 have HR0_3 := mA hr0_3
 have HC0_3 := mA hc0_3
 clear hr0_3 hc0_3
 have HR1_1 := mA hr1_1
 have HC1_1 := mA hc1_1
 clear hr1_1 hc1_1
 have HR1_2 := mA hr1_2
 have HC1_2 := mA hc1_2
 clear hr1_2 hc1_2
 have HR1_3 := mA hr1_3
 have HC1_3 := mA hc1_3
 clear hr1_3 hc1_3
 have HB := mA (Below.refl w.heap.size w)
 have H : (if a0_0 = a1_0 then ((spec_l6Rows.f k l0_1 l1_1).bind fun t271 => (if t271 = true then ((spec_l6Rows.f k l0_2 l1_2).bind fun t272 => (if t272 = true then (if a0_4 = a1_4 then (spec_EqualTasks.j0 k ((l0_3.length : Int) != (l1_3.length : Int)) a0_0 l0_1 l0_2 l0_3 a0_4 a1_0 l1_1 l1_2 l1_3 a1_4) else (spec_EqualTasks.j0 k true a0_0 l0_1 l0_2 l0_3 a0_4 a1_0 l1_1 l1_2 l1_3 a1_4)) else (spec_EqualTasks.j0 k true a0_0 l0_1 l0_2 l0_3 a0_4 a1_0 l1_1 l1_2 l1_3 a1_4))) else (spec_EqualTasks.j0 k true a0_0 l0_1 l0_2 l0_3 a0_4 a1_0 l1_1 l1_2 l1_3 a1_4))) else (spec_EqualTasks.j0 k true a0_0 l0_1 l0_2 l0_3 a0_4 a1_0 l1_1 l1_2 l1_3 a1_4)) = some r := h
 clear h
 have HC3 := mA H
 clear H
 go_enter Try.func49, Try.ntmps49
 go_upto_region 1 with (first | ((with_reducible refine gate_dst (N := 2) rfl ?_); (try (refine gate_guard (by rfl) ?_; dsimp only)); refine boxT 2 #[.int .i64 a0_0, .slice A0_1 l0_1.length c0_1, .slice A0_2 l0_2.length c0_2, .slice A0_3 l0_3.length c0_3, .int .i64 a0_4] 68 ?_; intro gb269 hg w4 hbox hb; have BK269 := mA (hbox); have GW269 := mA ((by rw [hg]; exact (below_size (bT HB)) : w.heap.size ≤ gb269)); have GE269 := GW269; replace HB := mA (below_step (bT HB) hb); clear hb hbox hg) | ((with_reducible refine gate_dst (N := 3) rfl ?_); (try (refine gate_guard (by rfl) ?_; dsimp only)); refine boxT 3 #[.int .i64 a1_0, .slice A1_1 l1_1.length c1_1, .slice A1_2 l1_2.length c1_2, .slice A1_3 l1_3.length c1_3, .int .i64 a1_4] 68 ?_; intro gb270 hg w5 hbox hb; have BK270 := mA (hbox); have GW270 := mA ((by rw [hg]; exact (below_size (bT1 HB GE269)) : w.heap.size ≤ gb270)); have GE270 := GW270; replace HB := mA (below_step (bT1 HB GE269) hb); have NB269_270 : Aside0 (gb269 ≠ gb270) := nL BK269 hg; have NB270_269 : Aside0 (gb270 ≠ gb269) := nG BK269 hg; replace BK269 := kB BK269 hb; clear hb hbox hg))
 repeat (go_quiet (first | ((with_reducible refine gate_dst (N := 2) rfl ?_); (try (refine gate_guard (by rfl) ?_; dsimp only)); refine boxT 2 #[.int .i64 a0_0, .slice A0_1 l0_1.length c0_1, .slice A0_2 l0_2.length c0_2, .slice A0_3 l0_3.length c0_3, .int .i64 a0_4] 68 ?_; intro gb269 hg w4 hbox hb; have BK269 := mA (hbox); have GW269 := mA ((by rw [hg]; exact (below_size (bT HB)) : w.heap.size ≤ gb269)); have GE269 := GW269; replace HB := mA (below_step (bT HB) hb); clear hb hbox hg) | ((with_reducible refine gate_dst (N := 3) rfl ?_); (try (refine gate_guard (by rfl) ?_; dsimp only)); refine boxT 3 #[.int .i64 a1_0, .slice A1_1 l1_1.length c1_1, .slice A1_2 l1_2.length c1_2, .slice A1_3 l1_3.length c1_3, .int .i64 a1_4] 68 ?_; intro gb270 hg w5 hbox hb; have BK270 := mA (hbox); have GW270 := mA ((by rw [hg]; exact (below_size (bT1 HB GE269)) : w.heap.size ≤ gb270)); have GE270 := GW270; replace HB := mA (below_step (bT1 HB GE269) hb); have NB269_270 : Aside0 (gb269 ≠ gb270) := nL BK269 hg; have NB270_269 : Aside0 (gb270 ≠ gb269) := nG BK269 hg; replace BK269 := kB BK269 hb; clear hb hbox hg)); go_upto_region 1 with (first | ((with_reducible refine gate_dst (N := 2) rfl ?_); (try (refine gate_guard (by rfl) ?_; dsimp only)); refine boxT 2 #[.int .i64 a0_0, .slice A0_1 l0_1.length c0_1, .slice A0_2 l0_2.length c0_2, .slice A0_3 l0_3.length c0_3, .int .i64 a0_4] 68 ?_; intro gb269 hg w4 hbox hb; have BK269 := mA (hbox); have GW269 := mA ((by rw [hg]; exact (below_size (bT HB)) : w.heap.size ≤ gb269)); have GE269 := GW269; replace HB := mA (below_step (bT HB) hb); clear hb hbox hg) | ((with_reducible refine gate_dst (N := 3) rfl ?_); (try (refine gate_guard (by rfl) ?_; dsimp only)); refine boxT 3 #[.int .i64 a1_0, .slice A1_1 l1_1.length c1_1, .slice A1_2 l1_2.length c1_2, .slice A1_3 l1_3.length c1_3, .int .i64 a1_4] 68 ?_; intro gb270 hg w5 hbox hb; have BK270 := mA (hbox); have GW270 := mA ((by rw [hg]; exact (below_size (bT1 HB GE269)) : w.heap.size ≤ gb270)); have GE270 := GW270; replace HB := mA (below_step (bT1 HB GE269) hb); have NB269_270 : Aside0 (gb269 ≠ gb270) := nL BK269 hg; have NB270_269 : Aside0 (gb270 ≠ gb269) := nG BK269 hg; replace BK269 := kB BK269 hb; clear hb hbox hg)))
 (try simp only [Act.put, List.setIfInBounds_toArray, List.set_cons_zero, List.set_cons_succ])
 go_cut [42] (fun v42 wc => ∃ (kq : Nat) (x42_2 : Bool), v42 = .bool x42_2 ∧ Aside0 (spec_EqualTasks.j0 kq x42_2 a0_0 l0_1 l0_2 l0_3 a0_4 a1_0 l1_1 l1_2 l1_3 a1_4 = some r) ∧ Aside0 (kq ≤ k) ∧ Aside0 (wc.heap[gb269]? = some (.cells #[.int .i64 a0_0, (.slice A0_1 l0_1.length c0_1), (.slice A0_2 l0_2.length c0_2), (.slice A0_3 l0_3.length c0_3), .int .i64 a0_4] 68 (0, 0))) ∧ Aside0 (wc.heap[gb270]? = some (.cells #[.int .i64 a1_0, (.slice A1_1 l1_1.length c1_1), (.slice A1_2 l1_2.length c1_2), (.slice A1_3 l1_3.length c1_3), .int .i64 a1_4] 68 (0, 0))) ∧ Aside0 (Below w.heap.size w wc))
 case first =>
  have H := HC3.out
  clear HC3
  by_cases c6 : a0_0 = a1_0
  ·
   rw [if_pos c6] at H
   have c6b0 : (a0_0 == a1_0) = true := beq_iff_eq.mpr c6
   have c6b1 : (a0_0 != a1_0) = false := bne_eq_false_iff_eq.mpr c6
   clear c6
   (first | rw [c6b0] | (simp only [i64_w, i32_w]; rw [c6b0]) | skip)
   obtain ⟨t271, A7, H⟩ := Option.bind_eq_some_iff.mp H
   replace A7 := mA A7
   try dsimp only at H
   by_cases c8 : t271 = true
   ·
    subst c8
    rw [if_pos rfl] at H
    obtain ⟨t272, A9, H⟩ := Option.bind_eq_some_iff.mp H
    replace A9 := mA A9
    try dsimp only at H
    by_cases c10 : t272 = true
    ·
     subst c10
     rw [if_pos rfl] at H
     by_cases c11 : a0_4 = a1_4
     ·
      rw [if_pos c11] at H
      have c11b0 : (a0_4 == a1_4) = true := beq_iff_eq.mpr c11
      have c11b1 : (a0_4 != a1_4) = false := bne_eq_false_iff_eq.mpr c11
      clear c11
      have H' := mA H
      clear H
      have hnb12 := NB269_270.out
      have hnc12 := NB270_269.out
      have hcz13_0 : w5.cell? ⟨gb269, 0, none⟩ = some (.int .i64 a0_0) := (blk_cell BK269.out 0).trans rfl
      have hcz13_1 : w5.cell? ⟨gb269, 1, none⟩ = some (.slice A0_1 l0_1.length c0_1) := (blk_cell BK269.out 1).trans rfl
      have hcz13_2 : w5.cell? ⟨gb269, 2, none⟩ = some (.slice A0_2 l0_2.length c0_2) := (blk_cell BK269.out 2).trans rfl
      have hcz13_3 : w5.cell? ⟨gb269, 3, none⟩ = some (.slice A0_3 l0_3.length c0_3) := (blk_cell BK269.out 3).trans rfl
      have hcz13_4 : w5.cell? ⟨gb269, 4, none⟩ = some (.int .i64 a0_4) := (blk_cell BK269.out 4).trans rfl
      have hfz13_0 := blk_frozen BK269.out 0
      have hfz13_1 := blk_frozen BK269.out 1
      have hfz13_2 := blk_frozen BK269.out 2
      have hfz13_3 := blk_frozen BK269.out 3
      have hfz13_4 := blk_frozen BK269.out 4
      have hcz14_0 : w5.cell? ⟨gb270, 0, none⟩ = some (.int .i64 a1_0) := (blk_cell BK270.out 0).trans rfl
      have hcz14_1 : w5.cell? ⟨gb270, 1, none⟩ = some (.slice A1_1 l1_1.length c1_1) := (blk_cell BK270.out 1).trans rfl
      have hcz14_2 : w5.cell? ⟨gb270, 2, none⟩ = some (.slice A1_2 l1_2.length c1_2) := (blk_cell BK270.out 2).trans rfl
      have hcz14_3 : w5.cell? ⟨gb270, 3, none⟩ = some (.slice A1_3 l1_3.length c1_3) := (blk_cell BK270.out 3).trans rfl
      have hcz14_4 : w5.cell? ⟨gb270, 4, none⟩ = some (.int .i64 a1_4) := (blk_cell BK270.out 4).trans rfl
      have hfz14_0 := blk_frozen BK270.out 0
      have hfz14_1 := blk_frozen BK270.out 1
      have hfz14_2 := blk_frozen BK270.out 2
      have hfz14_3 := blk_frozen BK270.out 3
      have hfz14_4 := blk_frozen BK270.out 4
      go_wp2_with (first | (go_at_call 88; (with_reducible refine (spec_l6Rows.calls k _ _ l0_1 _ _ l1_1 true _ ?side1 ?side2 ?side3 ?side4 A7.out).mono ?_); (case side1 => exact cT (Kd.C_below HR0_1.out HB.out)); (case side2 => exact HC0_1.out); (case side3 => exact cT (Kd.C_below HR1_1.out HB.out)); (case side4 => exact HC1_1.out); rintro e w' ⟨rfl, ⟨nd, rfl⟩⟩; (try first | exact ⟨rfl, _, World.drewN_drewN _ _ _⟩ | exact ⟨rfl, _, Eq.trans (World.drewN_drewN _ _ _) (congrArg (World.drewN _) (Nat.add_assoc _ _ _))⟩)) | (go_at_call 88; (with_reducible refine (spec_l6Rows.calls k _ _ l0_2 _ _ l1_2 true _ ?side1 ?side2 ?side3 ?side4 A9.out).mono ?_); (case side1 => exact cT (Kd.C_below HR0_2.out (bT2 HB GE269 GE270))); (case side2 => exact HC0_2.out); (case side3 => exact cT (Kd.C_below HR1_2.out (bT2 HB GE269 GE270))); (case side4 => exact HC1_2.out); rintro e w' ⟨rfl, ⟨nd, rfl⟩⟩; (try first | exact ⟨rfl, _, World.drewN_drewN _ _ _⟩ | exact ⟨rfl, _, Eq.trans (World.drewN_drewN _ _ _) (congrArg (World.drewN _) (Nat.add_assoc _ _ _))⟩)))
      repeat (go_quiet (first | (go_at_call 88; (with_reducible refine (spec_l6Rows.calls k _ _ l0_1 _ _ l1_1 true _ ?side1 ?side2 ?side3 ?side4 A7.out).mono ?_); (case side1 => exact cT (Kd.C_below HR0_1.out HB.out)); (case side2 => exact HC0_1.out); (case side3 => exact cT (Kd.C_below HR1_1.out HB.out)); (case side4 => exact HC1_1.out); rintro e w' ⟨rfl, ⟨nd, rfl⟩⟩; (try first | exact ⟨rfl, _, World.drewN_drewN _ _ _⟩ | exact ⟨rfl, _, Eq.trans (World.drewN_drewN _ _ _) (congrArg (World.drewN _) (Nat.add_assoc _ _ _))⟩)) | (go_at_call 88; (with_reducible refine (spec_l6Rows.calls k _ _ l0_2 _ _ l1_2 true _ ?side1 ?side2 ?side3 ?side4 A9.out).mono ?_); (case side1 => exact cT (Kd.C_below HR0_2.out (bT2 HB GE269 GE270))); (case side2 => exact HC0_2.out); (case side3 => exact cT (Kd.C_below HR1_2.out (bT2 HB GE269 GE270))); (case side4 => exact HC1_2.out); rintro e w' ⟨rfl, ⟨nd, rfl⟩⟩; (try first | exact ⟨rfl, _, World.drewN_drewN _ _ _⟩ | exact ⟨rfl, _, Eq.trans (World.drewN_drewN _ _ _) (congrArg (World.drewN _) (Nat.add_assoc _ _ _))⟩))); try go_wp2_with (first | (go_at_call 88; (with_reducible refine (spec_l6Rows.calls k _ _ l0_1 _ _ l1_1 true _ ?side1 ?side2 ?side3 ?side4 A7.out).mono ?_); (case side1 => exact cT (Kd.C_below HR0_1.out HB.out)); (case side2 => exact HC0_1.out); (case side3 => exact cT (Kd.C_below HR1_1.out HB.out)); (case side4 => exact HC1_1.out); rintro e w' ⟨rfl, ⟨nd, rfl⟩⟩; (try first | exact ⟨rfl, _, World.drewN_drewN _ _ _⟩ | exact ⟨rfl, _, Eq.trans (World.drewN_drewN _ _ _) (congrArg (World.drewN _) (Nat.add_assoc _ _ _))⟩)) | (go_at_call 88; (with_reducible refine (spec_l6Rows.calls k _ _ l0_2 _ _ l1_2 true _ ?side1 ?side2 ?side3 ?side4 A9.out).mono ?_); (case side1 => exact cT (Kd.C_below HR0_2.out (bT2 HB GE269 GE270))); (case side2 => exact HC0_2.out); (case side3 => exact cT (Kd.C_below HR1_2.out (bT2 HB GE269 GE270))); (case side4 => exact HC1_2.out); rintro e w' ⟨rfl, ⟨nd, rfl⟩⟩; (try first | exact ⟨rfl, _, World.drewN_drewN _ _ _⟩ | exact ⟨rfl, _, Eq.trans (World.drewN_drewN _ _ _) (congrArg (World.drewN _) (Nat.add_assoc _ _ _))⟩))))
      go_meet
      case rel => exact ⟨_, (((l0_3.length : Int) != (l1_3.length : Int))), sT, H', ⟨by first | omega | exact Nat.le_refl _⟩, ⟨kT BK269⟩, ⟨kT BK270⟩, ⟨bT2 HB GE269 GE270⟩⟩
     ·
      rw [if_neg c11] at H
      have c11b0 : (a0_4 == a1_4) = false := beq_eq_false_iff_ne.mpr c11
      have c11b1 : (a0_4 != a1_4) = true := bne_iff_ne.mpr c11
      have H' := mA H
      clear H
      have hnb15 := NB269_270.out
      have hnc15 := NB270_269.out
      have hcz16_0 : w5.cell? ⟨gb269, 0, none⟩ = some (.int .i64 a0_0) := (blk_cell BK269.out 0).trans rfl
      have hcz16_1 : w5.cell? ⟨gb269, 1, none⟩ = some (.slice A0_1 l0_1.length c0_1) := (blk_cell BK269.out 1).trans rfl
      have hcz16_2 : w5.cell? ⟨gb269, 2, none⟩ = some (.slice A0_2 l0_2.length c0_2) := (blk_cell BK269.out 2).trans rfl
      have hcz16_3 : w5.cell? ⟨gb269, 3, none⟩ = some (.slice A0_3 l0_3.length c0_3) := (blk_cell BK269.out 3).trans rfl
      have hcz16_4 : w5.cell? ⟨gb269, 4, none⟩ = some (.int .i64 a0_4) := (blk_cell BK269.out 4).trans rfl
      have hfz16_0 := blk_frozen BK269.out 0
      have hfz16_1 := blk_frozen BK269.out 1
      have hfz16_2 := blk_frozen BK269.out 2
      have hfz16_3 := blk_frozen BK269.out 3
      have hfz16_4 := blk_frozen BK269.out 4
      have hcz17_0 : w5.cell? ⟨gb270, 0, none⟩ = some (.int .i64 a1_0) := (blk_cell BK270.out 0).trans rfl
      have hcz17_1 : w5.cell? ⟨gb270, 1, none⟩ = some (.slice A1_1 l1_1.length c1_1) := (blk_cell BK270.out 1).trans rfl
      have hcz17_2 : w5.cell? ⟨gb270, 2, none⟩ = some (.slice A1_2 l1_2.length c1_2) := (blk_cell BK270.out 2).trans rfl
      have hcz17_3 : w5.cell? ⟨gb270, 3, none⟩ = some (.slice A1_3 l1_3.length c1_3) := (blk_cell BK270.out 3).trans rfl
      have hcz17_4 : w5.cell? ⟨gb270, 4, none⟩ = some (.int .i64 a1_4) := (blk_cell BK270.out 4).trans rfl
      have hfz17_0 := blk_frozen BK270.out 0
      have hfz17_1 := blk_frozen BK270.out 1
      have hfz17_2 := blk_frozen BK270.out 2
      have hfz17_3 := blk_frozen BK270.out 3
      have hfz17_4 := blk_frozen BK270.out 4
      go_wp2_with (first | (go_at_call 88; (with_reducible refine (spec_l6Rows.calls k _ _ l0_1 _ _ l1_1 true _ ?side1 ?side2 ?side3 ?side4 A7.out).mono ?_); (case side1 => exact cT (Kd.C_below HR0_1.out HB.out)); (case side2 => exact HC0_1.out); (case side3 => exact cT (Kd.C_below HR1_1.out HB.out)); (case side4 => exact HC1_1.out); rintro e w' ⟨rfl, ⟨nd, rfl⟩⟩; (try first | exact ⟨rfl, _, World.drewN_drewN _ _ _⟩ | exact ⟨rfl, _, Eq.trans (World.drewN_drewN _ _ _) (congrArg (World.drewN _) (Nat.add_assoc _ _ _))⟩)) | (go_at_call 88; (with_reducible refine (spec_l6Rows.calls k _ _ l0_2 _ _ l1_2 true _ ?side1 ?side2 ?side3 ?side4 A9.out).mono ?_); (case side1 => exact cT (Kd.C_below HR0_2.out (bT2 HB GE269 GE270))); (case side2 => exact HC0_2.out); (case side3 => exact cT (Kd.C_below HR1_2.out (bT2 HB GE269 GE270))); (case side4 => exact HC1_2.out); rintro e w' ⟨rfl, ⟨nd, rfl⟩⟩; (try first | exact ⟨rfl, _, World.drewN_drewN _ _ _⟩ | exact ⟨rfl, _, Eq.trans (World.drewN_drewN _ _ _) (congrArg (World.drewN _) (Nat.add_assoc _ _ _))⟩)))
      repeat (go_quiet (first | (go_at_call 88; (with_reducible refine (spec_l6Rows.calls k _ _ l0_1 _ _ l1_1 true _ ?side1 ?side2 ?side3 ?side4 A7.out).mono ?_); (case side1 => exact cT (Kd.C_below HR0_1.out HB.out)); (case side2 => exact HC0_1.out); (case side3 => exact cT (Kd.C_below HR1_1.out HB.out)); (case side4 => exact HC1_1.out); rintro e w' ⟨rfl, ⟨nd, rfl⟩⟩; (try first | exact ⟨rfl, _, World.drewN_drewN _ _ _⟩ | exact ⟨rfl, _, Eq.trans (World.drewN_drewN _ _ _) (congrArg (World.drewN _) (Nat.add_assoc _ _ _))⟩)) | (go_at_call 88; (with_reducible refine (spec_l6Rows.calls k _ _ l0_2 _ _ l1_2 true _ ?side1 ?side2 ?side3 ?side4 A9.out).mono ?_); (case side1 => exact cT (Kd.C_below HR0_2.out (bT2 HB GE269 GE270))); (case side2 => exact HC0_2.out); (case side3 => exact cT (Kd.C_below HR1_2.out (bT2 HB GE269 GE270))); (case side4 => exact HC1_2.out); rintro e w' ⟨rfl, ⟨nd, rfl⟩⟩; (try first | exact ⟨rfl, _, World.drewN_drewN _ _ _⟩ | exact ⟨rfl, _, Eq.trans (World.drewN_drewN _ _ _) (congrArg (World.drewN _) (Nat.add_assoc _ _ _))⟩))); try go_wp2_with (first | (go_at_call 88; (with_reducible refine (spec_l6Rows.calls k _ _ l0_1 _ _ l1_1 true _ ?side1 ?side2 ?side3 ?side4 A7.out).mono ?_); (case side1 => exact cT (Kd.C_below HR0_1.out HB.out)); (case side2 => exact HC0_1.out); (case side3 => exact cT (Kd.C_below HR1_1.out HB.out)); (case side4 => exact HC1_1.out); rintro e w' ⟨rfl, ⟨nd, rfl⟩⟩; (try first | exact ⟨rfl, _, World.drewN_drewN _ _ _⟩ | exact ⟨rfl, _, Eq.trans (World.drewN_drewN _ _ _) (congrArg (World.drewN _) (Nat.add_assoc _ _ _))⟩)) | (go_at_call 88; (with_reducible refine (spec_l6Rows.calls k _ _ l0_2 _ _ l1_2 true _ ?side1 ?side2 ?side3 ?side4 A9.out).mono ?_); (case side1 => exact cT (Kd.C_below HR0_2.out (bT2 HB GE269 GE270))); (case side2 => exact HC0_2.out); (case side3 => exact cT (Kd.C_below HR1_2.out (bT2 HB GE269 GE270))); (case side4 => exact HC1_2.out); rintro e w' ⟨rfl, ⟨nd, rfl⟩⟩; (try first | exact ⟨rfl, _, World.drewN_drewN _ _ _⟩ | exact ⟨rfl, _, Eq.trans (World.drewN_drewN _ _ _) (congrArg (World.drewN _) (Nat.add_assoc _ _ _))⟩))))
      go_meet
      case rel => exact ⟨_, (true), sT, H', ⟨by first | omega | exact Nat.le_refl _⟩, ⟨kT BK269⟩, ⟨kT BK270⟩, ⟨bT2 HB GE269 GE270⟩⟩
    ·
     replace c10 := Bool.eq_false_iff.mpr c10
     subst c10
     rw [if_neg (show ¬ (false = true) by decide)] at H
     have H' := mA H
     clear H
     have hnb18 := NB269_270.out
     have hnc18 := NB270_269.out
     have hcz19_0 : w5.cell? ⟨gb269, 0, none⟩ = some (.int .i64 a0_0) := (blk_cell BK269.out 0).trans rfl
     have hcz19_1 : w5.cell? ⟨gb269, 1, none⟩ = some (.slice A0_1 l0_1.length c0_1) := (blk_cell BK269.out 1).trans rfl
     have hcz19_2 : w5.cell? ⟨gb269, 2, none⟩ = some (.slice A0_2 l0_2.length c0_2) := (blk_cell BK269.out 2).trans rfl
     have hcz19_3 : w5.cell? ⟨gb269, 3, none⟩ = some (.slice A0_3 l0_3.length c0_3) := (blk_cell BK269.out 3).trans rfl
     have hcz19_4 : w5.cell? ⟨gb269, 4, none⟩ = some (.int .i64 a0_4) := (blk_cell BK269.out 4).trans rfl
     have hfz19_0 := blk_frozen BK269.out 0
     have hfz19_1 := blk_frozen BK269.out 1
     have hfz19_2 := blk_frozen BK269.out 2
     have hfz19_3 := blk_frozen BK269.out 3
     have hfz19_4 := blk_frozen BK269.out 4
     have hcz20_0 : w5.cell? ⟨gb270, 0, none⟩ = some (.int .i64 a1_0) := (blk_cell BK270.out 0).trans rfl
     have hcz20_1 : w5.cell? ⟨gb270, 1, none⟩ = some (.slice A1_1 l1_1.length c1_1) := (blk_cell BK270.out 1).trans rfl
     have hcz20_2 : w5.cell? ⟨gb270, 2, none⟩ = some (.slice A1_2 l1_2.length c1_2) := (blk_cell BK270.out 2).trans rfl
     have hcz20_3 : w5.cell? ⟨gb270, 3, none⟩ = some (.slice A1_3 l1_3.length c1_3) := (blk_cell BK270.out 3).trans rfl
     have hcz20_4 : w5.cell? ⟨gb270, 4, none⟩ = some (.int .i64 a1_4) := (blk_cell BK270.out 4).trans rfl
     have hfz20_0 := blk_frozen BK270.out 0
     have hfz20_1 := blk_frozen BK270.out 1
     have hfz20_2 := blk_frozen BK270.out 2
     have hfz20_3 := blk_frozen BK270.out 3
     have hfz20_4 := blk_frozen BK270.out 4
     go_wp2_with (first | (go_at_call 88; (with_reducible refine (spec_l6Rows.calls k _ _ l0_1 _ _ l1_1 true _ ?side1 ?side2 ?side3 ?side4 A7.out).mono ?_); (case side1 => exact cT (Kd.C_below HR0_1.out HB.out)); (case side2 => exact HC0_1.out); (case side3 => exact cT (Kd.C_below HR1_1.out HB.out)); (case side4 => exact HC1_1.out); rintro e w' ⟨rfl, ⟨nd, rfl⟩⟩; (try first | exact ⟨rfl, _, World.drewN_drewN _ _ _⟩ | exact ⟨rfl, _, Eq.trans (World.drewN_drewN _ _ _) (congrArg (World.drewN _) (Nat.add_assoc _ _ _))⟩)) | (go_at_call 88; (with_reducible refine (spec_l6Rows.calls k _ _ l0_2 _ _ l1_2 false _ ?side1 ?side2 ?side3 ?side4 A9.out).mono ?_); (case side1 => exact cT (Kd.C_below HR0_2.out (bT2 HB GE269 GE270))); (case side2 => exact HC0_2.out); (case side3 => exact cT (Kd.C_below HR1_2.out (bT2 HB GE269 GE270))); (case side4 => exact HC1_2.out); rintro e w' ⟨rfl, ⟨nd, rfl⟩⟩; (try first | exact ⟨rfl, _, World.drewN_drewN _ _ _⟩ | exact ⟨rfl, _, Eq.trans (World.drewN_drewN _ _ _) (congrArg (World.drewN _) (Nat.add_assoc _ _ _))⟩)))
     repeat (go_quiet (first | (go_at_call 88; (with_reducible refine (spec_l6Rows.calls k _ _ l0_1 _ _ l1_1 true _ ?side1 ?side2 ?side3 ?side4 A7.out).mono ?_); (case side1 => exact cT (Kd.C_below HR0_1.out HB.out)); (case side2 => exact HC0_1.out); (case side3 => exact cT (Kd.C_below HR1_1.out HB.out)); (case side4 => exact HC1_1.out); rintro e w' ⟨rfl, ⟨nd, rfl⟩⟩; (try first | exact ⟨rfl, _, World.drewN_drewN _ _ _⟩ | exact ⟨rfl, _, Eq.trans (World.drewN_drewN _ _ _) (congrArg (World.drewN _) (Nat.add_assoc _ _ _))⟩)) | (go_at_call 88; (with_reducible refine (spec_l6Rows.calls k _ _ l0_2 _ _ l1_2 false _ ?side1 ?side2 ?side3 ?side4 A9.out).mono ?_); (case side1 => exact cT (Kd.C_below HR0_2.out (bT2 HB GE269 GE270))); (case side2 => exact HC0_2.out); (case side3 => exact cT (Kd.C_below HR1_2.out (bT2 HB GE269 GE270))); (case side4 => exact HC1_2.out); rintro e w' ⟨rfl, ⟨nd, rfl⟩⟩; (try first | exact ⟨rfl, _, World.drewN_drewN _ _ _⟩ | exact ⟨rfl, _, Eq.trans (World.drewN_drewN _ _ _) (congrArg (World.drewN _) (Nat.add_assoc _ _ _))⟩))); try go_wp2_with (first | (go_at_call 88; (with_reducible refine (spec_l6Rows.calls k _ _ l0_1 _ _ l1_1 true _ ?side1 ?side2 ?side3 ?side4 A7.out).mono ?_); (case side1 => exact cT (Kd.C_below HR0_1.out HB.out)); (case side2 => exact HC0_1.out); (case side3 => exact cT (Kd.C_below HR1_1.out HB.out)); (case side4 => exact HC1_1.out); rintro e w' ⟨rfl, ⟨nd, rfl⟩⟩; (try first | exact ⟨rfl, _, World.drewN_drewN _ _ _⟩ | exact ⟨rfl, _, Eq.trans (World.drewN_drewN _ _ _) (congrArg (World.drewN _) (Nat.add_assoc _ _ _))⟩)) | (go_at_call 88; (with_reducible refine (spec_l6Rows.calls k _ _ l0_2 _ _ l1_2 false _ ?side1 ?side2 ?side3 ?side4 A9.out).mono ?_); (case side1 => exact cT (Kd.C_below HR0_2.out (bT2 HB GE269 GE270))); (case side2 => exact HC0_2.out); (case side3 => exact cT (Kd.C_below HR1_2.out (bT2 HB GE269 GE270))); (case side4 => exact HC1_2.out); rintro e w' ⟨rfl, ⟨nd, rfl⟩⟩; (try first | exact ⟨rfl, _, World.drewN_drewN _ _ _⟩ | exact ⟨rfl, _, Eq.trans (World.drewN_drewN _ _ _) (congrArg (World.drewN _) (Nat.add_assoc _ _ _))⟩))))
     go_meet
     case rel => exact ⟨_, (true), sT, H', ⟨by first | omega | exact Nat.le_refl _⟩, ⟨kT BK269⟩, ⟨kT BK270⟩, ⟨bT2 HB GE269 GE270⟩⟩
   ·
    replace c8 := Bool.eq_false_iff.mpr c8
    subst c8
    rw [if_neg (show ¬ (false = true) by decide)] at H
    have H' := mA H
    clear H
    have hnb21 := NB269_270.out
    have hnc21 := NB270_269.out
    have hcz22_0 : w5.cell? ⟨gb269, 0, none⟩ = some (.int .i64 a0_0) := (blk_cell BK269.out 0).trans rfl
    have hcz22_1 : w5.cell? ⟨gb269, 1, none⟩ = some (.slice A0_1 l0_1.length c0_1) := (blk_cell BK269.out 1).trans rfl
    have hcz22_2 : w5.cell? ⟨gb269, 2, none⟩ = some (.slice A0_2 l0_2.length c0_2) := (blk_cell BK269.out 2).trans rfl
    have hcz22_3 : w5.cell? ⟨gb269, 3, none⟩ = some (.slice A0_3 l0_3.length c0_3) := (blk_cell BK269.out 3).trans rfl
    have hcz22_4 : w5.cell? ⟨gb269, 4, none⟩ = some (.int .i64 a0_4) := (blk_cell BK269.out 4).trans rfl
    have hfz22_0 := blk_frozen BK269.out 0
    have hfz22_1 := blk_frozen BK269.out 1
    have hfz22_2 := blk_frozen BK269.out 2
    have hfz22_3 := blk_frozen BK269.out 3
    have hfz22_4 := blk_frozen BK269.out 4
    have hcz23_0 : w5.cell? ⟨gb270, 0, none⟩ = some (.int .i64 a1_0) := (blk_cell BK270.out 0).trans rfl
    have hcz23_1 : w5.cell? ⟨gb270, 1, none⟩ = some (.slice A1_1 l1_1.length c1_1) := (blk_cell BK270.out 1).trans rfl
    have hcz23_2 : w5.cell? ⟨gb270, 2, none⟩ = some (.slice A1_2 l1_2.length c1_2) := (blk_cell BK270.out 2).trans rfl
    have hcz23_3 : w5.cell? ⟨gb270, 3, none⟩ = some (.slice A1_3 l1_3.length c1_3) := (blk_cell BK270.out 3).trans rfl
    have hcz23_4 : w5.cell? ⟨gb270, 4, none⟩ = some (.int .i64 a1_4) := (blk_cell BK270.out 4).trans rfl
    have hfz23_0 := blk_frozen BK270.out 0
    have hfz23_1 := blk_frozen BK270.out 1
    have hfz23_2 := blk_frozen BK270.out 2
    have hfz23_3 := blk_frozen BK270.out 3
    have hfz23_4 := blk_frozen BK270.out 4
    go_wp2_with (first | (go_at_call 88; (with_reducible refine (spec_l6Rows.calls k _ _ l0_1 _ _ l1_1 false _ ?side1 ?side2 ?side3 ?side4 A7.out).mono ?_); (case side1 => exact cT (Kd.C_below HR0_1.out HB.out)); (case side2 => exact HC0_1.out); (case side3 => exact cT (Kd.C_below HR1_1.out HB.out)); (case side4 => exact HC1_1.out); rintro e w' ⟨rfl, ⟨nd, rfl⟩⟩; (try first | exact ⟨rfl, _, World.drewN_drewN _ _ _⟩ | exact ⟨rfl, _, Eq.trans (World.drewN_drewN _ _ _) (congrArg (World.drewN _) (Nat.add_assoc _ _ _))⟩)))
    repeat (go_quiet (first | (go_at_call 88; (with_reducible refine (spec_l6Rows.calls k _ _ l0_1 _ _ l1_1 false _ ?side1 ?side2 ?side3 ?side4 A7.out).mono ?_); (case side1 => exact cT (Kd.C_below HR0_1.out HB.out)); (case side2 => exact HC0_1.out); (case side3 => exact cT (Kd.C_below HR1_1.out HB.out)); (case side4 => exact HC1_1.out); rintro e w' ⟨rfl, ⟨nd, rfl⟩⟩; (try first | exact ⟨rfl, _, World.drewN_drewN _ _ _⟩ | exact ⟨rfl, _, Eq.trans (World.drewN_drewN _ _ _) (congrArg (World.drewN _) (Nat.add_assoc _ _ _))⟩))); try go_wp2_with (first | (go_at_call 88; (with_reducible refine (spec_l6Rows.calls k _ _ l0_1 _ _ l1_1 false _ ?side1 ?side2 ?side3 ?side4 A7.out).mono ?_); (case side1 => exact cT (Kd.C_below HR0_1.out HB.out)); (case side2 => exact HC0_1.out); (case side3 => exact cT (Kd.C_below HR1_1.out HB.out)); (case side4 => exact HC1_1.out); rintro e w' ⟨rfl, ⟨nd, rfl⟩⟩; (try first | exact ⟨rfl, _, World.drewN_drewN _ _ _⟩ | exact ⟨rfl, _, Eq.trans (World.drewN_drewN _ _ _) (congrArg (World.drewN _) (Nat.add_assoc _ _ _))⟩))))
    go_meet
    case rel => exact ⟨_, (true), sT, H', ⟨by first | omega | exact Nat.le_refl _⟩, ⟨kT BK269⟩, ⟨kT BK270⟩, ⟨bT2 HB GE269 GE270⟩⟩
  ·
   rw [if_neg c6] at H
   have c6b0 : (a0_0 == a1_0) = false := beq_eq_false_iff_ne.mpr c6
   have c6b1 : (a0_0 != a1_0) = true := bne_iff_ne.mpr c6
   (first | rw [c6b0] | (simp only [i64_w, i32_w]; rw [c6b0]) | skip)
   have H' := mA H
   clear H
   have hnb24 := NB269_270.out
   have hnc24 := NB270_269.out
   have hcz25_0 : w5.cell? ⟨gb269, 0, none⟩ = some (.int .i64 a0_0) := (blk_cell BK269.out 0).trans rfl
   have hcz25_1 : w5.cell? ⟨gb269, 1, none⟩ = some (.slice A0_1 l0_1.length c0_1) := (blk_cell BK269.out 1).trans rfl
   have hcz25_2 : w5.cell? ⟨gb269, 2, none⟩ = some (.slice A0_2 l0_2.length c0_2) := (blk_cell BK269.out 2).trans rfl
   have hcz25_3 : w5.cell? ⟨gb269, 3, none⟩ = some (.slice A0_3 l0_3.length c0_3) := (blk_cell BK269.out 3).trans rfl
   have hcz25_4 : w5.cell? ⟨gb269, 4, none⟩ = some (.int .i64 a0_4) := (blk_cell BK269.out 4).trans rfl
   have hfz25_0 := blk_frozen BK269.out 0
   have hfz25_1 := blk_frozen BK269.out 1
   have hfz25_2 := blk_frozen BK269.out 2
   have hfz25_3 := blk_frozen BK269.out 3
   have hfz25_4 := blk_frozen BK269.out 4
   have hcz26_0 : w5.cell? ⟨gb270, 0, none⟩ = some (.int .i64 a1_0) := (blk_cell BK270.out 0).trans rfl
   have hcz26_1 : w5.cell? ⟨gb270, 1, none⟩ = some (.slice A1_1 l1_1.length c1_1) := (blk_cell BK270.out 1).trans rfl
   have hcz26_2 : w5.cell? ⟨gb270, 2, none⟩ = some (.slice A1_2 l1_2.length c1_2) := (blk_cell BK270.out 2).trans rfl
   have hcz26_3 : w5.cell? ⟨gb270, 3, none⟩ = some (.slice A1_3 l1_3.length c1_3) := (blk_cell BK270.out 3).trans rfl
   have hcz26_4 : w5.cell? ⟨gb270, 4, none⟩ = some (.int .i64 a1_4) := (blk_cell BK270.out 4).trans rfl
   have hfz26_0 := blk_frozen BK270.out 0
   have hfz26_1 := blk_frozen BK270.out 1
   have hfz26_2 := blk_frozen BK270.out 2
   have hfz26_3 := blk_frozen BK270.out 3
   have hfz26_4 := blk_frozen BK270.out 4
   go_wp2
   repeat (go_quiet (fail); try go_wp2)
   go_meet
   case rel => exact ⟨_, (true), sT, H', ⟨by first | omega | exact Nat.le_refl _⟩, ⟨kT BK269⟩, ⟨kT BK270⟩, ⟨bT2 HB GE269 GE270⟩⟩
 case rest =>
  clear HC3
  try clear c1
  try clear c2
  try clear p2
  try clear c4
  try clear c6
  try clear c6b0
  try clear c6b1
  try clear c8
  try clear c10
  try clear c11
  try clear c11b0
  try clear c11b1
  try clear c12
  try clear c15
  try clear c18
  try clear c21
  try clear c24
  try clear hcz13_0
  try clear hcz13_1
  try clear hcz13_2
  try clear hcz13_3
  try clear hcz13_4
  try clear hcz14_0
  try clear hcz14_1
  try clear hcz14_2
  try clear hcz14_3
  try clear hcz14_4
  try clear hcz16_0
  try clear hcz16_1
  try clear hcz16_2
  try clear hcz16_3
  try clear hcz16_4
  try clear hcz17_0
  try clear hcz17_1
  try clear hcz17_2
  try clear hcz17_3
  try clear hcz17_4
  try clear hcz19_0
  try clear hcz19_1
  try clear hcz19_2
  try clear hcz19_3
  try clear hcz19_4
  try clear hcz20_0
  try clear hcz20_1
  try clear hcz20_2
  try clear hcz20_3
  try clear hcz20_4
  try clear hcz22_0
  try clear hcz22_1
  try clear hcz22_2
  try clear hcz22_3
  try clear hcz22_4
  try clear hcz23_0
  try clear hcz23_1
  try clear hcz23_2
  try clear hcz23_3
  try clear hcz23_4
  try clear hcz25_0
  try clear hcz25_1
  try clear hcz25_2
  try clear hcz25_3
  try clear hcz25_4
  try clear hcz26_0
  try clear hcz26_1
  try clear hcz26_2
  try clear hcz26_3
  try clear hcz26_4
  try clear hfz13_0
  try clear hfz13_1
  try clear hfz13_2
  try clear hfz13_3
  try clear hfz13_4
  try clear hfz14_0
  try clear hfz14_1
  try clear hfz14_2
  try clear hfz14_3
  try clear hfz14_4
  try clear hfz16_0
  try clear hfz16_1
  try clear hfz16_2
  try clear hfz16_3
  try clear hfz16_4
  try clear hfz17_0
  try clear hfz17_1
  try clear hfz17_2
  try clear hfz17_3
  try clear hfz17_4
  try clear hfz19_0
  try clear hfz19_1
  try clear hfz19_2
  try clear hfz19_3
  try clear hfz19_4
  try clear hfz20_0
  try clear hfz20_1
  try clear hfz20_2
  try clear hfz20_3
  try clear hfz20_4
  try clear hfz22_0
  try clear hfz22_1
  try clear hfz22_2
  try clear hfz22_3
  try clear hfz22_4
  try clear hfz23_0
  try clear hfz23_1
  try clear hfz23_2
  try clear hfz23_3
  try clear hfz23_4
  try clear hfz25_0
  try clear hfz25_1
  try clear hfz25_2
  try clear hfz25_3
  try clear hfz25_4
  try clear hfz26_0
  try clear hfz26_1
  try clear hfz26_2
  try clear hfz26_3
  try clear hfz26_4
  obtain ⟨kq, x42_2, rfl, HA, HJ2, BK269, BK270, HB⟩ := hcut
  cases kq with
  | zero => exact absurd HA.out (by simp [spec_EqualTasks.j0])
  | succ kj2 =>
   have H := HA.out
   clear HA
   simp only [spec_EqualTasks.j0] at H
   by_cases c27 : x42_2 = true
   ·
    subst c27
    rw [if_pos rfl] at H
    obtain rfl := Option.some.inj H
    go_wp2
    repeat (go_quiet (fail); try go_wp2)
    go_ret
    exact ⟨eT, bT2 HB GE269 GE270⟩
   ·
    replace c27 := Bool.eq_false_iff.mpr c27
    subst c27
    rw [if_neg (show ¬ (false = true) by decide)] at H
    have H' := mA H
    clear H
    go_wp2
    repeat (go_quiet (fail); try go_wp2)
    go_loopg [5] kj2 (fun kq v5 w' => ∃ (x5_2 : Int), v5 = .int .i64 x5_2 ∧ Aside0 (spec_EqualTasks.l0 kq x5_2 a0_0 l0_1 l0_2 l0_3 a0_4 a1_0 l1_1 l1_2 l1_3 a1_4 = some r) ∧ Aside0 (kq ≤ kj2) ∧ Aside0 (w'.heap[gb269]? = some (.cells #[.int .i64 a0_0, (.slice A0_1 l0_1.length c0_1), (.slice A0_2 l0_2.length c0_2), (.slice A0_3 l0_3.length c0_3), .int .i64 a0_4] 68 (0, 0))) ∧ Aside0 (w'.heap[gb270]? = some (.cells #[.int .i64 a1_0, (.slice A1_1 l1_1.length c1_1), (.slice A1_2 l1_2.length c1_2), (.slice A1_3 l1_3.length c1_3), .int .i64 a1_4] 68 (0, 0))) ∧ Aside0 (Below w.heap.size w w'))
    case atStart => exact ⟨(0), sT, H', ⟨Nat.le_refl _⟩, ⟨kT BK269⟩, ⟨kT BK270⟩, ⟨bT2 HB GE269 GE270⟩⟩
    case round =>
     clear H'
     try clear c1
     try clear c2
     try clear p2
     try clear c4
     try clear c6
     try clear c6b0
     try clear c6b1
     try clear c8
     try clear c10
     try clear c11
     try clear c11b0
     try clear c11b1
     try clear c12
     try clear c15
     try clear c18
     try clear c21
     try clear c24
     try clear c27
     try clear hcz13_0
     try clear hcz13_1
     try clear hcz13_2
     try clear hcz13_3
     try clear hcz13_4
     try clear hcz14_0
     try clear hcz14_1
     try clear hcz14_2
     try clear hcz14_3
     try clear hcz14_4
     try clear hcz16_0
     try clear hcz16_1
     try clear hcz16_2
     try clear hcz16_3
     try clear hcz16_4
     try clear hcz17_0
     try clear hcz17_1
     try clear hcz17_2
     try clear hcz17_3
     try clear hcz17_4
     try clear hcz19_0
     try clear hcz19_1
     try clear hcz19_2
     try clear hcz19_3
     try clear hcz19_4
     try clear hcz20_0
     try clear hcz20_1
     try clear hcz20_2
     try clear hcz20_3
     try clear hcz20_4
     try clear hcz22_0
     try clear hcz22_1
     try clear hcz22_2
     try clear hcz22_3
     try clear hcz22_4
     try clear hcz23_0
     try clear hcz23_1
     try clear hcz23_2
     try clear hcz23_3
     try clear hcz23_4
     try clear hcz25_0
     try clear hcz25_1
     try clear hcz25_2
     try clear hcz25_3
     try clear hcz25_4
     try clear hcz26_0
     try clear hcz26_1
     try clear hcz26_2
     try clear hcz26_3
     try clear hcz26_4
     try clear hfz13_0
     try clear hfz13_1
     try clear hfz13_2
     try clear hfz13_3
     try clear hfz13_4
     try clear hfz14_0
     try clear hfz14_1
     try clear hfz14_2
     try clear hfz14_3
     try clear hfz14_4
     try clear hfz16_0
     try clear hfz16_1
     try clear hfz16_2
     try clear hfz16_3
     try clear hfz16_4
     try clear hfz17_0
     try clear hfz17_1
     try clear hfz17_2
     try clear hfz17_3
     try clear hfz17_4
     try clear hfz19_0
     try clear hfz19_1
     try clear hfz19_2
     try clear hfz19_3
     try clear hfz19_4
     try clear hfz20_0
     try clear hfz20_1
     try clear hfz20_2
     try clear hfz20_3
     try clear hfz20_4
     try clear hfz22_0
     try clear hfz22_1
     try clear hfz22_2
     try clear hfz22_3
     try clear hfz22_4
     try clear hfz23_0
     try clear hfz23_1
     try clear hfz23_2
     try clear hfz23_3
     try clear hfz23_4
     try clear hfz25_0
     try clear hfz25_1
     try clear hfz25_2
     try clear hfz25_3
     try clear hfz25_4
     try clear hfz26_0
     try clear hfz26_1
     try clear hfz26_2
     try clear hfz26_3
     try clear hfz26_4
     try clear p2
     obtain ⟨x5_2, rfl, HA, HK2, BK269, BK270, HB⟩ := hrel
     cases gk with
     | zero => exact absurd HA.out (by simp [spec_EqualTasks.l0])
     | succ k2 =>
      have H := HA.out
      clear HA
      simp only [spec_EqualTasks.l0] at H
      by_cases c28 : x5_2 < (l0_3.length : Int)
      ·
       rw [if_pos c28] at H
       have c28b0 : decide (x5_2 < (l0_3.length : Int)) = true := decide_eq_true c28
       clear c28
       by_cases c29 : 0 ≤ x5_2
       ·
        rw [if_pos c29] at H
        have c29b0 : decide (0 ≤ x5_2) = true := decide_eq_true c29
        clear c29
        by_cases c30 : x5_2 < (l1_3.length : Int)
        ·
         rw [if_pos c30] at H
         have c30b0 : decide (x5_2 < (l1_3.length : Int)) = true := decide_eq_true c30
         clear c30
         by_cases c31 : ((rdOf false l0_3 x5_2) != (rdOf false l1_3 x5_2)) = true
         ·
          rw [if_pos c31] at H
          have c31b0 : ((rdOf false l0_3 x5_2) != (rdOf false l1_3 x5_2)) = true := c31
          (try (have c31b1 : decide ((rdOf false l0_3 x5_2) = (rdOf false l1_3 x5_2)) = false := by simpa using c31))
          (try (have c31b2 : ((rdOf false l0_3 x5_2) == (rdOf false l1_3 x5_2)) = false := by simpa using c31))
          (try (have c31b3 : ¬ ((rdOf false l0_3 x5_2) = (rdOf false l1_3 x5_2)) := by simpa using c31))
          clear c31
          obtain rfl := Option.some.inj H
          have hnb32 := NB269_270.out
          have hnc32 := NB270_269.out
          have hcz33_0 : wr.cell? ⟨gb269, 0, none⟩ = some (.int .i64 a0_0) := (blk_cell BK269.out 0).trans rfl
          have hcz33_1 : wr.cell? ⟨gb269, 1, none⟩ = some (.slice A0_1 l0_1.length c0_1) := (blk_cell BK269.out 1).trans rfl
          have hcz33_2 : wr.cell? ⟨gb269, 2, none⟩ = some (.slice A0_2 l0_2.length c0_2) := (blk_cell BK269.out 2).trans rfl
          have hcz33_3 : wr.cell? ⟨gb269, 3, none⟩ = some (.slice A0_3 l0_3.length c0_3) := (blk_cell BK269.out 3).trans rfl
          have hcz33_4 : wr.cell? ⟨gb269, 4, none⟩ = some (.int .i64 a0_4) := (blk_cell BK269.out 4).trans rfl
          have hfz33_0 := blk_frozen BK269.out 0
          have hfz33_1 := blk_frozen BK269.out 1
          have hfz33_2 := blk_frozen BK269.out 2
          have hfz33_3 := blk_frozen BK269.out 3
          have hfz33_4 := blk_frozen BK269.out 4
          have p273 : 0 ≤ (x5_2 : Int) := of_decide_eq_true aT
          have q273 : x5_2 < (l0_3.length : Int) := of_decide_eq_true aT
          obtain ⟨ad273, e273, hx273_0⟩ := Kd.at_bool HR0_3.out x5_2 p273 q273
          cases e273
          replace hx273_0 := (HB.out.cell (World.block_lt_of_cell? w _ hx273_0)).trans hx273_0
          replace p273 := eq_true p273
          replace q273 := eq_true q273
          have hcz34_0 : wr.cell? ⟨gb270, 0, none⟩ = some (.int .i64 a1_0) := (blk_cell BK270.out 0).trans rfl
          have hcz34_1 : wr.cell? ⟨gb270, 1, none⟩ = some (.slice A1_1 l1_1.length c1_1) := (blk_cell BK270.out 1).trans rfl
          have hcz34_2 : wr.cell? ⟨gb270, 2, none⟩ = some (.slice A1_2 l1_2.length c1_2) := (blk_cell BK270.out 2).trans rfl
          have hcz34_3 : wr.cell? ⟨gb270, 3, none⟩ = some (.slice A1_3 l1_3.length c1_3) := (blk_cell BK270.out 3).trans rfl
          have hcz34_4 : wr.cell? ⟨gb270, 4, none⟩ = some (.int .i64 a1_4) := (blk_cell BK270.out 4).trans rfl
          have hfz34_0 := blk_frozen BK270.out 0
          have hfz34_1 := blk_frozen BK270.out 1
          have hfz34_2 := blk_frozen BK270.out 2
          have hfz34_3 := blk_frozen BK270.out 3
          have hfz34_4 := blk_frozen BK270.out 4
          have p274 : 0 ≤ (x5_2 : Int) := of_decide_eq_true aT
          have q274 : x5_2 < (l1_3.length : Int) := of_decide_eq_true aT
          obtain ⟨ad274, e274, hx274_0⟩ := Kd.at_bool HR1_3.out x5_2 p274 q274
          cases e274
          replace hx274_0 := (HB.out.cell (World.block_lt_of_cell? w _ hx274_0)).trans hx274_0
          replace p274 := eq_true p274
          replace q274 := eq_true q274
          go_wp2
          repeat (go_quiet (fail); try go_wp2)
          go_ret
          exact ⟨eT, bT2 HB GE269 GE270⟩
         ·
          rw [if_neg c31] at H
          have c31b0 : ((rdOf false l0_3 x5_2) != (rdOf false l1_3 x5_2)) = false := by simpa using c31
          (try (have c31b1 : decide ((rdOf false l0_3 x5_2) = (rdOf false l1_3 x5_2)) = true := by simpa using c31))
          (try (have c31b2 : ((rdOf false l0_3 x5_2) == (rdOf false l1_3 x5_2)) = true := by simpa using c31))
          clear c31
          have H' := mA H
          clear H
          have hnb35 := NB269_270.out
          have hnc35 := NB270_269.out
          have hcz36_0 : wr.cell? ⟨gb269, 0, none⟩ = some (.int .i64 a0_0) := (blk_cell BK269.out 0).trans rfl
          have hcz36_1 : wr.cell? ⟨gb269, 1, none⟩ = some (.slice A0_1 l0_1.length c0_1) := (blk_cell BK269.out 1).trans rfl
          have hcz36_2 : wr.cell? ⟨gb269, 2, none⟩ = some (.slice A0_2 l0_2.length c0_2) := (blk_cell BK269.out 2).trans rfl
          have hcz36_3 : wr.cell? ⟨gb269, 3, none⟩ = some (.slice A0_3 l0_3.length c0_3) := (blk_cell BK269.out 3).trans rfl
          have hcz36_4 : wr.cell? ⟨gb269, 4, none⟩ = some (.int .i64 a0_4) := (blk_cell BK269.out 4).trans rfl
          have hfz36_0 := blk_frozen BK269.out 0
          have hfz36_1 := blk_frozen BK269.out 1
          have hfz36_2 := blk_frozen BK269.out 2
          have hfz36_3 := blk_frozen BK269.out 3
          have hfz36_4 := blk_frozen BK269.out 4
          have p273 : 0 ≤ (x5_2 : Int) := of_decide_eq_true aT
          have q273 : x5_2 < (l0_3.length : Int) := of_decide_eq_true aT
          obtain ⟨ad273, e273, hx273_0⟩ := Kd.at_bool HR0_3.out x5_2 p273 q273
          cases e273
          replace hx273_0 := (HB.out.cell (World.block_lt_of_cell? w _ hx273_0)).trans hx273_0
          replace p273 := eq_true p273
          replace q273 := eq_true q273
          have hcz37_0 : wr.cell? ⟨gb270, 0, none⟩ = some (.int .i64 a1_0) := (blk_cell BK270.out 0).trans rfl
          have hcz37_1 : wr.cell? ⟨gb270, 1, none⟩ = some (.slice A1_1 l1_1.length c1_1) := (blk_cell BK270.out 1).trans rfl
          have hcz37_2 : wr.cell? ⟨gb270, 2, none⟩ = some (.slice A1_2 l1_2.length c1_2) := (blk_cell BK270.out 2).trans rfl
          have hcz37_3 : wr.cell? ⟨gb270, 3, none⟩ = some (.slice A1_3 l1_3.length c1_3) := (blk_cell BK270.out 3).trans rfl
          have hcz37_4 : wr.cell? ⟨gb270, 4, none⟩ = some (.int .i64 a1_4) := (blk_cell BK270.out 4).trans rfl
          have hfz37_0 := blk_frozen BK270.out 0
          have hfz37_1 := blk_frozen BK270.out 1
          have hfz37_2 := blk_frozen BK270.out 2
          have hfz37_3 := blk_frozen BK270.out 3
          have hfz37_4 := blk_frozen BK270.out 4
          have p274 : 0 ≤ (x5_2 : Int) := of_decide_eq_true aT
          have q274 : x5_2 < (l1_3.length : Int) := of_decide_eq_true aT
          obtain ⟨ad274, e274, hx274_0⟩ := Kd.at_bool HR1_3.out x5_2 p274 q274
          cases e274
          replace hx274_0 := (HB.out.cell (World.block_lt_of_cell? w _ hx274_0)).trans hx274_0
          replace p274 := eq_true p274
          replace q274 := eq_true q274
          go_wp2
          repeat (go_quiet (fail); try go_wp2)
          go_roundg k2
          case measure => have := HJ2.out; have := HK2.out; omega
          case rel => exact ⟨(wrap64 (x5_2 + 1)), sT, H', ⟨by have := HJ2.out; have := HK2.out; omega⟩, ⟨kT BK269⟩, ⟨kT BK270⟩, ⟨bT2 HB GE269 GE270⟩⟩
        ·
         rw [if_neg c30] at H
         exact absurd H (by simp)
       ·
        rw [if_neg c29] at H
        exact absurd H (by simp)
      ·
       rw [if_neg c28] at H
       have c28b0 : decide (x5_2 < (l0_3.length : Int)) = false := decide_eq_false c28
       clear c28
       obtain rfl := Option.some.inj H
       have hnb38 := NB269_270.out
       have hnc38 := NB270_269.out
       have hcz39_0 : wr.cell? ⟨gb269, 0, none⟩ = some (.int .i64 a0_0) := (blk_cell BK269.out 0).trans rfl
       have hcz39_1 : wr.cell? ⟨gb269, 1, none⟩ = some (.slice A0_1 l0_1.length c0_1) := (blk_cell BK269.out 1).trans rfl
       have hcz39_2 : wr.cell? ⟨gb269, 2, none⟩ = some (.slice A0_2 l0_2.length c0_2) := (blk_cell BK269.out 2).trans rfl
       have hcz39_3 : wr.cell? ⟨gb269, 3, none⟩ = some (.slice A0_3 l0_3.length c0_3) := (blk_cell BK269.out 3).trans rfl
       have hcz39_4 : wr.cell? ⟨gb269, 4, none⟩ = some (.int .i64 a0_4) := (blk_cell BK269.out 4).trans rfl
       have hfz39_0 := blk_frozen BK269.out 0
       have hfz39_1 := blk_frozen BK269.out 1
       have hfz39_2 := blk_frozen BK269.out 2
       have hfz39_3 := blk_frozen BK269.out 3
       have hfz39_4 := blk_frozen BK269.out 4
       go_wp2
       repeat (go_quiet (fail); try go_wp2)
       go_ret
       exact ⟨eT, bT2 HB GE269 GE270⟩

/-! ### spec_EqualJoiners: function 17 -/
mutual
def spec_EqualJoiners.j0 : Nat → Bool → List (S68) → Int → Int → List (S68) → Int → Int → Option (Bool)
 | 0, _, _, _, _, _, _, _ => none
 | k + 1, x26, x276000, x276001, x276002, x277000, x277001, x277002 => if x26 = true then (some false) else (spec_EqualJoiners.l0 k 0 x276000 x276001 x276002 x277000 x277001 x277002)
def spec_EqualJoiners.l0 : Nat → Int → List (S68) → Int → Int → List (S68) → Int → Int → Option (Bool)
 | 0, _, _, _, _, _, _, _ => none
 | k + 1, x5, x276000, x276001, x276002, x277000, x277001, x277002 => if x5 < (x276000.length : Int) then (if 0 ≤ x5 then (if x5 < (x277000.length : Int) then ((spec_EqualTasks.f k ((rd_T68 x276000 x5).f0) ((rd_T68 x276000 x5).f1) ((rd_T68 x276000 x5).f2) ((rd_T68 x276000 x5).f3) ((rd_T68 x276000 x5).f4) ((rd_T68 x277000 x5).f0) ((rd_T68 x277000 x5).f1) ((rd_T68 x277000 x5).f2) ((rd_T68 x277000 x5).f3) ((rd_T68 x277000 x5).f4)).bind fun t279 => (if t279 = true then (spec_EqualJoiners.l0 k (wrap64 (x5 + 1)) x276000 x276001 x276002 x277000 x277001 x277002) else (some false))) else (none)) else (none)) else (some true)
end
def spec_EqualJoiners.f (k : Nat) (l0_0 : List (S68)) (a0_1 : Int) (a0_2 : Int) (l1_0 : List (S68)) (a1_1 : Int) (a1_2 : Int) : Option (Bool) := if a0_1 = a1_1 then (if a0_2 = a1_2 then (spec_EqualJoiners.j0 k ((l0_0.length : Int) != (l1_0.length : Int)) l0_0 a0_1 a0_2 l1_0 a1_1 a1_2) else (spec_EqualJoiners.j0 k true l0_0 a0_1 a0_2 l1_0 a1_1 a1_2)) else (spec_EqualJoiners.j0 k true l0_0 a0_1 a0_2 l1_0 a1_1 a1_2)
theorem spec_EqualJoiners.mono_l : ∀ k, (∀ y0 y1 y2 y3 y4 y5 y6, LeO (spec_EqualJoiners.j0 k y0 y1 y2 y3 y4 y5 y6) (spec_EqualJoiners.j0 (k + 1) y0 y1 y2 y3 y4 y5 y6)) ∧ (∀ y0 y1 y2 y3 y4 y5 y6, LeO (spec_EqualJoiners.l0 k y0 y1 y2 y3 y4 y5 y6) (spec_EqualJoiners.l0 (k + 1) y0 y1 y2 y3 y4 y5 y6))
 | 0 => ⟨fun _ _ _ _ _ _ _ r h => by simp [spec_EqualJoiners.j0] at h, fun _ _ _ _ _ _ _ r h => by simp [spec_EqualJoiners.l0] at h⟩
 | k + 1 => by
  obtain ⟨ih0, ih1⟩ := spec_EqualJoiners.mono_l k
  refine ⟨?_, ?_⟩
  ·
   intro y0 y1 y2 y3 y4 y5 y6
   unfold spec_EqualJoiners.j0
   repeat' first
   | (with_reducible exact ih0 _ _ _ _ _ _ _)
   | (with_reducible exact ih1 _ _ _ _ _ _ _)
   | (with_reducible exact spec_EqualTasks.mono _ _ _ _ _ _ _ _ _ _ _)
   | (with_reducible exact LeO.refl _)
   | (with_reducible exact LeO.none _)
   | (with_reducible refine LeO.ite ?_ ?_)
   | (with_reducible refine LeO.bind ?_ (fun _ => ?_))
   | exact ih0 _ _ _ _ _ _ _
   | exact ih1 _ _ _ _ _ _ _
   | exact spec_EqualTasks.mono _ _ _ _ _ _ _ _ _ _ _
   | exact LeO.none _
   | refine LeO.ite ?_ ?_
   | refine LeO.bind ?_ (fun _ => ?_)
  ·
   intro y0 y1 y2 y3 y4 y5 y6
   unfold spec_EqualJoiners.l0
   repeat' first
   | (with_reducible exact ih0 _ _ _ _ _ _ _)
   | (with_reducible exact ih1 _ _ _ _ _ _ _)
   | (with_reducible exact spec_EqualTasks.mono _ _ _ _ _ _ _ _ _ _ _)
   | (with_reducible exact LeO.refl _)
   | (with_reducible exact LeO.none _)
   | (with_reducible refine LeO.ite ?_ ?_)
   | (with_reducible refine LeO.bind ?_ (fun _ => ?_))
   | exact ih0 _ _ _ _ _ _ _
   | exact ih1 _ _ _ _ _ _ _
   | exact spec_EqualTasks.mono _ _ _ _ _ _ _ _ _ _ _
   | exact LeO.none _
   | refine LeO.ite ?_ ?_
   | refine LeO.bind ?_ (fun _ => ?_)
theorem spec_EqualJoiners.mono : ∀ a0 a1 a2 a3 a4 a5 k, LeO (spec_EqualJoiners.f k a0 a1 a2 a3 a4 a5) (spec_EqualJoiners.f (k + 1) a0 a1 a2 a3 a4 a5) := by
 intro a0 a1 a2 a3 a4 a5 k
 obtain ⟨ih0, ih1⟩ := spec_EqualJoiners.mono_l k
 unfold spec_EqualJoiners.f
 repeat' first
   | (with_reducible exact ih0 _ _ _ _ _ _ _)
   | (with_reducible exact ih1 _ _ _ _ _ _ _)
   | (with_reducible exact spec_EqualTasks.mono _ _ _ _ _ _ _ _ _ _ _)
   | (with_reducible exact LeO.refl _)
   | (with_reducible exact LeO.none _)
   | (with_reducible refine LeO.ite ?_ ?_)
   | (with_reducible refine LeO.bind ?_ (fun _ => ?_))
   | exact ih0 _ _ _ _ _ _ _
   | exact ih1 _ _ _ _ _ _ _
   | exact spec_EqualTasks.mono _ _ _ _ _ _ _ _ _ _ _
   | exact LeO.none _
   | refine LeO.ite ?_ ?_
   | refine LeO.bind ?_ (fun _ => ?_)
def spec_EqualJoiners.T6 : Bool × List (List Nat × List Nat) := (true, [([], []), ([0], [0]), ([], []), ([1, 2], [1, 2]), ([3], [3]), ([], []), ([5], [5]), ([], []), ([6, 7], [6, 7]), ([8], [8]), ([4, 9], [4, 9]), ([10], [10])])
def spec_EqualJoiners.B6 : List Nat := [0, 1, 0, 7, 15, 0, 32, 0, 224, 480, 1023, 2047]
theorem spec_EqualJoiners.tab6 : rtab .any (opsOf Try.f17 6) = spec_EqualJoiners.T6 := by kernel_rfl
theorem spec_EqualJoiners.bits6 : waitsOk spec_EqualJoiners.T6.2 spec_EqualJoiners.B6 = true := by kernel_rfl
set_option maxHeartbeats 8000000 in
set_option maxRecDepth 100000 in
theorem spec_EqualJoiners.calls (k : Nat) (A0_0 : Option Addr) (c0_0 : Nat) (l0_0 : List (S68)) (a0_1 : Int) (a0_2 : Int) (A1_0 : Option Addr) (c1_0 : Nat) (l1_0 : List (S68)) (a1_1 : Int) (a1_2 : Int) (r : Bool) (w : World) (hr0_0 : Kd.C k68 w A0_0 l0_0.length l0_0) (hc0_0 : l0_0.length ≤ c0_0) (hr1_0 : Kd.C k68 w A1_0 l1_0.length l1_0) (hc1_0 : l1_0.length ≤ c1_0) (h : spec_EqualJoiners.f k l0_0 a0_1 a0_2 l1_0 a1_1 a1_2 = some r) :
  Calls Try.prog 17 #[.agg #[.slice A0_0 l0_0.length c0_0, .int .i64 a0_1, .int .i64 a0_2], .agg #[.slice A1_0 l1_0.length c1_0, .int .i64 a1_1, .int .i64 a1_2]] w fun e w' => e = .returned (.bool r) ∧ Below w.heap.size w w' := by
 have hu29 := Try.underlying29
 have hu68 := Try.underlying68
 have HR0_0 := mA hr0_0
 have HC0_0 := mA hc0_0
 clear hr0_0 hc0_0
 have HR1_0 := mA hr1_0
 have HC1_0 := mA hc1_0
 clear hr1_0 hc1_0
 have HB := mA (Below.refl w.heap.size w)
 have H : (if a0_1 = a1_1 then (if a0_2 = a1_2 then (spec_EqualJoiners.j0 k ((l0_0.length : Int) != (l1_0.length : Int)) l0_0 a0_1 a0_2 l1_0 a1_1 a1_2) else (spec_EqualJoiners.j0 k true l0_0 a0_1 a0_2 l1_0 a1_1 a1_2)) else (spec_EqualJoiners.j0 k true l0_0 a0_1 a0_2 l1_0 a1_1 a1_2)) = some r := h
 clear h
 have HC3 := mA H
 clear H
 go_enter Try.func17, Try.ntmps17
 go_upto_region 1 with (first | ((with_reducible refine gate_dst (N := 2) rfl ?_); (try (refine gate_guard (by rfl) ?_; dsimp only)); refine boxT 2 #[.slice A0_0 l0_0.length c0_0, .int .i64 a0_1, .int .i64 a0_2] 29 ?_; intro gb275 hg w4 hbox hb; have BK275 := mA (hbox); have GW275 := mA ((by rw [hg]; exact (below_size (bT HB)) : w.heap.size ≤ gb275)); have GE275 := GW275; replace HB := mA (below_step (bT HB) hb); clear hb hbox hg) | ((with_reducible refine gate_dst (N := 3) rfl ?_); (try (refine gate_guard (by rfl) ?_; dsimp only)); refine boxT 3 #[.slice A1_0 l1_0.length c1_0, .int .i64 a1_1, .int .i64 a1_2] 29 ?_; intro gb276 hg w5 hbox hb; have BK276 := mA (hbox); have GW276 := mA ((by rw [hg]; exact (below_size (bT1 HB GE275)) : w.heap.size ≤ gb276)); have GE276 := GW276; replace HB := mA (below_step (bT1 HB GE275) hb); have NB275_276 : Aside0 (gb275 ≠ gb276) := nL BK275 hg; have NB276_275 : Aside0 (gb276 ≠ gb275) := nG BK275 hg; replace BK275 := kB BK275 hb; clear hb hbox hg))
 (try simp only [Act.put, List.setIfInBounds_toArray, List.set_cons_zero, List.set_cons_succ])
 go_cut [26] (fun v26 wc => ∃ (kq : Nat) (x26_2 : Bool), v26 = .bool x26_2 ∧ Aside0 (spec_EqualJoiners.j0 kq x26_2 l0_0 a0_1 a0_2 l1_0 a1_1 a1_2 = some r) ∧ Aside0 (kq ≤ k) ∧ Aside0 (wc.heap[gb275]? = some (.cells #[(.slice A0_0 l0_0.length c0_0), .int .i64 a0_1, .int .i64 a0_2] 29 (0, 0))) ∧ Aside0 (wc.heap[gb276]? = some (.cells #[(.slice A1_0 l1_0.length c1_0), .int .i64 a1_1, .int .i64 a1_2] 29 (0, 0))) ∧ Aside0 (Below w.heap.size w wc))
 case first =>
  have H := HC3.out
  clear HC3
  by_cases c6 : a0_1 = a1_1
  ·
   rw [if_pos c6] at H
   have c6b0 : (a0_1 == a1_1) = true := beq_iff_eq.mpr c6
   have c6b1 : (a0_1 != a1_1) = false := bne_eq_false_iff_eq.mpr c6
   clear c6
   (first | rw [c6b0] | (simp only [i64_w, i32_w]; rw [c6b0]) | skip)
   by_cases c7 : a0_2 = a1_2
   ·
    rw [if_pos c7] at H
    have c7b0 : (a0_2 == a1_2) = true := beq_iff_eq.mpr c7
    have c7b1 : (a0_2 != a1_2) = false := bne_eq_false_iff_eq.mpr c7
    clear c7
    have H' := mA H
    clear H
    have hnb8 := NB275_276.out
    have hnc8 := NB276_275.out
    have hcz9_0 : w5.cell? ⟨gb275, 0, none⟩ = some (.slice A0_0 l0_0.length c0_0) := (blk_cell BK275.out 0).trans rfl
    have hcz9_1 : w5.cell? ⟨gb275, 1, none⟩ = some (.int .i64 a0_1) := (blk_cell BK275.out 1).trans rfl
    have hcz9_2 : w5.cell? ⟨gb275, 2, none⟩ = some (.int .i64 a0_2) := (blk_cell BK275.out 2).trans rfl
    have hfz9_0 := blk_frozen BK275.out 0
    have hfz9_1 := blk_frozen BK275.out 1
    have hfz9_2 := blk_frozen BK275.out 2
    have hcz10_0 : w5.cell? ⟨gb276, 0, none⟩ = some (.slice A1_0 l1_0.length c1_0) := (blk_cell BK276.out 0).trans rfl
    have hcz10_1 : w5.cell? ⟨gb276, 1, none⟩ = some (.int .i64 a1_1) := (blk_cell BK276.out 1).trans rfl
    have hcz10_2 : w5.cell? ⟨gb276, 2, none⟩ = some (.int .i64 a1_2) := (blk_cell BK276.out 2).trans rfl
    have hfz10_0 := blk_frozen BK276.out 0
    have hfz10_1 := blk_frozen BK276.out 1
    have hfz10_2 := blk_frozen BK276.out 2
    go_wp2
    go_meet
    case rel => exact ⟨_, (((l0_0.length : Int) != (l1_0.length : Int))), sT, H', ⟨by first | omega | exact Nat.le_refl _⟩, ⟨kT BK275⟩, ⟨kT BK276⟩, ⟨bT2 HB GE275 GE276⟩⟩
   ·
    rw [if_neg c7] at H
    have c7b0 : (a0_2 == a1_2) = false := beq_eq_false_iff_ne.mpr c7
    have c7b1 : (a0_2 != a1_2) = true := bne_iff_ne.mpr c7
    have H' := mA H
    clear H
    have hnb11 := NB275_276.out
    have hnc11 := NB276_275.out
    have hcz12_0 : w5.cell? ⟨gb275, 0, none⟩ = some (.slice A0_0 l0_0.length c0_0) := (blk_cell BK275.out 0).trans rfl
    have hcz12_1 : w5.cell? ⟨gb275, 1, none⟩ = some (.int .i64 a0_1) := (blk_cell BK275.out 1).trans rfl
    have hcz12_2 : w5.cell? ⟨gb275, 2, none⟩ = some (.int .i64 a0_2) := (blk_cell BK275.out 2).trans rfl
    have hfz12_0 := blk_frozen BK275.out 0
    have hfz12_1 := blk_frozen BK275.out 1
    have hfz12_2 := blk_frozen BK275.out 2
    have hcz13_0 : w5.cell? ⟨gb276, 0, none⟩ = some (.slice A1_0 l1_0.length c1_0) := (blk_cell BK276.out 0).trans rfl
    have hcz13_1 : w5.cell? ⟨gb276, 1, none⟩ = some (.int .i64 a1_1) := (blk_cell BK276.out 1).trans rfl
    have hcz13_2 : w5.cell? ⟨gb276, 2, none⟩ = some (.int .i64 a1_2) := (blk_cell BK276.out 2).trans rfl
    have hfz13_0 := blk_frozen BK276.out 0
    have hfz13_1 := blk_frozen BK276.out 1
    have hfz13_2 := blk_frozen BK276.out 2
    go_wp2
    go_meet
    case rel => exact ⟨_, (true), sT, H', ⟨by first | omega | exact Nat.le_refl _⟩, ⟨kT BK275⟩, ⟨kT BK276⟩, ⟨bT2 HB GE275 GE276⟩⟩
  ·
   rw [if_neg c6] at H
   have c6b0 : (a0_1 == a1_1) = false := beq_eq_false_iff_ne.mpr c6
   have c6b1 : (a0_1 != a1_1) = true := bne_iff_ne.mpr c6
   (first | rw [c6b0] | (simp only [i64_w, i32_w]; rw [c6b0]) | skip)
   have H' := mA H
   clear H
   have hnb14 := NB275_276.out
   have hnc14 := NB276_275.out
   have hcz15_0 : w5.cell? ⟨gb275, 0, none⟩ = some (.slice A0_0 l0_0.length c0_0) := (blk_cell BK275.out 0).trans rfl
   have hcz15_1 : w5.cell? ⟨gb275, 1, none⟩ = some (.int .i64 a0_1) := (blk_cell BK275.out 1).trans rfl
   have hcz15_2 : w5.cell? ⟨gb275, 2, none⟩ = some (.int .i64 a0_2) := (blk_cell BK275.out 2).trans rfl
   have hfz15_0 := blk_frozen BK275.out 0
   have hfz15_1 := blk_frozen BK275.out 1
   have hfz15_2 := blk_frozen BK275.out 2
   have hcz16_0 : w5.cell? ⟨gb276, 0, none⟩ = some (.slice A1_0 l1_0.length c1_0) := (blk_cell BK276.out 0).trans rfl
   have hcz16_1 : w5.cell? ⟨gb276, 1, none⟩ = some (.int .i64 a1_1) := (blk_cell BK276.out 1).trans rfl
   have hcz16_2 : w5.cell? ⟨gb276, 2, none⟩ = some (.int .i64 a1_2) := (blk_cell BK276.out 2).trans rfl
   have hfz16_0 := blk_frozen BK276.out 0
   have hfz16_1 := blk_frozen BK276.out 1
   have hfz16_2 := blk_frozen BK276.out 2
   go_wp2
   go_meet
   case rel => exact ⟨_, (true), sT, H', ⟨by first | omega | exact Nat.le_refl _⟩, ⟨kT BK275⟩, ⟨kT BK276⟩, ⟨bT2 HB GE275 GE276⟩⟩
 case rest =>
  clear HC3
  try clear c1
  try clear p2
  try clear c6
  try clear c6b0
  try clear c6b1
  try clear c7
  try clear c7b0
  try clear c7b1
  try clear c8
  try clear c11
  try clear c14
  try clear hcz10_0
  try clear hcz10_1
  try clear hcz10_2
  try clear hcz12_0
  try clear hcz12_1
  try clear hcz12_2
  try clear hcz13_0
  try clear hcz13_1
  try clear hcz13_2
  try clear hcz15_0
  try clear hcz15_1
  try clear hcz15_2
  try clear hcz16_0
  try clear hcz16_1
  try clear hcz16_2
  try clear hcz9_0
  try clear hcz9_1
  try clear hcz9_2
  try clear hfz10_0
  try clear hfz10_1
  try clear hfz10_2
  try clear hfz12_0
  try clear hfz12_1
  try clear hfz12_2
  try clear hfz13_0
  try clear hfz13_1
  try clear hfz13_2
  try clear hfz15_0
  try clear hfz15_1
  try clear hfz15_2
  try clear hfz16_0
  try clear hfz16_1
  try clear hfz16_2
  try clear hfz9_0
  try clear hfz9_1
  try clear hfz9_2
  obtain ⟨kq, x26_2, rfl, HA, HJ2, BK275, BK276, HB⟩ := hcut
  cases kq with
  | zero => exact absurd HA.out (by simp [spec_EqualJoiners.j0])
  | succ kj2 =>
   have H := HA.out
   clear HA
   simp only [spec_EqualJoiners.j0] at H
   by_cases c17 : x26_2 = true
   ·
    subst c17
    rw [if_pos rfl] at H
    obtain rfl := Option.some.inj H
    go_wp2
    go_ret
    exact ⟨eT, bT2 HB GE275 GE276⟩
   ·
    replace c17 := Bool.eq_false_iff.mpr c17
    subst c17
    rw [if_neg (show ¬ (false = true) by decide)] at H
    have H' := mA H
    clear H
    go_wp2
    go_loopg [5] kj2 (fun kq v5 w' => ∃ (x5_2 : Int), v5 = .int .i64 x5_2 ∧ Aside0 (spec_EqualJoiners.l0 kq x5_2 l0_0 a0_1 a0_2 l1_0 a1_1 a1_2 = some r) ∧ Aside0 (kq ≤ kj2) ∧ Aside0 (w'.heap[gb275]? = some (.cells #[(.slice A0_0 l0_0.length c0_0), .int .i64 a0_1, .int .i64 a0_2] 29 (0, 0))) ∧ Aside0 (w'.heap[gb276]? = some (.cells #[(.slice A1_0 l1_0.length c1_0), .int .i64 a1_1, .int .i64 a1_2] 29 (0, 0))) ∧ Aside0 (Below w.heap.size w w'))
    case atStart => exact ⟨(0), sT, H', ⟨Nat.le_refl _⟩, ⟨kT BK275⟩, ⟨kT BK276⟩, ⟨bT2 HB GE275 GE276⟩⟩
    case round =>
     clear H'
     try clear c1
     try clear p2
     try clear c6
     try clear c6b0
     try clear c6b1
     try clear c7
     try clear c7b0
     try clear c7b1
     try clear c8
     try clear c11
     try clear c14
     try clear c17
     try clear hcz10_0
     try clear hcz10_1
     try clear hcz10_2
     try clear hcz12_0
     try clear hcz12_1
     try clear hcz12_2
     try clear hcz13_0
     try clear hcz13_1
     try clear hcz13_2
     try clear hcz15_0
     try clear hcz15_1
     try clear hcz15_2
     try clear hcz16_0
     try clear hcz16_1
     try clear hcz16_2
     try clear hcz9_0
     try clear hcz9_1
     try clear hcz9_2
     try clear hfz10_0
     try clear hfz10_1
     try clear hfz10_2
     try clear hfz12_0
     try clear hfz12_1
     try clear hfz12_2
     try clear hfz13_0
     try clear hfz13_1
     try clear hfz13_2
     try clear hfz15_0
     try clear hfz15_1
     try clear hfz15_2
     try clear hfz16_0
     try clear hfz16_1
     try clear hfz16_2
     try clear hfz9_0
     try clear hfz9_1
     try clear hfz9_2
     try clear p2
     obtain ⟨x5_2, rfl, HA, HK2, BK275, BK276, HB⟩ := hrel
     cases gk with
     | zero => exact absurd HA.out (by simp [spec_EqualJoiners.l0])
     | succ k2 =>
      have H := HA.out
      clear HA
      simp only [spec_EqualJoiners.l0] at H
      by_cases c18 : x5_2 < (l0_0.length : Int)
      ·
       rw [if_pos c18] at H
       have c18b0 : decide (x5_2 < (l0_0.length : Int)) = true := decide_eq_true c18
       clear c18
       by_cases c19 : 0 ≤ x5_2
       ·
        rw [if_pos c19] at H
        have c19b0 : decide (0 ≤ x5_2) = true := decide_eq_true c19
        clear c19
        by_cases c20 : x5_2 < (l1_0.length : Int)
        ·
         rw [if_pos c20] at H
         have c20b0 : decide (x5_2 < (l1_0.length : Int)) = true := decide_eq_true c20
         clear c20
         obtain ⟨t279, A21, H⟩ := Option.bind_eq_some_iff.mp H
         replace A21 := mA A21
         try dsimp only at H
         by_cases c22 : t279 = true
         ·
          subst c22
          rw [if_pos rfl] at H
          have H' := mA H
          clear H
          have hnb23 := NB275_276.out
          have hnc23 := NB276_275.out
          have hcz24_0 : wr.cell? ⟨gb275, 0, none⟩ = some (.slice A0_0 l0_0.length c0_0) := (blk_cell BK275.out 0).trans rfl
          have hcz24_1 : wr.cell? ⟨gb275, 1, none⟩ = some (.int .i64 a0_1) := (blk_cell BK275.out 1).trans rfl
          have hcz24_2 : wr.cell? ⟨gb275, 2, none⟩ = some (.int .i64 a0_2) := (blk_cell BK275.out 2).trans rfl
          have hfz24_0 := blk_frozen BK275.out 0
          have hfz24_1 := blk_frozen BK275.out 1
          have hfz24_2 := blk_frozen BK275.out 2
          try go_wp2
          replace BK275 := mA (blk_drew BK275.out)
          replace BK276 := mA (blk_drew BK276.out)
          replace HB := mA (below_drew1 HB.out)
          have p277 : 0 ≤ (x5_2 : Int) := of_decide_eq_true aT
          have q277 : x5_2 < (l0_0.length : Int) := of_decide_eq_true aT
          obtain ⟨ad277, A277_1, c277_1, A277_2, c277_2, A277_3, c277_3, e277, hx277_0, hx277_1, hx277_2, hx277_3, hx277_4, hl277_1, hi277_1, hl277_2, hi277_2, hl277_3, hi277_3⟩ := at_T68 HR0_0.out x5_2 p277 q277
          have hw277_4 := hx277_4
          have hw277_3 := hx277_3
          have hw277_2 := hx277_2
          have hw277_1 := hx277_1
          have hw277_0 := hx277_0
          cases e277
          replace hx277_0 := (HB.out.cell (World.block_lt_of_cell? w _ hx277_0)).trans hx277_0
          replace hx277_1 := (HB.out.cell (World.block_lt_of_cell? w _ hx277_1)).trans hx277_1
          replace hx277_2 := (HB.out.cell (World.block_lt_of_cell? w _ hx277_2)).trans hx277_2
          replace hx277_3 := (HB.out.cell (World.block_lt_of_cell? w _ hx277_3)).trans hx277_3
          replace hx277_4 := (HB.out.cell (World.block_lt_of_cell? w _ hx277_4)).trans hx277_4
          have HR277_1 := mA hi277_1
          have HC277_1 := mA hl277_1
          clear hi277_1 hl277_1
          have HR277_2 := mA hi277_2
          have HC277_2 := mA hl277_2
          clear hi277_2 hl277_2
          have HR277_3 := mA hi277_3
          have HC277_3 := mA hl277_3
          clear hi277_3 hl277_3
          replace p277 := eq_true p277
          replace q277 := eq_true q277
          have p278 : 0 ≤ (x5_2 : Int) := of_decide_eq_true aT
          have q278 : x5_2 < (l1_0.length : Int) := of_decide_eq_true aT
          obtain ⟨ad278, A278_1, c278_1, A278_2, c278_2, A278_3, c278_3, e278, hx278_0, hx278_1, hx278_2, hx278_3, hx278_4, hl278_1, hi278_1, hl278_2, hi278_2, hl278_3, hi278_3⟩ := at_T68 HR1_0.out x5_2 p278 q278
          have hw278_4 := hx278_4
          have hw278_3 := hx278_3
          have hw278_2 := hx278_2
          have hw278_1 := hx278_1
          have hw278_0 := hx278_0
          cases e278
          replace hx278_0 := (HB.out.cell (World.block_lt_of_cell? w _ hx278_0)).trans hx278_0
          replace hx278_1 := (HB.out.cell (World.block_lt_of_cell? w _ hx278_1)).trans hx278_1
          replace hx278_2 := (HB.out.cell (World.block_lt_of_cell? w _ hx278_2)).trans hx278_2
          replace hx278_3 := (HB.out.cell (World.block_lt_of_cell? w _ hx278_3)).trans hx278_3
          replace hx278_4 := (HB.out.cell (World.block_lt_of_cell? w _ hx278_4)).trans hx278_4
          have HR278_1 := mA hi278_1
          have HC278_1 := mA hl278_1
          clear hi278_1 hl278_1
          have HR278_2 := mA hi278_2
          have HC278_2 := mA hl278_2
          clear hi278_2 hl278_2
          have HR278_3 := mA hi278_3
          have HC278_3 := mA hl278_3
          clear hi278_3 hl278_3
          replace p278 := eq_true p278
          replace q278 := eq_true q278
          refine start_ (n := 12) (S := fun w' => w'.cell? ⟨gb275, 0, none⟩ = some (.slice (some ad277) l0_0.length c0_0) ∧ w'.cell? ⟨gb275, 1, none⟩ = some (.int .i64 a0_1) ∧ w'.cell? ⟨gb275, 2, none⟩ = some (.int .i64 a0_2) ∧ w'.cell? ⟨gb276, 0, none⟩ = some (.slice (some ad278) l1_0.length c1_0) ∧ w'.cell? ⟨gb276, 1, none⟩ = some (.int .i64 a1_1) ∧ w'.cell? ⟨gb276, 2, none⟩ = some (.int .i64 a1_2) ∧ w'.cell? (ad277.add ((x5_2).toNat * 5)) = some (.int .i64 ((rd_T68 l0_0 x5_2).f0)) ∧ w'.cell? ⟨(ad277.add ((x5_2).toNat * 5)).block, (ad277.add ((x5_2).toNat * 5)).off + 1, none⟩ = some (.slice A277_1 ((rd_T68 l0_0 x5_2).f1).length c277_1) ∧ w'.cell? ⟨(ad277.add ((x5_2).toNat * 5)).block, (ad277.add ((x5_2).toNat * 5)).off + 2, none⟩ = some (.slice A277_2 ((rd_T68 l0_0 x5_2).f2).length c277_2) ∧ w'.cell? ⟨(ad277.add ((x5_2).toNat * 5)).block, (ad277.add ((x5_2).toNat * 5)).off + 3, none⟩ = some (.slice A277_3 ((rd_T68 l0_0 x5_2).f3).length c277_3) ∧ w'.cell? ⟨(ad277.add ((x5_2).toNat * 5)).block, (ad277.add ((x5_2).toNat * 5)).off + 4, none⟩ = some (.int .i64 ((rd_T68 l0_0 x5_2).f4)) ∧ w'.cell? (ad278.add ((x5_2).toNat * 5)) = some (.int .i64 ((rd_T68 l1_0 x5_2).f0)) ∧ w'.cell? ⟨(ad278.add ((x5_2).toNat * 5)).block, (ad278.add ((x5_2).toNat * 5)).off + 1, none⟩ = some (.slice A278_1 ((rd_T68 l1_0 x5_2).f1).length c278_1) ∧ w'.cell? ⟨(ad278.add ((x5_2).toNat * 5)).block, (ad278.add ((x5_2).toNat * 5)).off + 2, none⟩ = some (.slice A278_2 ((rd_T68 l1_0 x5_2).f2).length c278_2) ∧ w'.cell? ⟨(ad278.add ((x5_2).toNat * 5)).block, (ad278.add ((x5_2).toNat * 5)).off + 3, none⟩ = some (.slice A278_3 ((rd_T68 l1_0 x5_2).f3).length c278_3) ∧ w'.cell? ⟨(ad278.add ((x5_2).toNat * 5)).block, (ad278.add ((x5_2).toNat * 5)).off + 4, none⟩ = some (.int .i64 ((rd_T68 l1_0 x5_2).f4))) (ds := []) #[false, false, false, false, false, false, false, false, false, false, false, false] (by kernel_rfl) rfl rfl ⟨(blk_cell BK275.out 0).trans rfl, (blk_cell BK275.out 1).trans rfl, (blk_cell BK275.out 2).trans rfl, (blk_cell BK276.out 0).trans rfl, (blk_cell BK276.out 1).trans rfl, (blk_cell BK276.out 2).trans rfl, ((HB.out.cell (World.block_lt_of_cell? w _ hw277_0)).trans hw277_0), ((HB.out.cell (World.block_lt_of_cell? w _ hw277_1)).trans hw277_1), ((HB.out.cell (World.block_lt_of_cell? w _ hw277_2)).trans hw277_2), ((HB.out.cell (World.block_lt_of_cell? w _ hw277_3)).trans hw277_3), ((HB.out.cell (World.block_lt_of_cell? w _ hw277_4)).trans hw277_4), ((HB.out.cell (World.block_lt_of_cell? w _ hw278_0)).trans hw278_0), ((HB.out.cell (World.block_lt_of_cell? w _ hw278_1)).trans hw278_1), ((HB.out.cell (World.block_lt_of_cell? w _ hw278_2)).trans hw278_2), ((HB.out.cell (World.block_lt_of_cell? w _ hw278_3)).trans hw278_3), ((HB.out.cell (World.block_lt_of_cell? w _ hw278_4)).trans hw278_4)⟩ (fun hHeld => ?_); refine with_tabW spec_EqualJoiners.tab6 spec_EqualJoiners.bits6 (fun HT_ HW_ => ?_)
          generalize wr.drew = w25 at BK275 BK276 HB HR277_1 HR277_2 HR277_3 HR278_1 HR278_2 HR278_3 hx277_0 hx277_1 hx277_2 hx277_3 hx277_4 hx278_0 hx278_1 hx278_2 hx278_3 hx278_4 hHeld ⊢
          refine pureT (i := 0) (N := some 34) #[true, false, false, false, false, false, false, false, false, false, false, false] (any_of HT_.out (by kernel_rfl)) ?_
          refine pureT (i := 2) (N := some 36) #[true, false, true, false, false, false, false, false, false, false, false, false] (any_of HT_.out (by kernel_rfl)) ?_
          refine pureT (i := 5) (N := some 39) #[true, false, true, false, false, true, false, false, false, false, false, false] (any_of HT_.out (by kernel_rfl)) ?_
          refine pureT (i := 7) (N := some 41) #[true, false, true, false, false, true, false, true, false, false, false, false] (any_of HT_.out (by kernel_rfl)) ?_
          refine take_ (i := 1) (N := some 35) (v := ?_) (a' := ?_) #[true, true, true, false, false, true, false, true, false, false, false, false] rfl rfl (take_ofW HT_.out HW_.out (by kernel_rfl)) (fun _ _ _ h => h) (Or.inl ⟨by rfl, ?_⟩) hHeld ?_ ?_
          rotate_left
          ·
           rintro w' ⟨s0, s1, s2, s3, s4, s5, s6, s7, s8, s9, s10, s11, s12, s13, s14, s15⟩
           go_simp
           with_reducible rfl
          rotate_left
          ·
           simp only [Act.put, List.setIfInBounds_toArray, List.set_cons_zero, List.set_cons_succ, i64_w, i32_w]
           rfl
          refine pureT (i := 3) (N := some 37) #[true, true, true, true, false, true, false, true, false, false, false, false] (any_of HT_.out (by kernel_rfl)) ?_
          refine take_ (i := 4) (N := some 38) (v := ?_) (a' := ?_) #[true, true, true, true, true, true, false, true, false, false, false, false] rfl rfl (take_ofW HT_.out HW_.out (by kernel_rfl)) (fun _ _ _ h => h) (Or.inl ⟨by rfl, ?_⟩) hHeld ?_ ?_
          rotate_left
          ·
           rintro w' ⟨s0, s1, s2, s3, s4, s5, s6, s7, s8, s9, s10, s11, s12, s13, s14, s15⟩
           go_simp
           with_reducible rfl
          rotate_left
          ·
           simp only [Act.put, List.setIfInBounds_toArray, List.set_cons_zero, List.set_cons_succ, i64_w, i32_w]
           rfl
          refine take_ (i := 6) (N := some 40) (v := ?_) (a' := ?_) #[true, true, true, true, true, true, true, true, false, false, false, false] rfl rfl (take_ofW HT_.out HW_.out (by kernel_rfl)) (fun _ _ _ h => h) (Or.inl ⟨by rfl, ?_⟩) hHeld ?_ ?_
          rotate_left
          ·
           rintro w' ⟨s0, s1, s2, s3, s4, s5, s6, s7, s8, s9, s10, s11, s12, s13, s14, s15⟩
           go_simp
           with_reducible rfl
          rotate_left
          ·
           simp only [Act.put, List.setIfInBounds_toArray, List.set_cons_zero, List.set_cons_succ, i64_w, i32_w]
           rfl
          refine pureT (i := 8) (N := some 42) #[true, true, true, true, true, true, true, true, true, false, false, false] (any_of HT_.out (by kernel_rfl)) ?_
          refine take_ (i := 9) (N := some 43) (v := ?_) (a' := ?_) #[true, true, true, true, true, true, true, true, true, true, false, false] rfl rfl (take_ofW HT_.out HW_.out (by kernel_rfl)) (fun _ _ _ h => h) (Or.inl ⟨by rfl, ?_⟩) hHeld ?_ ?_
          rotate_left
          ·
           rintro w' ⟨s0, s1, s2, s3, s4, s5, s6, s7, s8, s9, s10, s11, s12, s13, s14, s15⟩
           go_simp
           with_reducible rfl
          rotate_left
          ·
           simp only [Act.put, List.setIfInBounds_toArray, List.set_cons_zero, List.set_cons_succ, i64_w, i32_w]
           rfl
          refine one_ (i := 10) (N := some 44) #[true, true, true, true, true, true, true, true, true, true, true, false] rfl rfl (one_of HT_.out (by kernel_rfl)) (by decide) (fun K hK => ?_)
          refine goes_ Try.func49 (by kernel_rfl) rfl #[.agg #[.int .i64 ((rd_T68 l0_0 x5_2).f0), .slice A277_1 ((rd_T68 l0_0 x5_2).f1).length c277_1, .slice A277_2 ((rd_T68 l0_0 x5_2).f2).length c277_2, .slice A277_3 ((rd_T68 l0_0 x5_2).f3).length c277_3, .int .i64 ((rd_T68 l0_0 x5_2).f4)], .agg #[.int .i64 ((rd_T68 l1_0 x5_2).f0), .slice A278_1 ((rd_T68 l1_0 x5_2).f1).length c278_1, .slice A278_2 ((rd_T68 l1_0 x5_2).f2).length c278_2, .slice A278_3 ((rd_T68 l1_0 x5_2).f3).length c278_3, .int .i64 ((rd_T68 l1_0 x5_2).f4)]] (by rfl) rfl rfl mT ?_
          with_reducible refine (spec_EqualTasks.calls k2 ((rd_T68 l0_0 x5_2).f0) _ _ ((rd_T68 l0_0 x5_2).f1) _ _ ((rd_T68 l0_0 x5_2).f2) _ _ ((rd_T68 l0_0 x5_2).f3) ((rd_T68 l0_0 x5_2).f4) ((rd_T68 l1_0 x5_2).f0) _ _ ((rd_T68 l1_0 x5_2).f1) _ _ ((rd_T68 l1_0 x5_2).f2) _ _ ((rd_T68 l1_0 x5_2).f3) ((rd_T68 l1_0 x5_2).f4) true _ ?side1 ?side2 ?side3 ?side4 ?side5 ?side6 ?side7 ?side8 ?side9 ?side10 ?side11 ?side12 A21.out).mono ?_
          (case side1 => exact cT (Kd.C_below HR277_1.out HB.out))
          (case side2 => exact HC277_1.out)
          (case side3 => exact cT (Kd.C_below HR277_2.out HB.out))
          (case side4 => exact HC277_2.out)
          (case side5 => exact cT (Kd.C_below HR277_3.out HB.out))
          (case side6 => exact HC277_3.out)
          (case side7 => exact cT (Kd.C_below HR278_1.out HB.out))
          (case side8 => exact HC278_1.out)
          (case side9 => exact cT (Kd.C_below HR278_2.out HB.out))
          (case side10 => exact HC278_2.out)
          (case side11 => exact cT (Kd.C_below HR278_3.out HB.out))
          (case side12 => exact HC278_3.out)
          rintro e w26 ⟨rfl, hb⟩
          refine ⟨_, rfl, ?_⟩
          replace BK275 := kB BK275 hb
          replace BK276 := kB BK276 hb
          replace HB := mA (below_step (bT2 HB GE275 GE276) hb)
          (try clear hb)
          (try clear hb2)
          (try clear hk)
          (try clear hi)
          refine hK.out _ _ ⟨(blk_cell BK275.out 0).trans rfl, (blk_cell BK275.out 1).trans rfl, (blk_cell BK275.out 2).trans rfl, (blk_cell BK276.out 0).trans rfl, (blk_cell BK276.out 1).trans rfl, (blk_cell BK276.out 2).trans rfl, ((HB.out.cell (World.block_lt_of_cell? w _ hw277_0)).trans hw277_0), ((HB.out.cell (World.block_lt_of_cell? w _ hw277_1)).trans hw277_1), ((HB.out.cell (World.block_lt_of_cell? w _ hw277_2)).trans hw277_2), ((HB.out.cell (World.block_lt_of_cell? w _ hw277_3)).trans hw277_3), ((HB.out.cell (World.block_lt_of_cell? w _ hw277_4)).trans hw277_4), ((HB.out.cell (World.block_lt_of_cell? w _ hw278_0)).trans hw278_0), ((HB.out.cell (World.block_lt_of_cell? w _ hw278_1)).trans hw278_1), ((HB.out.cell (World.block_lt_of_cell? w _ hw278_2)).trans hw278_2), ((HB.out.cell (World.block_lt_of_cell? w _ hw278_3)).trans hw278_3), ((HB.out.cell (World.block_lt_of_cell? w _ hw278_4)).trans hw278_4)⟩ (fun hHeld => ?_)
          clear hK K
          refine norm_ (a' := ?_) ?_ ?_
          rotate_left
          ·
           show Act.put _ (some 44) _ = _
           simp only [Act.put, List.setIfInBounds_toArray, List.set_cons_zero, List.set_cons_succ, i64_w, i32_w]
           rfl
          refine pureT (i := 11) (N := some 45) #[true, true, true, true, true, true, true, true, true, true, true, true] (any_of HT_.out (by kernel_rfl)) ?_
          refine done_ (done_of HT_.out (by kernel_rfl)) ?_
          try go_wp2
          go_roundg k2
          case measure => have := HJ2.out; have := HK2.out; omega
          case rel => exact ⟨(wrap64 (x5_2 + 1)), sT, H', ⟨by have := HJ2.out; have := HK2.out; omega⟩, ⟨kT BK275⟩, ⟨kT BK276⟩, ⟨bT2 HB GE275 GE276⟩⟩
         ·
          replace c22 := Bool.eq_false_iff.mpr c22
          subst c22
          rw [if_neg (show ¬ (false = true) by decide)] at H
          obtain rfl := Option.some.inj H
          have hnb27 := NB275_276.out
          have hnc27 := NB276_275.out
          have hcz28_0 : wr.cell? ⟨gb275, 0, none⟩ = some (.slice A0_0 l0_0.length c0_0) := (blk_cell BK275.out 0).trans rfl
          have hcz28_1 : wr.cell? ⟨gb275, 1, none⟩ = some (.int .i64 a0_1) := (blk_cell BK275.out 1).trans rfl
          have hcz28_2 : wr.cell? ⟨gb275, 2, none⟩ = some (.int .i64 a0_2) := (blk_cell BK275.out 2).trans rfl
          have hfz28_0 := blk_frozen BK275.out 0
          have hfz28_1 := blk_frozen BK275.out 1
          have hfz28_2 := blk_frozen BK275.out 2
          try go_wp2
          replace BK275 := mA (blk_drew BK275.out)
          replace BK276 := mA (blk_drew BK276.out)
          replace HB := mA (below_drew1 HB.out)
          have p277 : 0 ≤ (x5_2 : Int) := of_decide_eq_true aT
          have q277 : x5_2 < (l0_0.length : Int) := of_decide_eq_true aT
          obtain ⟨ad277, A277_1, c277_1, A277_2, c277_2, A277_3, c277_3, e277, hx277_0, hx277_1, hx277_2, hx277_3, hx277_4, hl277_1, hi277_1, hl277_2, hi277_2, hl277_3, hi277_3⟩ := at_T68 HR0_0.out x5_2 p277 q277
          have hw277_4 := hx277_4
          have hw277_3 := hx277_3
          have hw277_2 := hx277_2
          have hw277_1 := hx277_1
          have hw277_0 := hx277_0
          cases e277
          replace hx277_0 := (HB.out.cell (World.block_lt_of_cell? w _ hx277_0)).trans hx277_0
          replace hx277_1 := (HB.out.cell (World.block_lt_of_cell? w _ hx277_1)).trans hx277_1
          replace hx277_2 := (HB.out.cell (World.block_lt_of_cell? w _ hx277_2)).trans hx277_2
          replace hx277_3 := (HB.out.cell (World.block_lt_of_cell? w _ hx277_3)).trans hx277_3
          replace hx277_4 := (HB.out.cell (World.block_lt_of_cell? w _ hx277_4)).trans hx277_4
          have HR277_1 := mA hi277_1
          have HC277_1 := mA hl277_1
          clear hi277_1 hl277_1
          have HR277_2 := mA hi277_2
          have HC277_2 := mA hl277_2
          clear hi277_2 hl277_2
          have HR277_3 := mA hi277_3
          have HC277_3 := mA hl277_3
          clear hi277_3 hl277_3
          replace p277 := eq_true p277
          replace q277 := eq_true q277
          have p278 : 0 ≤ (x5_2 : Int) := of_decide_eq_true aT
          have q278 : x5_2 < (l1_0.length : Int) := of_decide_eq_true aT
          obtain ⟨ad278, A278_1, c278_1, A278_2, c278_2, A278_3, c278_3, e278, hx278_0, hx278_1, hx278_2, hx278_3, hx278_4, hl278_1, hi278_1, hl278_2, hi278_2, hl278_3, hi278_3⟩ := at_T68 HR1_0.out x5_2 p278 q278
          have hw278_4 := hx278_4
          have hw278_3 := hx278_3
          have hw278_2 := hx278_2
          have hw278_1 := hx278_1
          have hw278_0 := hx278_0
          cases e278
          replace hx278_0 := (HB.out.cell (World.block_lt_of_cell? w _ hx278_0)).trans hx278_0
          replace hx278_1 := (HB.out.cell (World.block_lt_of_cell? w _ hx278_1)).trans hx278_1
          replace hx278_2 := (HB.out.cell (World.block_lt_of_cell? w _ hx278_2)).trans hx278_2
          replace hx278_3 := (HB.out.cell (World.block_lt_of_cell? w _ hx278_3)).trans hx278_3
          replace hx278_4 := (HB.out.cell (World.block_lt_of_cell? w _ hx278_4)).trans hx278_4
          have HR278_1 := mA hi278_1
          have HC278_1 := mA hl278_1
          clear hi278_1 hl278_1
          have HR278_2 := mA hi278_2
          have HC278_2 := mA hl278_2
          clear hi278_2 hl278_2
          have HR278_3 := mA hi278_3
          have HC278_3 := mA hl278_3
          clear hi278_3 hl278_3
          replace p278 := eq_true p278
          replace q278 := eq_true q278
          refine start_ (n := 12) (S := fun w' => w'.cell? ⟨gb275, 0, none⟩ = some (.slice (some ad277) l0_0.length c0_0) ∧ w'.cell? ⟨gb275, 1, none⟩ = some (.int .i64 a0_1) ∧ w'.cell? ⟨gb275, 2, none⟩ = some (.int .i64 a0_2) ∧ w'.cell? ⟨gb276, 0, none⟩ = some (.slice (some ad278) l1_0.length c1_0) ∧ w'.cell? ⟨gb276, 1, none⟩ = some (.int .i64 a1_1) ∧ w'.cell? ⟨gb276, 2, none⟩ = some (.int .i64 a1_2) ∧ w'.cell? (ad277.add ((x5_2).toNat * 5)) = some (.int .i64 ((rd_T68 l0_0 x5_2).f0)) ∧ w'.cell? ⟨(ad277.add ((x5_2).toNat * 5)).block, (ad277.add ((x5_2).toNat * 5)).off + 1, none⟩ = some (.slice A277_1 ((rd_T68 l0_0 x5_2).f1).length c277_1) ∧ w'.cell? ⟨(ad277.add ((x5_2).toNat * 5)).block, (ad277.add ((x5_2).toNat * 5)).off + 2, none⟩ = some (.slice A277_2 ((rd_T68 l0_0 x5_2).f2).length c277_2) ∧ w'.cell? ⟨(ad277.add ((x5_2).toNat * 5)).block, (ad277.add ((x5_2).toNat * 5)).off + 3, none⟩ = some (.slice A277_3 ((rd_T68 l0_0 x5_2).f3).length c277_3) ∧ w'.cell? ⟨(ad277.add ((x5_2).toNat * 5)).block, (ad277.add ((x5_2).toNat * 5)).off + 4, none⟩ = some (.int .i64 ((rd_T68 l0_0 x5_2).f4)) ∧ w'.cell? (ad278.add ((x5_2).toNat * 5)) = some (.int .i64 ((rd_T68 l1_0 x5_2).f0)) ∧ w'.cell? ⟨(ad278.add ((x5_2).toNat * 5)).block, (ad278.add ((x5_2).toNat * 5)).off + 1, none⟩ = some (.slice A278_1 ((rd_T68 l1_0 x5_2).f1).length c278_1) ∧ w'.cell? ⟨(ad278.add ((x5_2).toNat * 5)).block, (ad278.add ((x5_2).toNat * 5)).off + 2, none⟩ = some (.slice A278_2 ((rd_T68 l1_0 x5_2).f2).length c278_2) ∧ w'.cell? ⟨(ad278.add ((x5_2).toNat * 5)).block, (ad278.add ((x5_2).toNat * 5)).off + 3, none⟩ = some (.slice A278_3 ((rd_T68 l1_0 x5_2).f3).length c278_3) ∧ w'.cell? ⟨(ad278.add ((x5_2).toNat * 5)).block, (ad278.add ((x5_2).toNat * 5)).off + 4, none⟩ = some (.int .i64 ((rd_T68 l1_0 x5_2).f4))) (ds := []) #[false, false, false, false, false, false, false, false, false, false, false, false] (by kernel_rfl) rfl rfl ⟨(blk_cell BK275.out 0).trans rfl, (blk_cell BK275.out 1).trans rfl, (blk_cell BK275.out 2).trans rfl, (blk_cell BK276.out 0).trans rfl, (blk_cell BK276.out 1).trans rfl, (blk_cell BK276.out 2).trans rfl, ((HB.out.cell (World.block_lt_of_cell? w _ hw277_0)).trans hw277_0), ((HB.out.cell (World.block_lt_of_cell? w _ hw277_1)).trans hw277_1), ((HB.out.cell (World.block_lt_of_cell? w _ hw277_2)).trans hw277_2), ((HB.out.cell (World.block_lt_of_cell? w _ hw277_3)).trans hw277_3), ((HB.out.cell (World.block_lt_of_cell? w _ hw277_4)).trans hw277_4), ((HB.out.cell (World.block_lt_of_cell? w _ hw278_0)).trans hw278_0), ((HB.out.cell (World.block_lt_of_cell? w _ hw278_1)).trans hw278_1), ((HB.out.cell (World.block_lt_of_cell? w _ hw278_2)).trans hw278_2), ((HB.out.cell (World.block_lt_of_cell? w _ hw278_3)).trans hw278_3), ((HB.out.cell (World.block_lt_of_cell? w _ hw278_4)).trans hw278_4)⟩ (fun hHeld => ?_); refine with_tabW spec_EqualJoiners.tab6 spec_EqualJoiners.bits6 (fun HT_ HW_ => ?_)
          generalize wr.drew = w29 at BK275 BK276 HB HR277_1 HR277_2 HR277_3 HR278_1 HR278_2 HR278_3 hx277_0 hx277_1 hx277_2 hx277_3 hx277_4 hx278_0 hx278_1 hx278_2 hx278_3 hx278_4 hHeld ⊢
          refine pureT (i := 0) (N := some 34) #[true, false, false, false, false, false, false, false, false, false, false, false] (any_of HT_.out (by kernel_rfl)) ?_
          refine pureT (i := 2) (N := some 36) #[true, false, true, false, false, false, false, false, false, false, false, false] (any_of HT_.out (by kernel_rfl)) ?_
          refine pureT (i := 5) (N := some 39) #[true, false, true, false, false, true, false, false, false, false, false, false] (any_of HT_.out (by kernel_rfl)) ?_
          refine pureT (i := 7) (N := some 41) #[true, false, true, false, false, true, false, true, false, false, false, false] (any_of HT_.out (by kernel_rfl)) ?_
          refine take_ (i := 1) (N := some 35) (v := ?_) (a' := ?_) #[true, true, true, false, false, true, false, true, false, false, false, false] rfl rfl (take_ofW HT_.out HW_.out (by kernel_rfl)) (fun _ _ _ h => h) (Or.inl ⟨by rfl, ?_⟩) hHeld ?_ ?_
          rotate_left
          ·
           rintro w' ⟨s0, s1, s2, s3, s4, s5, s6, s7, s8, s9, s10, s11, s12, s13, s14, s15⟩
           go_simp
           with_reducible rfl
          rotate_left
          ·
           simp only [Act.put, List.setIfInBounds_toArray, List.set_cons_zero, List.set_cons_succ, i64_w, i32_w]
           rfl
          refine pureT (i := 3) (N := some 37) #[true, true, true, true, false, true, false, true, false, false, false, false] (any_of HT_.out (by kernel_rfl)) ?_
          refine take_ (i := 4) (N := some 38) (v := ?_) (a' := ?_) #[true, true, true, true, true, true, false, true, false, false, false, false] rfl rfl (take_ofW HT_.out HW_.out (by kernel_rfl)) (fun _ _ _ h => h) (Or.inl ⟨by rfl, ?_⟩) hHeld ?_ ?_
          rotate_left
          ·
           rintro w' ⟨s0, s1, s2, s3, s4, s5, s6, s7, s8, s9, s10, s11, s12, s13, s14, s15⟩
           go_simp
           with_reducible rfl
          rotate_left
          ·
           simp only [Act.put, List.setIfInBounds_toArray, List.set_cons_zero, List.set_cons_succ, i64_w, i32_w]
           rfl
          refine take_ (i := 6) (N := some 40) (v := ?_) (a' := ?_) #[true, true, true, true, true, true, true, true, false, false, false, false] rfl rfl (take_ofW HT_.out HW_.out (by kernel_rfl)) (fun _ _ _ h => h) (Or.inl ⟨by rfl, ?_⟩) hHeld ?_ ?_
          rotate_left
          ·
           rintro w' ⟨s0, s1, s2, s3, s4, s5, s6, s7, s8, s9, s10, s11, s12, s13, s14, s15⟩
           go_simp
           with_reducible rfl
          rotate_left
          ·
           simp only [Act.put, List.setIfInBounds_toArray, List.set_cons_zero, List.set_cons_succ, i64_w, i32_w]
           rfl
          refine pureT (i := 8) (N := some 42) #[true, true, true, true, true, true, true, true, true, false, false, false] (any_of HT_.out (by kernel_rfl)) ?_
          refine take_ (i := 9) (N := some 43) (v := ?_) (a' := ?_) #[true, true, true, true, true, true, true, true, true, true, false, false] rfl rfl (take_ofW HT_.out HW_.out (by kernel_rfl)) (fun _ _ _ h => h) (Or.inl ⟨by rfl, ?_⟩) hHeld ?_ ?_
          rotate_left
          ·
           rintro w' ⟨s0, s1, s2, s3, s4, s5, s6, s7, s8, s9, s10, s11, s12, s13, s14, s15⟩
           go_simp
           with_reducible rfl
          rotate_left
          ·
           simp only [Act.put, List.setIfInBounds_toArray, List.set_cons_zero, List.set_cons_succ, i64_w, i32_w]
           rfl
          refine one_ (i := 10) (N := some 44) #[true, true, true, true, true, true, true, true, true, true, true, false] rfl rfl (one_of HT_.out (by kernel_rfl)) (by decide) (fun K hK => ?_)
          refine goes_ Try.func49 (by kernel_rfl) rfl #[.agg #[.int .i64 ((rd_T68 l0_0 x5_2).f0), .slice A277_1 ((rd_T68 l0_0 x5_2).f1).length c277_1, .slice A277_2 ((rd_T68 l0_0 x5_2).f2).length c277_2, .slice A277_3 ((rd_T68 l0_0 x5_2).f3).length c277_3, .int .i64 ((rd_T68 l0_0 x5_2).f4)], .agg #[.int .i64 ((rd_T68 l1_0 x5_2).f0), .slice A278_1 ((rd_T68 l1_0 x5_2).f1).length c278_1, .slice A278_2 ((rd_T68 l1_0 x5_2).f2).length c278_2, .slice A278_3 ((rd_T68 l1_0 x5_2).f3).length c278_3, .int .i64 ((rd_T68 l1_0 x5_2).f4)]] (by rfl) rfl rfl mT ?_
          with_reducible refine (spec_EqualTasks.calls k2 ((rd_T68 l0_0 x5_2).f0) _ _ ((rd_T68 l0_0 x5_2).f1) _ _ ((rd_T68 l0_0 x5_2).f2) _ _ ((rd_T68 l0_0 x5_2).f3) ((rd_T68 l0_0 x5_2).f4) ((rd_T68 l1_0 x5_2).f0) _ _ ((rd_T68 l1_0 x5_2).f1) _ _ ((rd_T68 l1_0 x5_2).f2) _ _ ((rd_T68 l1_0 x5_2).f3) ((rd_T68 l1_0 x5_2).f4) false _ ?side1 ?side2 ?side3 ?side4 ?side5 ?side6 ?side7 ?side8 ?side9 ?side10 ?side11 ?side12 A21.out).mono ?_
          (case side1 => exact cT (Kd.C_below HR277_1.out HB.out))
          (case side2 => exact HC277_1.out)
          (case side3 => exact cT (Kd.C_below HR277_2.out HB.out))
          (case side4 => exact HC277_2.out)
          (case side5 => exact cT (Kd.C_below HR277_3.out HB.out))
          (case side6 => exact HC277_3.out)
          (case side7 => exact cT (Kd.C_below HR278_1.out HB.out))
          (case side8 => exact HC278_1.out)
          (case side9 => exact cT (Kd.C_below HR278_2.out HB.out))
          (case side10 => exact HC278_2.out)
          (case side11 => exact cT (Kd.C_below HR278_3.out HB.out))
          (case side12 => exact HC278_3.out)
          rintro e w30 ⟨rfl, hb⟩
          refine ⟨_, rfl, ?_⟩
          replace BK275 := kB BK275 hb
          replace BK276 := kB BK276 hb
          replace HB := mA (below_step (bT2 HB GE275 GE276) hb)
          (try clear hb)
          (try clear hb2)
          (try clear hk)
          (try clear hi)
          refine hK.out _ _ ⟨(blk_cell BK275.out 0).trans rfl, (blk_cell BK275.out 1).trans rfl, (blk_cell BK275.out 2).trans rfl, (blk_cell BK276.out 0).trans rfl, (blk_cell BK276.out 1).trans rfl, (blk_cell BK276.out 2).trans rfl, ((HB.out.cell (World.block_lt_of_cell? w _ hw277_0)).trans hw277_0), ((HB.out.cell (World.block_lt_of_cell? w _ hw277_1)).trans hw277_1), ((HB.out.cell (World.block_lt_of_cell? w _ hw277_2)).trans hw277_2), ((HB.out.cell (World.block_lt_of_cell? w _ hw277_3)).trans hw277_3), ((HB.out.cell (World.block_lt_of_cell? w _ hw277_4)).trans hw277_4), ((HB.out.cell (World.block_lt_of_cell? w _ hw278_0)).trans hw278_0), ((HB.out.cell (World.block_lt_of_cell? w _ hw278_1)).trans hw278_1), ((HB.out.cell (World.block_lt_of_cell? w _ hw278_2)).trans hw278_2), ((HB.out.cell (World.block_lt_of_cell? w _ hw278_3)).trans hw278_3), ((HB.out.cell (World.block_lt_of_cell? w _ hw278_4)).trans hw278_4)⟩ (fun hHeld => ?_)
          clear hK K
          refine norm_ (a' := ?_) ?_ ?_
          rotate_left
          ·
           show Act.put _ (some 44) _ = _
           simp only [Act.put, List.setIfInBounds_toArray, List.set_cons_zero, List.set_cons_succ, i64_w, i32_w]
           rfl
          refine pureT (i := 11) (N := some 45) #[true, true, true, true, true, true, true, true, true, true, true, true] (any_of HT_.out (by kernel_rfl)) ?_
          refine done_ (done_of HT_.out (by kernel_rfl)) ?_
          try go_wp2
          go_ret
          exact ⟨eT, bT2 HB GE275 GE276⟩
        ·
         rw [if_neg c20] at H
         exact absurd H (by simp)
       ·
        rw [if_neg c19] at H
        exact absurd H (by simp)
      ·
       rw [if_neg c18] at H
       have c18b0 : decide (x5_2 < (l0_0.length : Int)) = false := decide_eq_false c18
       clear c18
       obtain rfl := Option.some.inj H
       have hnb31 := NB275_276.out
       have hnc31 := NB276_275.out
       have hcz32_0 : wr.cell? ⟨gb275, 0, none⟩ = some (.slice A0_0 l0_0.length c0_0) := (blk_cell BK275.out 0).trans rfl
       have hcz32_1 : wr.cell? ⟨gb275, 1, none⟩ = some (.int .i64 a0_1) := (blk_cell BK275.out 1).trans rfl
       have hcz32_2 : wr.cell? ⟨gb275, 2, none⟩ = some (.int .i64 a0_2) := (blk_cell BK275.out 2).trans rfl
       have hfz32_0 := blk_frozen BK275.out 0
       have hfz32_1 := blk_frozen BK275.out 1
       have hfz32_2 := blk_frozen BK275.out 2
       go_wp2
       go_ret
       exact ⟨eT, bT2 HB GE275 GE276⟩

/-! ### impl_equal: function 89 -/
def impl_equal.l0 : Nat → List (S77) → List (S77) → Int → Int → Option (Bool)
 | 0, _, _, _, _ => none
 | k + 1, x0, x1, x12, x13 => if x13 < x12 then (if 0 ≤ x13 then (if x13 < (x0.length : Int) then (if x13 < (x1.length : Int) then (if (!(((rd_T77 x0 x13).f0) == ((rd_T77 x1 x13).f0)) || (!(((rd_T77 x0 x13).f1) == ((rd_T77 x1 x13).f1)) || (!(((rd_T77 x0 x13).f2) == ((rd_T77 x1 x13).f2))))) = true then (some false) else (impl_equal.l0 k x0 x1 x12 (wrap64 (x13 + 1)))) else (none)) else (none)) else (none)) else (some true)
def impl_equal.f (k : Nat) (l0 : List (S77)) (l1 : List (S77)) : Option (Bool) := if (l0.length : Int) = (l1.length : Int) then (impl_equal.l0 k l0 l1 (l0.length : Int) 0) else (some false)
theorem impl_equal.mono_l : ∀ k, (∀ y0 y1 y2 y3, LeO (impl_equal.l0 k y0 y1 y2 y3) (impl_equal.l0 (k + 1) y0 y1 y2 y3))
 | 0 => fun _ _ _ _ r h => by simp [impl_equal.l0] at h
 | k + 1 => by
  have ih0 := impl_equal.mono_l k
  ·
   intro y0 y1 y2 y3
   unfold impl_equal.l0
   repeat' first
   | (with_reducible exact ih0 _ _ _ _)
   | (with_reducible exact LeO.refl _)
   | (with_reducible exact LeO.none _)
   | (with_reducible refine LeO.ite ?_ ?_)
   | (with_reducible refine LeO.bind ?_ (fun _ => ?_))
   | exact ih0 _ _ _ _
   | exact LeO.none _
   | refine LeO.ite ?_ ?_
   | refine LeO.bind ?_ (fun _ => ?_)
theorem impl_equal.mono : ∀ a0 a1 k, LeO (impl_equal.f k a0 a1) (impl_equal.f (k + 1) a0 a1) := by
 intro a0 a1 k
 have ih0 := impl_equal.mono_l k
 unfold impl_equal.f
 repeat' first
   | (with_reducible exact ih0 _ _ _ _)
   | (with_reducible exact LeO.refl _)
   | (with_reducible exact LeO.none _)
   | (with_reducible refine LeO.ite ?_ ?_)
   | (with_reducible refine LeO.bind ?_ (fun _ => ?_))
   | exact ih0 _ _ _ _
   | exact LeO.none _
   | refine LeO.ite ?_ ?_
   | refine LeO.bind ?_ (fun _ => ?_)
set_option maxHeartbeats 8000000 in
set_option maxRecDepth 100000 in
theorem impl_equal.calls (k : Nat) (A0 : Option Addr) (c0 : Nat) (l0 : List (S77)) (A1 : Option Addr) (c1 : Nat) (l1 : List (S77)) (r : Bool) (w : World) (hr0 : Kd.C k77 w A0 l0.length l0) (hc0 : l0.length ≤ c0) (hr1 : Kd.C k77 w A1 l1.length l1) (hc1 : l1.length ≤ c1) (h : impl_equal.f k l0 l1 = some r) :
  Calls Try.prog 89 #[.slice A0 l0.length c0, .slice A1 l1.length c1] w fun e w' => e = .returned (.bool r) ∧ Drawn0 w w' := by
 have hu77 := Try.underlying77
 have HR0 := mA hr0
 have HC0 := mA hc0
 clear hr0 hc0
 have HR1 := mA hr1
 have HC1 := mA hc1
 clear hr1 hc1
 have H : (if (l0.length : Int) = (l1.length : Int) then (impl_equal.l0 k l0 l1 (l0.length : Int) 0) else (some false)) = some r := h
 clear h
 by_cases c3 : (l0.length : Int) = (l1.length : Int)
 ·
  rw [if_pos c3] at H
  have c3b0 : ((l0.length : Int) == (l1.length : Int)) = true := beq_iff_eq.mpr c3
  have c3b1 : ((l0.length : Int) != (l1.length : Int)) = false := bne_eq_false_iff_eq.mpr c3
  have c3b2 : (l0.length == l1.length) = true := by first | simpa using c3 | (simp at c3 ⊢; omega)
  clear c3
  have H' := mA H
  clear H
  go_enter Try.func89, Try.ntmps89
  go_wp2
  repeat (go_quiet (fail); try go_wp2)
  go_loopg [13] k (fun kq v13 w' => ∃ (x13_1 : Int), v13 = .int .i64 x13_1 ∧ Aside0 (impl_equal.l0 kq l0 l1 (l0.length : Int) x13_1 = some r) ∧ Aside0 (kq ≤ k) ∧ Drawn0 w w')
  case atStart => exact ⟨(0), sT, H', ⟨Nat.le_refl _⟩, by repeat (first | exact Drawn0.refl _ | apply Drawn0.step)⟩
  case round =>
   clear H'
   try clear c1
   try clear p2
   try clear c3
   try clear c3b0
   try clear c3b1
   try clear c3b2
   obtain ⟨x13_1, rfl, HA, HK1, ⟨m1, rfl⟩⟩ := hrel
   cases gk with
   | zero => exact absurd HA.out (by simp [impl_equal.l0])
   | succ k1 =>
    have H := HA.out
    clear HA
    simp only [impl_equal.l0] at H
    by_cases c4 : x13_1 < (l0.length : Int)
    ·
     rw [if_pos c4] at H
     have c4b0 : decide (x13_1 < (l0.length : Int)) = true := decide_eq_true c4
     clear c4
     by_cases c5 : 0 ≤ x13_1
     ·
      rw [if_pos c5] at H
      have c5b0 : decide (0 ≤ x13_1) = true := decide_eq_true c5
      clear c5
      by_cases c6 : x13_1 < (l0.length : Int)
      ·
       rw [if_pos c6] at H
       have c6b0 : decide (x13_1 < (l0.length : Int)) = true := decide_eq_true c6
       clear c6
       by_cases c7 : x13_1 < (l1.length : Int)
       ·
        rw [if_pos c7] at H
        have c7b0 : decide (x13_1 < (l1.length : Int)) = true := decide_eq_true c7
        clear c7
        by_cases c8 : (!(((rd_T77 l0 x13_1).f0) == ((rd_T77 l1 x13_1).f0)) || (!(((rd_T77 l0 x13_1).f1) == ((rd_T77 l1 x13_1).f1)) || (!(((rd_T77 l0 x13_1).f2) == ((rd_T77 l1 x13_1).f2))))) = true
        ·
         rw [if_pos c8] at H
         have c8b0 : (!(((rd_T77 l0 x13_1).f0) == ((rd_T77 l1 x13_1).f0)) || (!(((rd_T77 l0 x13_1).f1) == ((rd_T77 l1 x13_1).f1)) || (!(((rd_T77 l0 x13_1).f2) == ((rd_T77 l1 x13_1).f2))))) = true := c8
         clear c8
         obtain rfl := Option.some.inj H
         have p280 : 0 ≤ (x13_1 : Int) := of_decide_eq_true aT
         have q280 : x13_1 < (l0.length : Int) := of_decide_eq_true aT
         obtain ⟨ad280, e280, hx280_0, hx280_1, hx280_2⟩ := at_T77 HR0.out x13_1 p280 q280
         cases e280
         replace p280 := eq_true p280
         replace q280 := eq_true q280
         have p281 : 0 ≤ (x13_1 : Int) := of_decide_eq_true aT
         have q281 : x13_1 < (l1.length : Int) := of_decide_eq_true aT
         obtain ⟨ad281, e281, hx281_0, hx281_1, hx281_2⟩ := at_T77 HR1.out x13_1 p281 q281
         cases e281
         replace p281 := eq_true p281
         replace q281 := eq_true q281
         go_wp2
         repeat (go_quiet (fail); try go_wp2)
         go_ret
         exact ⟨sT, by repeat (first | exact Drawn0.refl _ | apply Drawn0.step)⟩
        ·
         rw [if_neg c8] at H
         have c8b0 : (!(((rd_T77 l0 x13_1).f0) == ((rd_T77 l1 x13_1).f0)) || (!(((rd_T77 l0 x13_1).f1) == ((rd_T77 l1 x13_1).f1)) || (!(((rd_T77 l0 x13_1).f2) == ((rd_T77 l1 x13_1).f2))))) = false := by simpa using c8
         clear c8
         have H' := mA H
         clear H
         have p280 : 0 ≤ (x13_1 : Int) := of_decide_eq_true aT
         have q280 : x13_1 < (l0.length : Int) := of_decide_eq_true aT
         obtain ⟨ad280, e280, hx280_0, hx280_1, hx280_2⟩ := at_T77 HR0.out x13_1 p280 q280
         cases e280
         replace p280 := eq_true p280
         replace q280 := eq_true q280
         have p281 : 0 ≤ (x13_1 : Int) := of_decide_eq_true aT
         have q281 : x13_1 < (l1.length : Int) := of_decide_eq_true aT
         obtain ⟨ad281, e281, hx281_0, hx281_1, hx281_2⟩ := at_T77 HR1.out x13_1 p281 q281
         cases e281
         replace p281 := eq_true p281
         replace q281 := eq_true q281
         go_wp2
         repeat (go_quiet (fail); try go_wp2)
         go_roundg k1
         case measure => have := HK1.out; omega
         case rel => exact ⟨(wrap64 (x13_1 + 1)), sT, H', ⟨by have := HK1.out; omega⟩, by repeat (first | exact Drawn0.refl _ | apply Drawn0.step)⟩
       ·
        rw [if_neg c7] at H
        exact absurd H (by simp)
      ·
       rw [if_neg c6] at H
       exact absurd H (by simp)
     ·
      rw [if_neg c5] at H
      exact absurd H (by simp)
    ·
     rw [if_neg c4] at H
     have c4b0 : decide (x13_1 < (l0.length : Int)) = false := decide_eq_false c4
     clear c4
     obtain rfl := Option.some.inj H
     go_wp2
     repeat (go_quiet (fail); try go_wp2)
     go_ret
     exact ⟨sT, by repeat (first | exact Drawn0.refl _ | apply Drawn0.step)⟩
 ·
  rw [if_neg c3] at H
  have c3b0 : ((l0.length : Int) == (l1.length : Int)) = false := beq_eq_false_iff_ne.mpr c3
  have c3b1 : ((l0.length : Int) != (l1.length : Int)) = true := bne_iff_ne.mpr c3
  have c3b2 : (l0.length == l1.length) = false := by first | simpa using c3 | (simp at c3 ⊢; omega)
  obtain rfl := Option.some.inj H
  go_enter Try.func89, Try.ntmps89
  go_wp2
  repeat (go_quiet (fail); try go_wp2)
  go_ret
  exact ⟨sT, by repeat (first | exact Drawn0.refl _ | apply Drawn0.step)⟩

/-! ### slices_Equal_bool_bool: function 90 -/
def slices_Equal_bool_bool.l0 : Nat → List Bool → List Bool → Int → Int → Option (Bool)
 | 0, _, _, _, _ => none
 | k + 1, x0, x1, x12, x13 => if x13 < x12 then (if 0 ≤ x13 then (if x13 < (x0.length : Int) then (if x13 < (x1.length : Int) then (if ((rdOf false x0 x13) != (rdOf false x1 x13)) = true then (some false) else (slices_Equal_bool_bool.l0 k x0 x1 x12 (wrap64 (x13 + 1)))) else (none)) else (none)) else (none)) else (some true)
def slices_Equal_bool_bool.f (k : Nat) (l0 : List Bool) (l1 : List Bool) : Option (Bool) := if (l0.length : Int) = (l1.length : Int) then (slices_Equal_bool_bool.l0 k l0 l1 (l0.length : Int) 0) else (some false)
theorem slices_Equal_bool_bool.mono_l : ∀ k, (∀ y0 y1 y2 y3, LeO (slices_Equal_bool_bool.l0 k y0 y1 y2 y3) (slices_Equal_bool_bool.l0 (k + 1) y0 y1 y2 y3))
 | 0 => fun _ _ _ _ r h => by simp [slices_Equal_bool_bool.l0] at h
 | k + 1 => by
  have ih0 := slices_Equal_bool_bool.mono_l k
  ·
   intro y0 y1 y2 y3
   unfold slices_Equal_bool_bool.l0
   repeat' first
   | (with_reducible exact ih0 _ _ _ _)
   | (with_reducible exact LeO.refl _)
   | (with_reducible exact LeO.none _)
   | (with_reducible refine LeO.ite ?_ ?_)
   | (with_reducible refine LeO.bind ?_ (fun _ => ?_))
   | exact ih0 _ _ _ _
   | exact LeO.none _
   | refine LeO.ite ?_ ?_
   | refine LeO.bind ?_ (fun _ => ?_)
theorem slices_Equal_bool_bool.mono : ∀ a0 a1 k, LeO (slices_Equal_bool_bool.f k a0 a1) (slices_Equal_bool_bool.f (k + 1) a0 a1) := by
 intro a0 a1 k
 have ih0 := slices_Equal_bool_bool.mono_l k
 unfold slices_Equal_bool_bool.f
 repeat' first
   | (with_reducible exact ih0 _ _ _ _)
   | (with_reducible exact LeO.refl _)
   | (with_reducible exact LeO.none _)
   | (with_reducible refine LeO.ite ?_ ?_)
   | (with_reducible refine LeO.bind ?_ (fun _ => ?_))
   | exact ih0 _ _ _ _
   | exact LeO.none _
   | refine LeO.ite ?_ ?_
   | refine LeO.bind ?_ (fun _ => ?_)
set_option maxHeartbeats 8000000 in
set_option maxRecDepth 100000 in
theorem slices_Equal_bool_bool.calls (k : Nat) (A0 : Option Addr) (c0 : Nat) (l0 : List Bool) (A1 : Option Addr) (c1 : Nat) (l1 : List Bool) (r : Bool) (w : World) (hr0 : Kd.C Kd.bool w A0 l0.length l0) (hc0 : l0.length ≤ c0) (hr1 : Kd.C Kd.bool w A1 l1.length l1) (hc1 : l1.length ≤ c1) (h : slices_Equal_bool_bool.f k l0 l1 = some r) :
  Calls Try.prog 90 #[.slice A0 l0.length c0, .slice A1 l1.length c1] w fun e w' => e = .returned (.bool r) ∧ Drawn0 w w' := by
 have HR0 := mA hr0
 have HC0 := mA hc0
 clear hr0 hc0
 have HR1 := mA hr1
 have HC1 := mA hc1
 clear hr1 hc1
 have H : (if (l0.length : Int) = (l1.length : Int) then (slices_Equal_bool_bool.l0 k l0 l1 (l0.length : Int) 0) else (some false)) = some r := h
 clear h
 by_cases c3 : (l0.length : Int) = (l1.length : Int)
 ·
  rw [if_pos c3] at H
  have c3b0 : ((l0.length : Int) == (l1.length : Int)) = true := beq_iff_eq.mpr c3
  have c3b1 : ((l0.length : Int) != (l1.length : Int)) = false := bne_eq_false_iff_eq.mpr c3
  have c3b2 : (l0.length == l1.length) = true := by first | simpa using c3 | (simp at c3 ⊢; omega)
  clear c3
  have H' := mA H
  clear H
  go_enter Try.func90, Try.ntmps90
  go_wp2
  repeat (go_quiet (fail); try go_wp2)
  go_loopg [13] k (fun kq v13 w' => ∃ (x13_1 : Int), v13 = .int .i64 x13_1 ∧ Aside0 (slices_Equal_bool_bool.l0 kq l0 l1 (l0.length : Int) x13_1 = some r) ∧ Aside0 (kq ≤ k) ∧ Drawn0 w w')
  case atStart => exact ⟨(0), sT, H', ⟨Nat.le_refl _⟩, by repeat (first | exact Drawn0.refl _ | apply Drawn0.step)⟩
  case round =>
   clear H'
   try clear c1
   try clear p2
   try clear c3
   try clear c3b0
   try clear c3b1
   try clear c3b2
   obtain ⟨x13_1, rfl, HA, HK1, ⟨m1, rfl⟩⟩ := hrel
   cases gk with
   | zero => exact absurd HA.out (by simp [slices_Equal_bool_bool.l0])
   | succ k1 =>
    have H := HA.out
    clear HA
    simp only [slices_Equal_bool_bool.l0] at H
    by_cases c4 : x13_1 < (l0.length : Int)
    ·
     rw [if_pos c4] at H
     have c4b0 : decide (x13_1 < (l0.length : Int)) = true := decide_eq_true c4
     clear c4
     by_cases c5 : 0 ≤ x13_1
     ·
      rw [if_pos c5] at H
      have c5b0 : decide (0 ≤ x13_1) = true := decide_eq_true c5
      clear c5
      by_cases c6 : x13_1 < (l0.length : Int)
      ·
       rw [if_pos c6] at H
       have c6b0 : decide (x13_1 < (l0.length : Int)) = true := decide_eq_true c6
       clear c6
       by_cases c7 : x13_1 < (l1.length : Int)
       ·
        rw [if_pos c7] at H
        have c7b0 : decide (x13_1 < (l1.length : Int)) = true := decide_eq_true c7
        clear c7
        by_cases c8 : ((rdOf false l0 x13_1) != (rdOf false l1 x13_1)) = true
        ·
         rw [if_pos c8] at H
         have c8b0 : ((rdOf false l0 x13_1) != (rdOf false l1 x13_1)) = true := c8
         (try (have c8b1 : decide ((rdOf false l0 x13_1) = (rdOf false l1 x13_1)) = false := by simpa using c8))
         (try (have c8b2 : ((rdOf false l0 x13_1) == (rdOf false l1 x13_1)) = false := by simpa using c8))
         (try (have c8b3 : ¬ ((rdOf false l0 x13_1) = (rdOf false l1 x13_1)) := by simpa using c8))
         clear c8
         obtain rfl := Option.some.inj H
         have p282 : 0 ≤ (x13_1 : Int) := of_decide_eq_true aT
         have q282 : x13_1 < (l0.length : Int) := of_decide_eq_true aT
         obtain ⟨ad282, e282, hx282_0⟩ := Kd.at_bool HR0.out x13_1 p282 q282
         cases e282
         replace p282 := eq_true p282
         replace q282 := eq_true q282
         have p283 : 0 ≤ (x13_1 : Int) := of_decide_eq_true aT
         have q283 : x13_1 < (l1.length : Int) := of_decide_eq_true aT
         obtain ⟨ad283, e283, hx283_0⟩ := Kd.at_bool HR1.out x13_1 p283 q283
         cases e283
         replace p283 := eq_true p283
         replace q283 := eq_true q283
         go_wp2
         repeat (go_quiet (fail); try go_wp2)
         go_ret
         exact ⟨sT, by repeat (first | exact Drawn0.refl _ | apply Drawn0.step)⟩
        ·
         rw [if_neg c8] at H
         have c8b0 : ((rdOf false l0 x13_1) != (rdOf false l1 x13_1)) = false := by simpa using c8
         (try (have c8b1 : decide ((rdOf false l0 x13_1) = (rdOf false l1 x13_1)) = true := by simpa using c8))
         (try (have c8b2 : ((rdOf false l0 x13_1) == (rdOf false l1 x13_1)) = true := by simpa using c8))
         clear c8
         have H' := mA H
         clear H
         have p282 : 0 ≤ (x13_1 : Int) := of_decide_eq_true aT
         have q282 : x13_1 < (l0.length : Int) := of_decide_eq_true aT
         obtain ⟨ad282, e282, hx282_0⟩ := Kd.at_bool HR0.out x13_1 p282 q282
         cases e282
         replace p282 := eq_true p282
         replace q282 := eq_true q282
         have p283 : 0 ≤ (x13_1 : Int) := of_decide_eq_true aT
         have q283 : x13_1 < (l1.length : Int) := of_decide_eq_true aT
         obtain ⟨ad283, e283, hx283_0⟩ := Kd.at_bool HR1.out x13_1 p283 q283
         cases e283
         replace p283 := eq_true p283
         replace q283 := eq_true q283
         go_wp2
         repeat (go_quiet (fail); try go_wp2)
         go_roundg k1
         case measure => have := HK1.out; omega
         case rel => exact ⟨(wrap64 (x13_1 + 1)), sT, H', ⟨by have := HK1.out; omega⟩, by repeat (first | exact Drawn0.refl _ | apply Drawn0.step)⟩
       ·
        rw [if_neg c7] at H
        exact absurd H (by simp)
      ·
       rw [if_neg c6] at H
       exact absurd H (by simp)
     ·
      rw [if_neg c5] at H
      exact absurd H (by simp)
    ·
     rw [if_neg c4] at H
     have c4b0 : decide (x13_1 < (l0.length : Int)) = false := decide_eq_false c4
     clear c4
     obtain rfl := Option.some.inj H
     go_wp2
     repeat (go_quiet (fail); try go_wp2)
     go_ret
     exact ⟨sT, by repeat (first | exact Drawn0.refl _ | apply Drawn0.step)⟩
 ·
  rw [if_neg c3] at H
  have c3b0 : ((l0.length : Int) == (l1.length : Int)) = false := beq_eq_false_iff_ne.mpr c3
  have c3b1 : ((l0.length : Int) != (l1.length : Int)) = true := bne_iff_ne.mpr c3
  have c3b2 : (l0.length == l1.length) = false := by first | simpa using c3 | (simp at c3 ⊢; omega)
  obtain rfl := Option.some.inj H
  go_enter Try.func90, Try.ntmps90
  go_wp2
  repeat (go_quiet (fail); try go_wp2)
  go_ret
  exact ⟨sT, by repeat (first | exact Drawn0.refl _ | apply Drawn0.step)⟩

/-! ### impl_EqualTasks: function 50 -/
def impl_EqualTasks.f (k : Nat) (a0_0 : Int) (l0_1 : List (S77)) (l0_2 : List (S77)) (l0_3 : List Bool) (a0_4 : Int) (a1_0 : Int) (l1_1 : List (S77)) (l1_2 : List (S77)) (l1_3 : List Bool) (a1_4 : Int) : Option (Bool) := if a0_0 = a1_0 then ((impl_equal.f k l0_1 l1_1).bind fun t286 => (if t286 = true then ((impl_equal.f k l0_2 l1_2).bind fun t287 => (if t287 = true then ((slices_Equal_bool_bool.f k l0_3 l1_3).bind fun t288 => (if t288 = true then (some (a0_4 == a1_4)) else (some false))) else (some false))) else (some false))) else (some false)
theorem impl_EqualTasks.mono : ∀ a0 a1 a2 a3 a4 a5 a6 a7 a8 a9 k, LeO (impl_EqualTasks.f k a0 a1 a2 a3 a4 a5 a6 a7 a8 a9) (impl_EqualTasks.f (k + 1) a0 a1 a2 a3 a4 a5 a6 a7 a8 a9) := by
 intro a0 a1 a2 a3 a4 a5 a6 a7 a8 a9 k
 unfold impl_EqualTasks.f
 repeat' first
   | (with_reducible exact impl_equal.mono _ _ _)
   | (with_reducible exact slices_Equal_bool_bool.mono _ _ _)
   | (with_reducible exact LeO.refl _)
   | (with_reducible exact LeO.none _)
   | (with_reducible refine LeO.ite ?_ ?_)
   | (with_reducible refine LeO.bind ?_ (fun _ => ?_))
   | exact impl_equal.mono _ _ _
   | exact slices_Equal_bool_bool.mono _ _ _
   | exact LeO.none _
   | refine LeO.ite ?_ ?_
   | refine LeO.bind ?_ (fun _ => ?_)
set_option maxHeartbeats 8000000 in
set_option maxRecDepth 100000 in
theorem impl_EqualTasks.calls (k : Nat) (a0_0 : Int) (A0_1 : Option Addr) (c0_1 : Nat) (l0_1 : List (S77)) (A0_2 : Option Addr) (c0_2 : Nat) (l0_2 : List (S77)) (A0_3 : Option Addr) (c0_3 : Nat) (l0_3 : List Bool) (a0_4 : Int) (a1_0 : Int) (A1_1 : Option Addr) (c1_1 : Nat) (l1_1 : List (S77)) (A1_2 : Option Addr) (c1_2 : Nat) (l1_2 : List (S77)) (A1_3 : Option Addr) (c1_3 : Nat) (l1_3 : List Bool) (a1_4 : Int) (r : Bool) (w : World) (hr0_1 : Kd.C k77 w A0_1 l0_1.length l0_1) (hc0_1 : l0_1.length ≤ c0_1) (hr0_2 : Kd.C k77 w A0_2 l0_2.length l0_2) (hc0_2 : l0_2.length ≤ c0_2) (hr0_3 : Kd.C Kd.bool w A0_3 l0_3.length l0_3) (hc0_3 : l0_3.length ≤ c0_3) (hr1_1 : Kd.C k77 w A1_1 l1_1.length l1_1) (hc1_1 : l1_1.length ≤ c1_1) (hr1_2 : Kd.C k77 w A1_2 l1_2.length l1_2) (hc1_2 : l1_2.length ≤ c1_2) (hr1_3 : Kd.C Kd.bool w A1_3 l1_3.length l1_3) (hc1_3 : l1_3.length ≤ c1_3) (h : impl_EqualTasks.f k a0_0 l0_1 l0_2 l0_3 a0_4 a1_0 l1_1 l1_2 l1_3 a1_4 = some r) :
  Calls Try.prog 50 #[.agg #[.int .i64 a0_0, .slice A0_1 l0_1.length c0_1, .slice A0_2 l0_2.length c0_2, .slice A0_3 l0_3.length c0_3, .int .i64 a0_4], .agg #[.int .i64 a1_0, .slice A1_1 l1_1.length c1_1, .slice A1_2 l1_2.length c1_2, .slice A1_3 l1_3.length c1_3, .int .i64 a1_4]] w fun e w' => e = .returned (.bool r) ∧ Below w.heap.size w w' := by
 have hu68 := Try.underlying68
 have HR0_1 := mA hr0_1
 have HC0_1 := mA hc0_1
 clear hr0_1 hc0_1
 have HR0_2 := mA hr0_2
 have HC0_2 := mA hc0_2
 clear hr0_2 hc0_2
 have HR0_3 := mA hr0_3
 have HC0_3 := mA hc0_3
 clear hr0_3 hc0_3
 have HR1_1 := mA hr1_1
 have HC1_1 := mA hc1_1
 clear hr1_1 hc1_1
 have HR1_2 := mA hr1_2
 have HC1_2 := mA hc1_2
 clear hr1_2 hc1_2
 have HR1_3 := mA hr1_3
 have HC1_3 := mA hc1_3
 clear hr1_3 hc1_3
 have HB := mA (Below.refl w.heap.size w)
 have H : (if a0_0 = a1_0 then ((impl_equal.f k l0_1 l1_1).bind fun t286 => (if t286 = true then ((impl_equal.f k l0_2 l1_2).bind fun t287 => (if t287 = true then ((slices_Equal_bool_bool.f k l0_3 l1_3).bind fun t288 => (if t288 = true then (some (a0_4 == a1_4)) else (some false))) else (some false))) else (some false))) else (some false)) = some r := h
 clear h
 by_cases c3 : a0_0 = a1_0
 ·
  rw [if_pos c3] at H
  have c3b0 : (a0_0 == a1_0) = true := beq_iff_eq.mpr c3
  have c3b1 : (a0_0 != a1_0) = false := bne_eq_false_iff_eq.mpr c3
  clear c3
  obtain ⟨t286, A4, H⟩ := Option.bind_eq_some_iff.mp H
  replace A4 := mA A4
  try dsimp only at H
  by_cases c5 : t286 = true
  ·
   subst c5
   rw [if_pos rfl] at H
   obtain ⟨t287, A6, H⟩ := Option.bind_eq_some_iff.mp H
   replace A6 := mA A6
   try dsimp only at H
   by_cases c7 : t287 = true
   ·
    subst c7
    rw [if_pos rfl] at H
    obtain ⟨t288, A8, H⟩ := Option.bind_eq_some_iff.mp H
    replace A8 := mA A8
    try dsimp only at H
    by_cases c9 : t288 = true
    ·
     subst c9
     rw [if_pos rfl] at H
     obtain rfl := Option.some.inj H
     go_enter Try.func50, Try.ntmps50
     go_wp2_with (first | ((with_reducible refine gate_dst (N := 2) rfl ?_); refine boxT 2 #[.int .i64 a0_0, .slice A0_1 l0_1.length c0_1, .slice A0_2 l0_2.length c0_2, .slice A0_3 l0_3.length c0_3, .int .i64 a0_4] 68 ?_; intro gb284 hg w10 hbox hb; have BK284 := mA (hbox); have GW284 := mA ((by rw [hg]; exact (below_size (bT HB)) : w.heap.size ≤ gb284)); have GE284 := GW284; replace HB := mA (below_step (bT HB) hb); clear hb hbox hg) | ((with_reducible refine gate_dst (N := 3) rfl ?_); refine boxT 3 #[.int .i64 a1_0, .slice A1_1 l1_1.length c1_1, .slice A1_2 l1_2.length c1_2, .slice A1_3 l1_3.length c1_3, .int .i64 a1_4] 68 ?_; intro gb285 hg w11 hbox hb; have BK285 := mA (hbox); have GW285 := mA ((by rw [hg]; exact (below_size (bT1 HB GE284)) : w.heap.size ≤ gb285)); have GE285 := GW285; replace HB := mA (below_step (bT1 HB GE284) hb); have NB284_285 : Aside0 (gb284 ≠ gb285) := nL BK284 hg; have NB285_284 : Aside0 (gb285 ≠ gb284) := nG BK284 hg; replace BK284 := kB BK284 hb; clear hb hbox hg; have hnb12 := NB284_285.out; have hnc12 := NB285_284.out; obtain ⟨hcz13_0, hcz13_1, hcz13_2, hcz13_3, hcz13_4, hfz13_0, hfz13_1, hfz13_2, hfz13_3, hfz13_4⟩ := blk5 BK284.out; obtain ⟨hcz14_0, hcz14_1, hcz14_2, hcz14_3, hcz14_4, hfz14_0, hfz14_1, hfz14_2, hfz14_3, hfz14_4⟩ := blk5 BK285.out) | (go_at_call 89; (with_reducible refine (impl_equal.calls k _ _ l0_1 _ _ l1_1 true _ ?side1 ?side2 ?side3 ?side4 A4.out).mono ?_); (case side1 => exact cT (Kd.C_below HR0_1.out HB.out)); (case side2 => exact HC0_1.out); (case side3 => exact cT (Kd.C_below HR1_1.out HB.out)); (case side4 => exact HC1_1.out); rintro e w' ⟨rfl, ⟨nd, rfl⟩⟩) | (go_at_call 89; (with_reducible refine (impl_equal.calls k _ _ l0_2 _ _ l1_2 true _ ?side1 ?side2 ?side3 ?side4 A6.out).mono ?_); (case side1 => exact cT (Kd.C_below HR0_2.out (bT2 HB GE284 GE285))); (case side2 => exact HC0_2.out); (case side3 => exact cT (Kd.C_below HR1_2.out (bT2 HB GE284 GE285))); (case side4 => exact HC1_2.out); rintro e w' ⟨rfl, ⟨nd, rfl⟩⟩) | (go_at_call 90; (with_reducible refine (slices_Equal_bool_bool.calls k _ _ l0_3 _ _ l1_3 true _ ?side1 ?side2 ?side3 ?side4 A8.out).mono ?_); (case side1 => exact cT (Kd.C_below HR0_3.out (bT2 HB GE284 GE285))); (case side2 => exact HC0_3.out); (case side3 => exact cT (Kd.C_below HR1_3.out (bT2 HB GE284 GE285))); (case side4 => exact HC1_3.out); rintro e w' ⟨rfl, ⟨nd, rfl⟩⟩))
     go_ret
     exact ⟨eT, bT2 HB GE284 GE285⟩
    ·
     replace c9 := Bool.eq_false_iff.mpr c9
     subst c9
     rw [if_neg (show ¬ (false = true) by decide)] at H
     obtain rfl := Option.some.inj H
     go_enter Try.func50, Try.ntmps50
     go_wp2_with (first | ((with_reducible refine gate_dst (N := 2) rfl ?_); refine boxT 2 #[.int .i64 a0_0, .slice A0_1 l0_1.length c0_1, .slice A0_2 l0_2.length c0_2, .slice A0_3 l0_3.length c0_3, .int .i64 a0_4] 68 ?_; intro gb284 hg w15 hbox hb; have BK284 := mA (hbox); have GW284 := mA ((by rw [hg]; exact (below_size (bT HB)) : w.heap.size ≤ gb284)); have GE284 := GW284; replace HB := mA (below_step (bT HB) hb); clear hb hbox hg) | ((with_reducible refine gate_dst (N := 3) rfl ?_); refine boxT 3 #[.int .i64 a1_0, .slice A1_1 l1_1.length c1_1, .slice A1_2 l1_2.length c1_2, .slice A1_3 l1_3.length c1_3, .int .i64 a1_4] 68 ?_; intro gb285 hg w16 hbox hb; have BK285 := mA (hbox); have GW285 := mA ((by rw [hg]; exact (below_size (bT1 HB GE284)) : w.heap.size ≤ gb285)); have GE285 := GW285; replace HB := mA (below_step (bT1 HB GE284) hb); have NB284_285 : Aside0 (gb284 ≠ gb285) := nL BK284 hg; have NB285_284 : Aside0 (gb285 ≠ gb284) := nG BK284 hg; replace BK284 := kB BK284 hb; clear hb hbox hg; have hnb17 := NB284_285.out; have hnc17 := NB285_284.out; obtain ⟨hcz18_0, hcz18_1, hcz18_2, hcz18_3, hcz18_4, hfz18_0, hfz18_1, hfz18_2, hfz18_3, hfz18_4⟩ := blk5 BK284.out; obtain ⟨hcz19_0, hcz19_1, hcz19_2, hcz19_3, hcz19_4, hfz19_0, hfz19_1, hfz19_2, hfz19_3, hfz19_4⟩ := blk5 BK285.out) | (go_at_call 89; (with_reducible refine (impl_equal.calls k _ _ l0_1 _ _ l1_1 true _ ?side1 ?side2 ?side3 ?side4 A4.out).mono ?_); (case side1 => exact cT (Kd.C_below HR0_1.out HB.out)); (case side2 => exact HC0_1.out); (case side3 => exact cT (Kd.C_below HR1_1.out HB.out)); (case side4 => exact HC1_1.out); rintro e w' ⟨rfl, ⟨nd, rfl⟩⟩) | (go_at_call 89; (with_reducible refine (impl_equal.calls k _ _ l0_2 _ _ l1_2 true _ ?side1 ?side2 ?side3 ?side4 A6.out).mono ?_); (case side1 => exact cT (Kd.C_below HR0_2.out (bT2 HB GE284 GE285))); (case side2 => exact HC0_2.out); (case side3 => exact cT (Kd.C_below HR1_2.out (bT2 HB GE284 GE285))); (case side4 => exact HC1_2.out); rintro e w' ⟨rfl, ⟨nd, rfl⟩⟩) | (go_at_call 90; (with_reducible refine (slices_Equal_bool_bool.calls k _ _ l0_3 _ _ l1_3 false _ ?side1 ?side2 ?side3 ?side4 A8.out).mono ?_); (case side1 => exact cT (Kd.C_below HR0_3.out (bT2 HB GE284 GE285))); (case side2 => exact HC0_3.out); (case side3 => exact cT (Kd.C_below HR1_3.out (bT2 HB GE284 GE285))); (case side4 => exact HC1_3.out); rintro e w' ⟨rfl, ⟨nd, rfl⟩⟩))
     go_ret
     exact ⟨eT, bT2 HB GE284 GE285⟩
   ·
    replace c7 := Bool.eq_false_iff.mpr c7
    subst c7
    rw [if_neg (show ¬ (false = true) by decide)] at H
    obtain rfl := Option.some.inj H
    go_enter Try.func50, Try.ntmps50
    go_wp2_with (first | ((with_reducible refine gate_dst (N := 2) rfl ?_); refine boxT 2 #[.int .i64 a0_0, .slice A0_1 l0_1.length c0_1, .slice A0_2 l0_2.length c0_2, .slice A0_3 l0_3.length c0_3, .int .i64 a0_4] 68 ?_; intro gb284 hg w20 hbox hb; have BK284 := mA (hbox); have GW284 := mA ((by rw [hg]; exact (below_size (bT HB)) : w.heap.size ≤ gb284)); have GE284 := GW284; replace HB := mA (below_step (bT HB) hb); clear hb hbox hg) | ((with_reducible refine gate_dst (N := 3) rfl ?_); refine boxT 3 #[.int .i64 a1_0, .slice A1_1 l1_1.length c1_1, .slice A1_2 l1_2.length c1_2, .slice A1_3 l1_3.length c1_3, .int .i64 a1_4] 68 ?_; intro gb285 hg w21 hbox hb; have BK285 := mA (hbox); have GW285 := mA ((by rw [hg]; exact (below_size (bT1 HB GE284)) : w.heap.size ≤ gb285)); have GE285 := GW285; replace HB := mA (below_step (bT1 HB GE284) hb); have NB284_285 : Aside0 (gb284 ≠ gb285) := nL BK284 hg; have NB285_284 : Aside0 (gb285 ≠ gb284) := nG BK284 hg; replace BK284 := kB BK284 hb; clear hb hbox hg; have hnb22 := NB284_285.out; have hnc22 := NB285_284.out; obtain ⟨hcz23_0, hcz23_1, hcz23_2, hcz23_3, hcz23_4, hfz23_0, hfz23_1, hfz23_2, hfz23_3, hfz23_4⟩ := blk5 BK284.out; obtain ⟨hcz24_0, hcz24_1, hcz24_2, hcz24_3, hcz24_4, hfz24_0, hfz24_1, hfz24_2, hfz24_3, hfz24_4⟩ := blk5 BK285.out) | (go_at_call 89; (with_reducible refine (impl_equal.calls k _ _ l0_1 _ _ l1_1 true _ ?side1 ?side2 ?side3 ?side4 A4.out).mono ?_); (case side1 => exact cT (Kd.C_below HR0_1.out HB.out)); (case side2 => exact HC0_1.out); (case side3 => exact cT (Kd.C_below HR1_1.out HB.out)); (case side4 => exact HC1_1.out); rintro e w' ⟨rfl, ⟨nd, rfl⟩⟩) | (go_at_call 89; (with_reducible refine (impl_equal.calls k _ _ l0_2 _ _ l1_2 false _ ?side1 ?side2 ?side3 ?side4 A6.out).mono ?_); (case side1 => exact cT (Kd.C_below HR0_2.out (bT2 HB GE284 GE285))); (case side2 => exact HC0_2.out); (case side3 => exact cT (Kd.C_below HR1_2.out (bT2 HB GE284 GE285))); (case side4 => exact HC1_2.out); rintro e w' ⟨rfl, ⟨nd, rfl⟩⟩))
    go_ret
    exact ⟨eT, bT2 HB GE284 GE285⟩
  ·
   replace c5 := Bool.eq_false_iff.mpr c5
   subst c5
   rw [if_neg (show ¬ (false = true) by decide)] at H
   obtain rfl := Option.some.inj H
   go_enter Try.func50, Try.ntmps50
   go_wp2_with (first | ((with_reducible refine gate_dst (N := 2) rfl ?_); refine boxT 2 #[.int .i64 a0_0, .slice A0_1 l0_1.length c0_1, .slice A0_2 l0_2.length c0_2, .slice A0_3 l0_3.length c0_3, .int .i64 a0_4] 68 ?_; intro gb284 hg w25 hbox hb; have BK284 := mA (hbox); have GW284 := mA ((by rw [hg]; exact (below_size (bT HB)) : w.heap.size ≤ gb284)); have GE284 := GW284; replace HB := mA (below_step (bT HB) hb); clear hb hbox hg) | ((with_reducible refine gate_dst (N := 3) rfl ?_); refine boxT 3 #[.int .i64 a1_0, .slice A1_1 l1_1.length c1_1, .slice A1_2 l1_2.length c1_2, .slice A1_3 l1_3.length c1_3, .int .i64 a1_4] 68 ?_; intro gb285 hg w26 hbox hb; have BK285 := mA (hbox); have GW285 := mA ((by rw [hg]; exact (below_size (bT1 HB GE284)) : w.heap.size ≤ gb285)); have GE285 := GW285; replace HB := mA (below_step (bT1 HB GE284) hb); have NB284_285 : Aside0 (gb284 ≠ gb285) := nL BK284 hg; have NB285_284 : Aside0 (gb285 ≠ gb284) := nG BK284 hg; replace BK284 := kB BK284 hb; clear hb hbox hg; have hnb27 := NB284_285.out; have hnc27 := NB285_284.out; obtain ⟨hcz28_0, hcz28_1, hcz28_2, hcz28_3, hcz28_4, hfz28_0, hfz28_1, hfz28_2, hfz28_3, hfz28_4⟩ := blk5 BK284.out; obtain ⟨hcz29_0, hcz29_1, hcz29_2, hcz29_3, hcz29_4, hfz29_0, hfz29_1, hfz29_2, hfz29_3, hfz29_4⟩ := blk5 BK285.out) | (go_at_call 89; (with_reducible refine (impl_equal.calls k _ _ l0_1 _ _ l1_1 false _ ?side1 ?side2 ?side3 ?side4 A4.out).mono ?_); (case side1 => exact cT (Kd.C_below HR0_1.out HB.out)); (case side2 => exact HC0_1.out); (case side3 => exact cT (Kd.C_below HR1_1.out HB.out)); (case side4 => exact HC1_1.out); rintro e w' ⟨rfl, ⟨nd, rfl⟩⟩))
   go_ret
   exact ⟨eT, bT2 HB GE284 GE285⟩
 ·
  rw [if_neg c3] at H
  have c3b0 : (a0_0 == a1_0) = false := beq_eq_false_iff_ne.mpr c3
  have c3b1 : (a0_0 != a1_0) = true := bne_iff_ne.mpr c3
  obtain rfl := Option.some.inj H
  go_enter Try.func50, Try.ntmps50
  go_wp2_with (first | ((with_reducible refine gate_dst (N := 2) rfl ?_); refine boxT 2 #[.int .i64 a0_0, .slice A0_1 l0_1.length c0_1, .slice A0_2 l0_2.length c0_2, .slice A0_3 l0_3.length c0_3, .int .i64 a0_4] 68 ?_; intro gb284 hg w30 hbox hb; have BK284 := mA (hbox); have GW284 := mA ((by rw [hg]; exact (below_size (bT HB)) : w.heap.size ≤ gb284)); have GE284 := GW284; replace HB := mA (below_step (bT HB) hb); clear hb hbox hg) | ((with_reducible refine gate_dst (N := 3) rfl ?_); refine boxT 3 #[.int .i64 a1_0, .slice A1_1 l1_1.length c1_1, .slice A1_2 l1_2.length c1_2, .slice A1_3 l1_3.length c1_3, .int .i64 a1_4] 68 ?_; intro gb285 hg w31 hbox hb; have BK285 := mA (hbox); have GW285 := mA ((by rw [hg]; exact (below_size (bT1 HB GE284)) : w.heap.size ≤ gb285)); have GE285 := GW285; replace HB := mA (below_step (bT1 HB GE284) hb); have NB284_285 : Aside0 (gb284 ≠ gb285) := nL BK284 hg; have NB285_284 : Aside0 (gb285 ≠ gb284) := nG BK284 hg; replace BK284 := kB BK284 hb; clear hb hbox hg; have hnb32 := NB284_285.out; have hnc32 := NB285_284.out; obtain ⟨hcz33_0, hcz33_1, hcz33_2, hcz33_3, hcz33_4, hfz33_0, hfz33_1, hfz33_2, hfz33_3, hfz33_4⟩ := blk5 BK284.out; obtain ⟨hcz34_0, hcz34_1, hcz34_2, hcz34_3, hcz34_4, hfz34_0, hfz34_1, hfz34_2, hfz34_3, hfz34_4⟩ := blk5 BK285.out))
  go_ret
  exact ⟨eT, bT2 HB GE284 GE285⟩

/-! ### impl_EqualJoiners: function 18 -/
mutual
def impl_EqualJoiners.j0 : Nat → Bool → List (S68) → Int → Int → List (S68) → Int → Int → Option (Bool)
 | 0, _, _, _, _, _, _, _ => none
 | k + 1, x26, x290000, x290001, x290002, x291000, x291001, x291002 => if x26 = true then (some false) else (impl_EqualJoiners.l0 k (x290000.length : Int) 0 x290000 x290001 x290002 x291000 x291001 x291002)
def impl_EqualJoiners.l0 : Nat → Int → Int → List (S68) → Int → Int → List (S68) → Int → Int → Option (Bool)
 | 0, _, _, _, _, _, _, _, _ => none
 | k + 1, x29, x30, x290000, x290001, x290002, x291000, x291001, x291002 => if x30 < x29 then (if 0 ≤ x30 then (if x30 < (x290000.length : Int) then (if x30 < (x291000.length : Int) then ((impl_EqualTasks.f k ((rd_T68 x290000 x30).f0) ((rd_T68 x290000 x30).f1) ((rd_T68 x290000 x30).f2) ((rd_T68 x290000 x30).f3) ((rd_T68 x290000 x30).f4) ((rd_T68 x291000 x30).f0) ((rd_T68 x291000 x30).f1) ((rd_T68 x291000 x30).f2) ((rd_T68 x291000 x30).f3) ((rd_T68 x291000 x30).f4)).bind fun t293 => (if t293 = true then (impl_EqualJoiners.l0 k x29 (wrap64 (x30 + 1)) x290000 x290001 x290002 x291000 x291001 x291002) else (some false))) else (none)) else (none)) else (none)) else (some true)
end
def impl_EqualJoiners.f (k : Nat) (l0_0 : List (S68)) (a0_1 : Int) (a0_2 : Int) (l1_0 : List (S68)) (a1_1 : Int) (a1_2 : Int) : Option (Bool) := if a0_1 = a1_1 then (if a0_2 = a1_2 then (impl_EqualJoiners.j0 k ((l0_0.length : Int) != (l1_0.length : Int)) l0_0 a0_1 a0_2 l1_0 a1_1 a1_2) else (impl_EqualJoiners.j0 k true l0_0 a0_1 a0_2 l1_0 a1_1 a1_2)) else (impl_EqualJoiners.j0 k true l0_0 a0_1 a0_2 l1_0 a1_1 a1_2)
theorem impl_EqualJoiners.mono_l : ∀ k, (∀ y0 y1 y2 y3 y4 y5 y6, LeO (impl_EqualJoiners.j0 k y0 y1 y2 y3 y4 y5 y6) (impl_EqualJoiners.j0 (k + 1) y0 y1 y2 y3 y4 y5 y6)) ∧ (∀ y0 y1 y2 y3 y4 y5 y6 y7, LeO (impl_EqualJoiners.l0 k y0 y1 y2 y3 y4 y5 y6 y7) (impl_EqualJoiners.l0 (k + 1) y0 y1 y2 y3 y4 y5 y6 y7))
 | 0 => ⟨fun _ _ _ _ _ _ _ r h => by simp [impl_EqualJoiners.j0] at h, fun _ _ _ _ _ _ _ _ r h => by simp [impl_EqualJoiners.l0] at h⟩
 | k + 1 => by
  obtain ⟨ih0, ih1⟩ := impl_EqualJoiners.mono_l k
  refine ⟨?_, ?_⟩
  ·
   intro y0 y1 y2 y3 y4 y5 y6
   unfold impl_EqualJoiners.j0
   repeat' first
   | (with_reducible exact ih0 _ _ _ _ _ _ _)
   | (with_reducible exact ih1 _ _ _ _ _ _ _ _)
   | (with_reducible exact impl_EqualTasks.mono _ _ _ _ _ _ _ _ _ _ _)
   | (with_reducible exact LeO.refl _)
   | (with_reducible exact LeO.none _)
   | (with_reducible refine LeO.ite ?_ ?_)
   | (with_reducible refine LeO.bind ?_ (fun _ => ?_))
   | exact ih0 _ _ _ _ _ _ _
   | exact ih1 _ _ _ _ _ _ _ _
   | exact impl_EqualTasks.mono _ _ _ _ _ _ _ _ _ _ _
   | exact LeO.none _
   | refine LeO.ite ?_ ?_
   | refine LeO.bind ?_ (fun _ => ?_)
  ·
   intro y0 y1 y2 y3 y4 y5 y6 y7
   unfold impl_EqualJoiners.l0
   repeat' first
   | (with_reducible exact ih0 _ _ _ _ _ _ _)
   | (with_reducible exact ih1 _ _ _ _ _ _ _ _)
   | (with_reducible exact impl_EqualTasks.mono _ _ _ _ _ _ _ _ _ _ _)
   | (with_reducible exact LeO.refl _)
   | (with_reducible exact LeO.none _)
   | (with_reducible refine LeO.ite ?_ ?_)
   | (with_reducible refine LeO.bind ?_ (fun _ => ?_))
   | exact ih0 _ _ _ _ _ _ _
   | exact ih1 _ _ _ _ _ _ _ _
   | exact impl_EqualTasks.mono _ _ _ _ _ _ _ _ _ _ _
   | exact LeO.none _
   | refine LeO.ite ?_ ?_
   | refine LeO.bind ?_ (fun _ => ?_)
theorem impl_EqualJoiners.mono : ∀ a0 a1 a2 a3 a4 a5 k, LeO (impl_EqualJoiners.f k a0 a1 a2 a3 a4 a5) (impl_EqualJoiners.f (k + 1) a0 a1 a2 a3 a4 a5) := by
 intro a0 a1 a2 a3 a4 a5 k
 obtain ⟨ih0, ih1⟩ := impl_EqualJoiners.mono_l k
 unfold impl_EqualJoiners.f
 repeat' first
   | (with_reducible exact ih0 _ _ _ _ _ _ _)
   | (with_reducible exact ih1 _ _ _ _ _ _ _ _)
   | (with_reducible exact impl_EqualTasks.mono _ _ _ _ _ _ _ _ _ _ _)
   | (with_reducible exact LeO.refl _)
   | (with_reducible exact LeO.none _)
   | (with_reducible refine LeO.ite ?_ ?_)
   | (with_reducible refine LeO.bind ?_ (fun _ => ?_))
   | exact ih0 _ _ _ _ _ _ _
   | exact ih1 _ _ _ _ _ _ _ _
   | exact impl_EqualTasks.mono _ _ _ _ _ _ _ _ _ _ _
   | exact LeO.none _
   | refine LeO.ite ?_ ?_
   | refine LeO.bind ?_ (fun _ => ?_)
def impl_EqualJoiners.T6 : Bool × List (List Nat × List Nat) := (true, [([], []), ([0], [0]), ([], []), ([1, 2], [1, 2]), ([3], [3]), ([], []), ([5], [5]), ([], []), ([6, 7], [6, 7]), ([8], [8]), ([4, 9], [4, 9]), ([10], [10])])
def impl_EqualJoiners.B6 : List Nat := [0, 1, 0, 7, 15, 0, 32, 0, 224, 480, 1023, 2047]
theorem impl_EqualJoiners.tab6 : rtab .any (opsOf Try.f18 6) = impl_EqualJoiners.T6 := by kernel_rfl
theorem impl_EqualJoiners.bits6 : waitsOk impl_EqualJoiners.T6.2 impl_EqualJoiners.B6 = true := by kernel_rfl
set_option maxHeartbeats 8000000 in
set_option maxRecDepth 100000 in
theorem impl_EqualJoiners.calls (k : Nat) (A0_0 : Option Addr) (c0_0 : Nat) (l0_0 : List (S68)) (a0_1 : Int) (a0_2 : Int) (A1_0 : Option Addr) (c1_0 : Nat) (l1_0 : List (S68)) (a1_1 : Int) (a1_2 : Int) (r : Bool) (w : World) (hr0_0 : Kd.C k68 w A0_0 l0_0.length l0_0) (hc0_0 : l0_0.length ≤ c0_0) (hr1_0 : Kd.C k68 w A1_0 l1_0.length l1_0) (hc1_0 : l1_0.length ≤ c1_0) (h : impl_EqualJoiners.f k l0_0 a0_1 a0_2 l1_0 a1_1 a1_2 = some r) :
  Calls Try.prog 18 #[.agg #[.slice A0_0 l0_0.length c0_0, .int .i64 a0_1, .int .i64 a0_2], .agg #[.slice A1_0 l1_0.length c1_0, .int .i64 a1_1, .int .i64 a1_2]] w fun e w' => e = .returned (.bool r) ∧ Below w.heap.size w w' := by
 have hu29 := Try.underlying29
 have hu68 := Try.underlying68
 have HR0_0 := mA hr0_0
 have HC0_0 := mA hc0_0
 clear hr0_0 hc0_0
 have HR1_0 := mA hr1_0
 have HC1_0 := mA hc1_0
 clear hr1_0 hc1_0
 have HB := mA (Below.refl w.heap.size w)
 have H : (if a0_1 = a1_1 then (if a0_2 = a1_2 then (impl_EqualJoiners.j0 k ((l0_0.length : Int) != (l1_0.length : Int)) l0_0 a0_1 a0_2 l1_0 a1_1 a1_2) else (impl_EqualJoiners.j0 k true l0_0 a0_1 a0_2 l1_0 a1_1 a1_2)) else (impl_EqualJoiners.j0 k true l0_0 a0_1 a0_2 l1_0 a1_1 a1_2)) = some r := h
 clear h
 have HC3 := mA H
 clear H
 go_enter Try.func18, Try.ntmps18
 go_upto_region 1 with (first | ((with_reducible refine gate_dst (N := 2) rfl ?_); (try (refine gate_guard (by rfl) ?_; dsimp only)); refine boxT 2 #[.slice A0_0 l0_0.length c0_0, .int .i64 a0_1, .int .i64 a0_2] 29 ?_; intro gb289 hg w4 hbox hb; have BK289 := mA (hbox); have GW289 := mA ((by rw [hg]; exact (below_size (bT HB)) : w.heap.size ≤ gb289)); have GE289 := GW289; replace HB := mA (below_step (bT HB) hb); clear hb hbox hg) | ((with_reducible refine gate_dst (N := 3) rfl ?_); (try (refine gate_guard (by rfl) ?_; dsimp only)); refine boxT 3 #[.slice A1_0 l1_0.length c1_0, .int .i64 a1_1, .int .i64 a1_2] 29 ?_; intro gb290 hg w5 hbox hb; have BK290 := mA (hbox); have GW290 := mA ((by rw [hg]; exact (below_size (bT1 HB GE289)) : w.heap.size ≤ gb290)); have GE290 := GW290; replace HB := mA (below_step (bT1 HB GE289) hb); have NB289_290 : Aside0 (gb289 ≠ gb290) := nL BK289 hg; have NB290_289 : Aside0 (gb290 ≠ gb289) := nG BK289 hg; replace BK289 := kB BK289 hb; clear hb hbox hg))
 (try simp only [Act.put, List.setIfInBounds_toArray, List.set_cons_zero, List.set_cons_succ])
 go_cut [26] (fun v26 wc => ∃ (kq : Nat) (x26_2 : Bool), v26 = .bool x26_2 ∧ Aside0 (impl_EqualJoiners.j0 kq x26_2 l0_0 a0_1 a0_2 l1_0 a1_1 a1_2 = some r) ∧ Aside0 (kq ≤ k) ∧ Aside0 (wc.heap[gb289]? = some (.cells #[(.slice A0_0 l0_0.length c0_0), .int .i64 a0_1, .int .i64 a0_2] 29 (0, 0))) ∧ Aside0 (wc.heap[gb290]? = some (.cells #[(.slice A1_0 l1_0.length c1_0), .int .i64 a1_1, .int .i64 a1_2] 29 (0, 0))) ∧ Aside0 (Below w.heap.size w wc))
 case first =>
  have H := HC3.out
  clear HC3
  by_cases c6 : a0_1 = a1_1
  ·
   rw [if_pos c6] at H
   have c6b0 : (a0_1 == a1_1) = true := beq_iff_eq.mpr c6
   have c6b1 : (a0_1 != a1_1) = false := bne_eq_false_iff_eq.mpr c6
   clear c6
   (first | rw [c6b0] | (simp only [i64_w, i32_w]; rw [c6b0]) | skip)
   by_cases c7 : a0_2 = a1_2
   ·
    rw [if_pos c7] at H
    have c7b0 : (a0_2 == a1_2) = true := beq_iff_eq.mpr c7
    have c7b1 : (a0_2 != a1_2) = false := bne_eq_false_iff_eq.mpr c7
    clear c7
    have H' := mA H
    clear H
    have hnb8 := NB289_290.out
    have hnc8 := NB290_289.out
    have hcz9_0 : w5.cell? ⟨gb289, 0, none⟩ = some (.slice A0_0 l0_0.length c0_0) := (blk_cell BK289.out 0).trans rfl
    have hcz9_1 : w5.cell? ⟨gb289, 1, none⟩ = some (.int .i64 a0_1) := (blk_cell BK289.out 1).trans rfl
    have hcz9_2 : w5.cell? ⟨gb289, 2, none⟩ = some (.int .i64 a0_2) := (blk_cell BK289.out 2).trans rfl
    have hfz9_0 := blk_frozen BK289.out 0
    have hfz9_1 := blk_frozen BK289.out 1
    have hfz9_2 := blk_frozen BK289.out 2
    have hcz10_0 : w5.cell? ⟨gb290, 0, none⟩ = some (.slice A1_0 l1_0.length c1_0) := (blk_cell BK290.out 0).trans rfl
    have hcz10_1 : w5.cell? ⟨gb290, 1, none⟩ = some (.int .i64 a1_1) := (blk_cell BK290.out 1).trans rfl
    have hcz10_2 : w5.cell? ⟨gb290, 2, none⟩ = some (.int .i64 a1_2) := (blk_cell BK290.out 2).trans rfl
    have hfz10_0 := blk_frozen BK290.out 0
    have hfz10_1 := blk_frozen BK290.out 1
    have hfz10_2 := blk_frozen BK290.out 2
    go_wp2
    go_meet
    case rel => exact ⟨_, (((l0_0.length : Int) != (l1_0.length : Int))), sT, H', ⟨by first | omega | exact Nat.le_refl _⟩, ⟨kT BK289⟩, ⟨kT BK290⟩, ⟨bT2 HB GE289 GE290⟩⟩
   ·
    rw [if_neg c7] at H
    have c7b0 : (a0_2 == a1_2) = false := beq_eq_false_iff_ne.mpr c7
    have c7b1 : (a0_2 != a1_2) = true := bne_iff_ne.mpr c7
    have H' := mA H
    clear H
    have hnb11 := NB289_290.out
    have hnc11 := NB290_289.out
    have hcz12_0 : w5.cell? ⟨gb289, 0, none⟩ = some (.slice A0_0 l0_0.length c0_0) := (blk_cell BK289.out 0).trans rfl
    have hcz12_1 : w5.cell? ⟨gb289, 1, none⟩ = some (.int .i64 a0_1) := (blk_cell BK289.out 1).trans rfl
    have hcz12_2 : w5.cell? ⟨gb289, 2, none⟩ = some (.int .i64 a0_2) := (blk_cell BK289.out 2).trans rfl
    have hfz12_0 := blk_frozen BK289.out 0
    have hfz12_1 := blk_frozen BK289.out 1
    have hfz12_2 := blk_frozen BK289.out 2
    have hcz13_0 : w5.cell? ⟨gb290, 0, none⟩ = some (.slice A1_0 l1_0.length c1_0) := (blk_cell BK290.out 0).trans rfl
    have hcz13_1 : w5.cell? ⟨gb290, 1, none⟩ = some (.int .i64 a1_1) := (blk_cell BK290.out 1).trans rfl
    have hcz13_2 : w5.cell? ⟨gb290, 2, none⟩ = some (.int .i64 a1_2) := (blk_cell BK290.out 2).trans rfl
    have hfz13_0 := blk_frozen BK290.out 0
    have hfz13_1 := blk_frozen BK290.out 1
    have hfz13_2 := blk_frozen BK290.out 2
    go_wp2
    go_meet
    case rel => exact ⟨_, (true), sT, H', ⟨by first | omega | exact Nat.le_refl _⟩, ⟨kT BK289⟩, ⟨kT BK290⟩, ⟨bT2 HB GE289 GE290⟩⟩
  ·
   rw [if_neg c6] at H
   have c6b0 : (a0_1 == a1_1) = false := beq_eq_false_iff_ne.mpr c6
   have c6b1 : (a0_1 != a1_1) = true := bne_iff_ne.mpr c6
   (first | rw [c6b0] | (simp only [i64_w, i32_w]; rw [c6b0]) | skip)
   have H' := mA H
   clear H
   have hnb14 := NB289_290.out
   have hnc14 := NB290_289.out
   have hcz15_0 : w5.cell? ⟨gb289, 0, none⟩ = some (.slice A0_0 l0_0.length c0_0) := (blk_cell BK289.out 0).trans rfl
   have hcz15_1 : w5.cell? ⟨gb289, 1, none⟩ = some (.int .i64 a0_1) := (blk_cell BK289.out 1).trans rfl
   have hcz15_2 : w5.cell? ⟨gb289, 2, none⟩ = some (.int .i64 a0_2) := (blk_cell BK289.out 2).trans rfl
   have hfz15_0 := blk_frozen BK289.out 0
   have hfz15_1 := blk_frozen BK289.out 1
   have hfz15_2 := blk_frozen BK289.out 2
   have hcz16_0 : w5.cell? ⟨gb290, 0, none⟩ = some (.slice A1_0 l1_0.length c1_0) := (blk_cell BK290.out 0).trans rfl
   have hcz16_1 : w5.cell? ⟨gb290, 1, none⟩ = some (.int .i64 a1_1) := (blk_cell BK290.out 1).trans rfl
   have hcz16_2 : w5.cell? ⟨gb290, 2, none⟩ = some (.int .i64 a1_2) := (blk_cell BK290.out 2).trans rfl
   have hfz16_0 := blk_frozen BK290.out 0
   have hfz16_1 := blk_frozen BK290.out 1
   have hfz16_2 := blk_frozen BK290.out 2
   go_wp2
   go_meet
   case rel => exact ⟨_, (true), sT, H', ⟨by first | omega | exact Nat.le_refl _⟩, ⟨kT BK289⟩, ⟨kT BK290⟩, ⟨bT2 HB GE289 GE290⟩⟩
 case rest =>
  clear HC3
  try clear c1
  try clear p2
  try clear c6
  try clear c6b0
  try clear c6b1
  try clear c7
  try clear c7b0
  try clear c7b1
  try clear c8
  try clear c11
  try clear c14
  try clear hcz10_0
  try clear hcz10_1
  try clear hcz10_2
  try clear hcz12_0
  try clear hcz12_1
  try clear hcz12_2
  try clear hcz13_0
  try clear hcz13_1
  try clear hcz13_2
  try clear hcz15_0
  try clear hcz15_1
  try clear hcz15_2
  try clear hcz16_0
  try clear hcz16_1
  try clear hcz16_2
  try clear hcz9_0
  try clear hcz9_1
  try clear hcz9_2
  try clear hfz10_0
  try clear hfz10_1
  try clear hfz10_2
  try clear hfz12_0
  try clear hfz12_1
  try clear hfz12_2
  try clear hfz13_0
  try clear hfz13_1
  try clear hfz13_2
  try clear hfz15_0
  try clear hfz15_1
  try clear hfz15_2
  try clear hfz16_0
  try clear hfz16_1
  try clear hfz16_2
  try clear hfz9_0
  try clear hfz9_1
  try clear hfz9_2
  obtain ⟨kq, x26_2, rfl, HA, HJ2, BK289, BK290, HB⟩ := hcut
  cases kq with
  | zero => exact absurd HA.out (by simp [impl_EqualJoiners.j0])
  | succ kj2 =>
   have H := HA.out
   clear HA
   simp only [impl_EqualJoiners.j0] at H
   by_cases c17 : x26_2 = true
   ·
    subst c17
    rw [if_pos rfl] at H
    obtain rfl := Option.some.inj H
    go_wp2
    go_ret
    exact ⟨eT, bT2 HB GE289 GE290⟩
   ·
    replace c17 := Bool.eq_false_iff.mpr c17
    subst c17
    rw [if_neg (show ¬ (false = true) by decide)] at H
    have H' := mA H
    clear H
    have hnb18 := NB289_290.out
    have hnc18 := NB290_289.out
    have hcz19_0 : wc.cell? ⟨gb289, 0, none⟩ = some (.slice A0_0 l0_0.length c0_0) := (blk_cell BK289.out 0).trans rfl
    have hcz19_1 : wc.cell? ⟨gb289, 1, none⟩ = some (.int .i64 a0_1) := (blk_cell BK289.out 1).trans rfl
    have hcz19_2 : wc.cell? ⟨gb289, 2, none⟩ = some (.int .i64 a0_2) := (blk_cell BK289.out 2).trans rfl
    have hfz19_0 := blk_frozen BK289.out 0
    have hfz19_1 := blk_frozen BK289.out 1
    have hfz19_2 := blk_frozen BK289.out 2
    go_wp2
    go_loopg [30] kj2 (fun kq v30 w' => ∃ (x30_2 : Int), v30 = .int .i64 x30_2 ∧ Aside0 (impl_EqualJoiners.l0 kq (l0_0.length : Int) x30_2 l0_0 a0_1 a0_2 l1_0 a1_1 a1_2 = some r) ∧ Aside0 (kq ≤ kj2) ∧ Aside0 (w'.heap[gb289]? = some (.cells #[(.slice A0_0 l0_0.length c0_0), .int .i64 a0_1, .int .i64 a0_2] 29 (0, 0))) ∧ Aside0 (w'.heap[gb290]? = some (.cells #[(.slice A1_0 l1_0.length c1_0), .int .i64 a1_1, .int .i64 a1_2] 29 (0, 0))) ∧ Aside0 (Below w.heap.size w w'))
    case atStart => exact ⟨(0), sT, H', ⟨Nat.le_refl _⟩, ⟨kT BK289⟩, ⟨kT BK290⟩, ⟨bT2 HB GE289 GE290⟩⟩
    case round =>
     clear H'
     try clear c1
     try clear p2
     try clear c6
     try clear c6b0
     try clear c6b1
     try clear c7
     try clear c7b0
     try clear c7b1
     try clear c8
     try clear c11
     try clear c14
     try clear c17
     try clear c18
     try clear hcz10_0
     try clear hcz10_1
     try clear hcz10_2
     try clear hcz12_0
     try clear hcz12_1
     try clear hcz12_2
     try clear hcz13_0
     try clear hcz13_1
     try clear hcz13_2
     try clear hcz15_0
     try clear hcz15_1
     try clear hcz15_2
     try clear hcz16_0
     try clear hcz16_1
     try clear hcz16_2
     try clear hcz19_0
     try clear hcz19_1
     try clear hcz19_2
     try clear hcz9_0
     try clear hcz9_1
     try clear hcz9_2
     try clear hfz10_0
     try clear hfz10_1
     try clear hfz10_2
     try clear hfz12_0
     try clear hfz12_1
     try clear hfz12_2
     try clear hfz13_0
     try clear hfz13_1
     try clear hfz13_2
     try clear hfz15_0
     try clear hfz15_1
     try clear hfz15_2
     try clear hfz16_0
     try clear hfz16_1
     try clear hfz16_2
     try clear hfz19_0
     try clear hfz19_1
     try clear hfz19_2
     try clear hfz9_0
     try clear hfz9_1
     try clear hfz9_2
     try clear p2
     obtain ⟨x30_2, rfl, HA, HK2, BK289, BK290, HB⟩ := hrel
     cases gk with
     | zero => exact absurd HA.out (by simp [impl_EqualJoiners.l0])
     | succ k2 =>
      have H := HA.out
      clear HA
      simp only [impl_EqualJoiners.l0] at H
      by_cases c20 : x30_2 < (l0_0.length : Int)
      ·
       rw [if_pos c20] at H
       have c20b0 : decide (x30_2 < (l0_0.length : Int)) = true := decide_eq_true c20
       clear c20
       by_cases c21 : 0 ≤ x30_2
       ·
        rw [if_pos c21] at H
        have c21b0 : decide (0 ≤ x30_2) = true := decide_eq_true c21
        clear c21
        by_cases c22 : x30_2 < (l0_0.length : Int)
        ·
         rw [if_pos c22] at H
         have c22b0 : decide (x30_2 < (l0_0.length : Int)) = true := decide_eq_true c22
         clear c22
         by_cases c23 : x30_2 < (l1_0.length : Int)
         ·
          rw [if_pos c23] at H
          have c23b0 : decide (x30_2 < (l1_0.length : Int)) = true := decide_eq_true c23
          clear c23
          obtain ⟨t293, A24, H⟩ := Option.bind_eq_some_iff.mp H
          replace A24 := mA A24
          try dsimp only at H
          by_cases c25 : t293 = true
          ·
           subst c25
           rw [if_pos rfl] at H
           have H' := mA H
           clear H
           try go_wp2
           replace BK289 := mA (blk_drew BK289.out)
           replace BK290 := mA (blk_drew BK290.out)
           replace HB := mA (below_drew1 HB.out)
           have p291 : 0 ≤ (x30_2 : Int) := of_decide_eq_true aT
           have q291 : x30_2 < (l0_0.length : Int) := of_decide_eq_true aT
           obtain ⟨ad291, A291_1, c291_1, A291_2, c291_2, A291_3, c291_3, e291, hx291_0, hx291_1, hx291_2, hx291_3, hx291_4, hl291_1, hi291_1, hl291_2, hi291_2, hl291_3, hi291_3⟩ := at_T68 HR0_0.out x30_2 p291 q291
           have hw291_4 := hx291_4
           have hw291_3 := hx291_3
           have hw291_2 := hx291_2
           have hw291_1 := hx291_1
           have hw291_0 := hx291_0
           cases e291
           replace hx291_0 := (HB.out.cell (World.block_lt_of_cell? w _ hx291_0)).trans hx291_0
           replace hx291_1 := (HB.out.cell (World.block_lt_of_cell? w _ hx291_1)).trans hx291_1
           replace hx291_2 := (HB.out.cell (World.block_lt_of_cell? w _ hx291_2)).trans hx291_2
           replace hx291_3 := (HB.out.cell (World.block_lt_of_cell? w _ hx291_3)).trans hx291_3
           replace hx291_4 := (HB.out.cell (World.block_lt_of_cell? w _ hx291_4)).trans hx291_4
           have HR291_1 := mA hi291_1
           have HC291_1 := mA hl291_1
           clear hi291_1 hl291_1
           have HR291_2 := mA hi291_2
           have HC291_2 := mA hl291_2
           clear hi291_2 hl291_2
           have HR291_3 := mA hi291_3
           have HC291_3 := mA hl291_3
           clear hi291_3 hl291_3
           replace p291 := eq_true p291
           replace q291 := eq_true q291
           have p292 : 0 ≤ (x30_2 : Int) := of_decide_eq_true aT
           have q292 : x30_2 < (l1_0.length : Int) := of_decide_eq_true aT
           obtain ⟨ad292, A292_1, c292_1, A292_2, c292_2, A292_3, c292_3, e292, hx292_0, hx292_1, hx292_2, hx292_3, hx292_4, hl292_1, hi292_1, hl292_2, hi292_2, hl292_3, hi292_3⟩ := at_T68 HR1_0.out x30_2 p292 q292
           have hw292_4 := hx292_4
           have hw292_3 := hx292_3
           have hw292_2 := hx292_2
           have hw292_1 := hx292_1
           have hw292_0 := hx292_0
           cases e292
           replace hx292_0 := (HB.out.cell (World.block_lt_of_cell? w _ hx292_0)).trans hx292_0
           replace hx292_1 := (HB.out.cell (World.block_lt_of_cell? w _ hx292_1)).trans hx292_1
           replace hx292_2 := (HB.out.cell (World.block_lt_of_cell? w _ hx292_2)).trans hx292_2
           replace hx292_3 := (HB.out.cell (World.block_lt_of_cell? w _ hx292_3)).trans hx292_3
           replace hx292_4 := (HB.out.cell (World.block_lt_of_cell? w _ hx292_4)).trans hx292_4
           have HR292_1 := mA hi292_1
           have HC292_1 := mA hl292_1
           clear hi292_1 hl292_1
           have HR292_2 := mA hi292_2
           have HC292_2 := mA hl292_2
           clear hi292_2 hl292_2
           have HR292_3 := mA hi292_3
           have HC292_3 := mA hl292_3
           clear hi292_3 hl292_3
           replace p292 := eq_true p292
           replace q292 := eq_true q292
           refine start_ (n := 12) (S := fun w' => w'.cell? ⟨gb289, 0, none⟩ = some (.slice (some ad291) l0_0.length c0_0) ∧ w'.cell? ⟨gb289, 1, none⟩ = some (.int .i64 a0_1) ∧ w'.cell? ⟨gb289, 2, none⟩ = some (.int .i64 a0_2) ∧ w'.cell? ⟨gb290, 0, none⟩ = some (.slice (some ad292) l1_0.length c1_0) ∧ w'.cell? ⟨gb290, 1, none⟩ = some (.int .i64 a1_1) ∧ w'.cell? ⟨gb290, 2, none⟩ = some (.int .i64 a1_2) ∧ w'.cell? (ad291.add ((x30_2).toNat * 5)) = some (.int .i64 ((rd_T68 l0_0 x30_2).f0)) ∧ w'.cell? ⟨(ad291.add ((x30_2).toNat * 5)).block, (ad291.add ((x30_2).toNat * 5)).off + 1, none⟩ = some (.slice A291_1 ((rd_T68 l0_0 x30_2).f1).length c291_1) ∧ w'.cell? ⟨(ad291.add ((x30_2).toNat * 5)).block, (ad291.add ((x30_2).toNat * 5)).off + 2, none⟩ = some (.slice A291_2 ((rd_T68 l0_0 x30_2).f2).length c291_2) ∧ w'.cell? ⟨(ad291.add ((x30_2).toNat * 5)).block, (ad291.add ((x30_2).toNat * 5)).off + 3, none⟩ = some (.slice A291_3 ((rd_T68 l0_0 x30_2).f3).length c291_3) ∧ w'.cell? ⟨(ad291.add ((x30_2).toNat * 5)).block, (ad291.add ((x30_2).toNat * 5)).off + 4, none⟩ = some (.int .i64 ((rd_T68 l0_0 x30_2).f4)) ∧ w'.cell? (ad292.add ((x30_2).toNat * 5)) = some (.int .i64 ((rd_T68 l1_0 x30_2).f0)) ∧ w'.cell? ⟨(ad292.add ((x30_2).toNat * 5)).block, (ad292.add ((x30_2).toNat * 5)).off + 1, none⟩ = some (.slice A292_1 ((rd_T68 l1_0 x30_2).f1).length c292_1) ∧ w'.cell? ⟨(ad292.add ((x30_2).toNat * 5)).block, (ad292.add ((x30_2).toNat * 5)).off + 2, none⟩ = some (.slice A292_2 ((rd_T68 l1_0 x30_2).f2).length c292_2) ∧ w'.cell? ⟨(ad292.add ((x30_2).toNat * 5)).block, (ad292.add ((x30_2).toNat * 5)).off + 3, none⟩ = some (.slice A292_3 ((rd_T68 l1_0 x30_2).f3).length c292_3) ∧ w'.cell? ⟨(ad292.add ((x30_2).toNat * 5)).block, (ad292.add ((x30_2).toNat * 5)).off + 4, none⟩ = some (.int .i64 ((rd_T68 l1_0 x30_2).f4))) (ds := []) #[false, false, false, false, false, false, false, false, false, false, false, false] (by kernel_rfl) rfl rfl ⟨(blk_cell BK289.out 0).trans rfl, (blk_cell BK289.out 1).trans rfl, (blk_cell BK289.out 2).trans rfl, (blk_cell BK290.out 0).trans rfl, (blk_cell BK290.out 1).trans rfl, (blk_cell BK290.out 2).trans rfl, ((HB.out.cell (World.block_lt_of_cell? w _ hw291_0)).trans hw291_0), ((HB.out.cell (World.block_lt_of_cell? w _ hw291_1)).trans hw291_1), ((HB.out.cell (World.block_lt_of_cell? w _ hw291_2)).trans hw291_2), ((HB.out.cell (World.block_lt_of_cell? w _ hw291_3)).trans hw291_3), ((HB.out.cell (World.block_lt_of_cell? w _ hw291_4)).trans hw291_4), ((HB.out.cell (World.block_lt_of_cell? w _ hw292_0)).trans hw292_0), ((HB.out.cell (World.block_lt_of_cell? w _ hw292_1)).trans hw292_1), ((HB.out.cell (World.block_lt_of_cell? w _ hw292_2)).trans hw292_2), ((HB.out.cell (World.block_lt_of_cell? w _ hw292_3)).trans hw292_3), ((HB.out.cell (World.block_lt_of_cell? w _ hw292_4)).trans hw292_4)⟩ (fun hHeld => ?_); refine with_tabW impl_EqualJoiners.tab6 impl_EqualJoiners.bits6 (fun HT_ HW_ => ?_)
           generalize wr.drew = w26 at BK289 BK290 HB HR291_1 HR291_2 HR291_3 HR292_1 HR292_2 HR292_3 hx291_0 hx291_1 hx291_2 hx291_3 hx291_4 hx292_0 hx292_1 hx292_2 hx292_3 hx292_4 hHeld ⊢
           refine pureT (i := 0) (N := some 33) #[true, false, false, false, false, false, false, false, false, false, false, false] (any_of HT_.out (by kernel_rfl)) ?_
           refine pureT (i := 2) (N := some 35) #[true, false, true, false, false, false, false, false, false, false, false, false] (any_of HT_.out (by kernel_rfl)) ?_
           refine pureT (i := 5) (N := some 38) #[true, false, true, false, false, true, false, false, false, false, false, false] (any_of HT_.out (by kernel_rfl)) ?_
           refine pureT (i := 7) (N := some 40) #[true, false, true, false, false, true, false, true, false, false, false, false] (any_of HT_.out (by kernel_rfl)) ?_
           refine take_ (i := 1) (N := some 34) (v := ?_) (a' := ?_) #[true, true, true, false, false, true, false, true, false, false, false, false] rfl rfl (take_ofW HT_.out HW_.out (by kernel_rfl)) (fun _ _ _ h => h) (Or.inl ⟨by rfl, ?_⟩) hHeld ?_ ?_
           rotate_left
           ·
            rintro w' ⟨s0, s1, s2, s3, s4, s5, s6, s7, s8, s9, s10, s11, s12, s13, s14, s15⟩
            go_simp
            with_reducible rfl
           rotate_left
           ·
            simp only [Act.put, List.setIfInBounds_toArray, List.set_cons_zero, List.set_cons_succ, i64_w, i32_w]
            rfl
           refine pureT (i := 3) (N := some 36) #[true, true, true, true, false, true, false, true, false, false, false, false] (any_of HT_.out (by kernel_rfl)) ?_
           refine take_ (i := 4) (N := some 37) (v := ?_) (a' := ?_) #[true, true, true, true, true, true, false, true, false, false, false, false] rfl rfl (take_ofW HT_.out HW_.out (by kernel_rfl)) (fun _ _ _ h => h) (Or.inl ⟨by rfl, ?_⟩) hHeld ?_ ?_
           rotate_left
           ·
            rintro w' ⟨s0, s1, s2, s3, s4, s5, s6, s7, s8, s9, s10, s11, s12, s13, s14, s15⟩
            go_simp
            with_reducible rfl
           rotate_left
           ·
            simp only [Act.put, List.setIfInBounds_toArray, List.set_cons_zero, List.set_cons_succ, i64_w, i32_w]
            rfl
           refine take_ (i := 6) (N := some 39) (v := ?_) (a' := ?_) #[true, true, true, true, true, true, true, true, false, false, false, false] rfl rfl (take_ofW HT_.out HW_.out (by kernel_rfl)) (fun _ _ _ h => h) (Or.inl ⟨by rfl, ?_⟩) hHeld ?_ ?_
           rotate_left
           ·
            rintro w' ⟨s0, s1, s2, s3, s4, s5, s6, s7, s8, s9, s10, s11, s12, s13, s14, s15⟩
            go_simp
            with_reducible rfl
           rotate_left
           ·
            simp only [Act.put, List.setIfInBounds_toArray, List.set_cons_zero, List.set_cons_succ, i64_w, i32_w]
            rfl
           refine pureT (i := 8) (N := some 41) #[true, true, true, true, true, true, true, true, true, false, false, false] (any_of HT_.out (by kernel_rfl)) ?_
           refine take_ (i := 9) (N := some 42) (v := ?_) (a' := ?_) #[true, true, true, true, true, true, true, true, true, true, false, false] rfl rfl (take_ofW HT_.out HW_.out (by kernel_rfl)) (fun _ _ _ h => h) (Or.inl ⟨by rfl, ?_⟩) hHeld ?_ ?_
           rotate_left
           ·
            rintro w' ⟨s0, s1, s2, s3, s4, s5, s6, s7, s8, s9, s10, s11, s12, s13, s14, s15⟩
            go_simp
            with_reducible rfl
           rotate_left
           ·
            simp only [Act.put, List.setIfInBounds_toArray, List.set_cons_zero, List.set_cons_succ, i64_w, i32_w]
            rfl
           refine one_ (i := 10) (N := some 43) #[true, true, true, true, true, true, true, true, true, true, true, false] rfl rfl (one_of HT_.out (by kernel_rfl)) (by decide) (fun K hK => ?_)
           refine goes_ Try.func50 (by kernel_rfl) rfl #[.agg #[.int .i64 ((rd_T68 l0_0 x30_2).f0), .slice A291_1 ((rd_T68 l0_0 x30_2).f1).length c291_1, .slice A291_2 ((rd_T68 l0_0 x30_2).f2).length c291_2, .slice A291_3 ((rd_T68 l0_0 x30_2).f3).length c291_3, .int .i64 ((rd_T68 l0_0 x30_2).f4)], .agg #[.int .i64 ((rd_T68 l1_0 x30_2).f0), .slice A292_1 ((rd_T68 l1_0 x30_2).f1).length c292_1, .slice A292_2 ((rd_T68 l1_0 x30_2).f2).length c292_2, .slice A292_3 ((rd_T68 l1_0 x30_2).f3).length c292_3, .int .i64 ((rd_T68 l1_0 x30_2).f4)]] (by rfl) rfl rfl mT ?_
           with_reducible refine (impl_EqualTasks.calls k2 ((rd_T68 l0_0 x30_2).f0) _ _ ((rd_T68 l0_0 x30_2).f1) _ _ ((rd_T68 l0_0 x30_2).f2) _ _ ((rd_T68 l0_0 x30_2).f3) ((rd_T68 l0_0 x30_2).f4) ((rd_T68 l1_0 x30_2).f0) _ _ ((rd_T68 l1_0 x30_2).f1) _ _ ((rd_T68 l1_0 x30_2).f2) _ _ ((rd_T68 l1_0 x30_2).f3) ((rd_T68 l1_0 x30_2).f4) true _ ?side1 ?side2 ?side3 ?side4 ?side5 ?side6 ?side7 ?side8 ?side9 ?side10 ?side11 ?side12 A24.out).mono ?_
           (case side1 => exact cT (Kd.C_below HR291_1.out HB.out))
           (case side2 => exact HC291_1.out)
           (case side3 => exact cT (Kd.C_below HR291_2.out HB.out))
           (case side4 => exact HC291_2.out)
           (case side5 => exact cT (Kd.C_below HR291_3.out HB.out))
           (case side6 => exact HC291_3.out)
           (case side7 => exact cT (Kd.C_below HR292_1.out HB.out))
           (case side8 => exact HC292_1.out)
           (case side9 => exact cT (Kd.C_below HR292_2.out HB.out))
           (case side10 => exact HC292_2.out)
           (case side11 => exact cT (Kd.C_below HR292_3.out HB.out))
           (case side12 => exact HC292_3.out)
           rintro e w27 ⟨rfl, hb⟩
           refine ⟨_, rfl, ?_⟩
           replace BK289 := kB BK289 hb
           replace BK290 := kB BK290 hb
           replace HB := mA (below_step (bT2 HB GE289 GE290) hb)
           (try clear hb)
           (try clear hb2)
           (try clear hk)
           (try clear hi)
           refine hK.out _ _ ⟨(blk_cell BK289.out 0).trans rfl, (blk_cell BK289.out 1).trans rfl, (blk_cell BK289.out 2).trans rfl, (blk_cell BK290.out 0).trans rfl, (blk_cell BK290.out 1).trans rfl, (blk_cell BK290.out 2).trans rfl, ((HB.out.cell (World.block_lt_of_cell? w _ hw291_0)).trans hw291_0), ((HB.out.cell (World.block_lt_of_cell? w _ hw291_1)).trans hw291_1), ((HB.out.cell (World.block_lt_of_cell? w _ hw291_2)).trans hw291_2), ((HB.out.cell (World.block_lt_of_cell? w _ hw291_3)).trans hw291_3), ((HB.out.cell (World.block_lt_of_cell? w _ hw291_4)).trans hw291_4), ((HB.out.cell (World.block_lt_of_cell? w _ hw292_0)).trans hw292_0), ((HB.out.cell (World.block_lt_of_cell? w _ hw292_1)).trans hw292_1), ((HB.out.cell (World.block_lt_of_cell? w _ hw292_2)).trans hw292_2), ((HB.out.cell (World.block_lt_of_cell? w _ hw292_3)).trans hw292_3), ((HB.out.cell (World.block_lt_of_cell? w _ hw292_4)).trans hw292_4)⟩ (fun hHeld => ?_)
           clear hK K
           refine norm_ (a' := ?_) ?_ ?_
           rotate_left
           ·
            show Act.put _ (some 43) _ = _
            simp only [Act.put, List.setIfInBounds_toArray, List.set_cons_zero, List.set_cons_succ, i64_w, i32_w]
            rfl
           refine pureT (i := 11) (N := some 44) #[true, true, true, true, true, true, true, true, true, true, true, true] (any_of HT_.out (by kernel_rfl)) ?_
           refine done_ (done_of HT_.out (by kernel_rfl)) ?_
           try go_wp2
           go_roundg k2
           case measure => have := HJ2.out; have := HK2.out; omega
           case rel => exact ⟨(wrap64 (x30_2 + 1)), sT, H', ⟨by have := HJ2.out; have := HK2.out; omega⟩, ⟨kT BK289⟩, ⟨kT BK290⟩, ⟨bT2 HB GE289 GE290⟩⟩
          ·
           replace c25 := Bool.eq_false_iff.mpr c25
           subst c25
           rw [if_neg (show ¬ (false = true) by decide)] at H
           obtain rfl := Option.some.inj H
           try go_wp2
           replace BK289 := mA (blk_drew BK289.out)
           replace BK290 := mA (blk_drew BK290.out)
           replace HB := mA (below_drew1 HB.out)
           have p291 : 0 ≤ (x30_2 : Int) := of_decide_eq_true aT
           have q291 : x30_2 < (l0_0.length : Int) := of_decide_eq_true aT
           obtain ⟨ad291, A291_1, c291_1, A291_2, c291_2, A291_3, c291_3, e291, hx291_0, hx291_1, hx291_2, hx291_3, hx291_4, hl291_1, hi291_1, hl291_2, hi291_2, hl291_3, hi291_3⟩ := at_T68 HR0_0.out x30_2 p291 q291
           have hw291_4 := hx291_4
           have hw291_3 := hx291_3
           have hw291_2 := hx291_2
           have hw291_1 := hx291_1
           have hw291_0 := hx291_0
           cases e291
           replace hx291_0 := (HB.out.cell (World.block_lt_of_cell? w _ hx291_0)).trans hx291_0
           replace hx291_1 := (HB.out.cell (World.block_lt_of_cell? w _ hx291_1)).trans hx291_1
           replace hx291_2 := (HB.out.cell (World.block_lt_of_cell? w _ hx291_2)).trans hx291_2
           replace hx291_3 := (HB.out.cell (World.block_lt_of_cell? w _ hx291_3)).trans hx291_3
           replace hx291_4 := (HB.out.cell (World.block_lt_of_cell? w _ hx291_4)).trans hx291_4
           have HR291_1 := mA hi291_1
           have HC291_1 := mA hl291_1
           clear hi291_1 hl291_1
           have HR291_2 := mA hi291_2
           have HC291_2 := mA hl291_2
           clear hi291_2 hl291_2
           have HR291_3 := mA hi291_3
           have HC291_3 := mA hl291_3
           clear hi291_3 hl291_3
           replace p291 := eq_true p291
           replace q291 := eq_true q291
           have p292 : 0 ≤ (x30_2 : Int) := of_decide_eq_true aT
           have q292 : x30_2 < (l1_0.length : Int) := of_decide_eq_true aT
           obtain ⟨ad292, A292_1, c292_1, A292_2, c292_2, A292_3, c292_3, e292, hx292_0, hx292_1, hx292_2, hx292_3, hx292_4, hl292_1, hi292_1, hl292_2, hi292_2, hl292_3, hi292_3⟩ := at_T68 HR1_0.out x30_2 p292 q292
           have hw292_4 := hx292_4
           have hw292_3 := hx292_3
           have hw292_2 := hx292_2
           have hw292_1 := hx292_1
           have hw292_0 := hx292_0
           cases e292
           replace hx292_0 := (HB.out.cell (World.block_lt_of_cell? w _ hx292_0)).trans hx292_0
           replace hx292_1 := (HB.out.cell (World.block_lt_of_cell? w _ hx292_1)).trans hx292_1
           replace hx292_2 := (HB.out.cell (World.block_lt_of_cell? w _ hx292_2)).trans hx292_2
           replace hx292_3 := (HB.out.cell (World.block_lt_of_cell? w _ hx292_3)).trans hx292_3
           replace hx292_4 := (HB.out.cell (World.block_lt_of_cell? w _ hx292_4)).trans hx292_4
           have HR292_1 := mA hi292_1
           have HC292_1 := mA hl292_1
           clear hi292_1 hl292_1
           have HR292_2 := mA hi292_2
           have HC292_2 := mA hl292_2
           clear hi292_2 hl292_2
           have HR292_3 := mA hi292_3
           have HC292_3 := mA hl292_3
           clear hi292_3 hl292_3
           replace p292 := eq_true p292
           replace q292 := eq_true q292
           refine start_ (n := 12) (S := fun w' => w'.cell? ⟨gb289, 0, none⟩ = some (.slice (some ad291) l0_0.length c0_0) ∧ w'.cell? ⟨gb289, 1, none⟩ = some (.int .i64 a0_1) ∧ w'.cell? ⟨gb289, 2, none⟩ = some (.int .i64 a0_2) ∧ w'.cell? ⟨gb290, 0, none⟩ = some (.slice (some ad292) l1_0.length c1_0) ∧ w'.cell? ⟨gb290, 1, none⟩ = some (.int .i64 a1_1) ∧ w'.cell? ⟨gb290, 2, none⟩ = some (.int .i64 a1_2) ∧ w'.cell? (ad291.add ((x30_2).toNat * 5)) = some (.int .i64 ((rd_T68 l0_0 x30_2).f0)) ∧ w'.cell? ⟨(ad291.add ((x30_2).toNat * 5)).block, (ad291.add ((x30_2).toNat * 5)).off + 1, none⟩ = some (.slice A291_1 ((rd_T68 l0_0 x30_2).f1).length c291_1) ∧ w'.cell? ⟨(ad291.add ((x30_2).toNat * 5)).block, (ad291.add ((x30_2).toNat * 5)).off + 2, none⟩ = some (.slice A291_2 ((rd_T68 l0_0 x30_2).f2).length c291_2) ∧ w'.cell? ⟨(ad291.add ((x30_2).toNat * 5)).block, (ad291.add ((x30_2).toNat * 5)).off + 3, none⟩ = some (.slice A291_3 ((rd_T68 l0_0 x30_2).f3).length c291_3) ∧ w'.cell? ⟨(ad291.add ((x30_2).toNat * 5)).block, (ad291.add ((x30_2).toNat * 5)).off + 4, none⟩ = some (.int .i64 ((rd_T68 l0_0 x30_2).f4)) ∧ w'.cell? (ad292.add ((x30_2).toNat * 5)) = some (.int .i64 ((rd_T68 l1_0 x30_2).f0)) ∧ w'.cell? ⟨(ad292.add ((x30_2).toNat * 5)).block, (ad292.add ((x30_2).toNat * 5)).off + 1, none⟩ = some (.slice A292_1 ((rd_T68 l1_0 x30_2).f1).length c292_1) ∧ w'.cell? ⟨(ad292.add ((x30_2).toNat * 5)).block, (ad292.add ((x30_2).toNat * 5)).off + 2, none⟩ = some (.slice A292_2 ((rd_T68 l1_0 x30_2).f2).length c292_2) ∧ w'.cell? ⟨(ad292.add ((x30_2).toNat * 5)).block, (ad292.add ((x30_2).toNat * 5)).off + 3, none⟩ = some (.slice A292_3 ((rd_T68 l1_0 x30_2).f3).length c292_3) ∧ w'.cell? ⟨(ad292.add ((x30_2).toNat * 5)).block, (ad292.add ((x30_2).toNat * 5)).off + 4, none⟩ = some (.int .i64 ((rd_T68 l1_0 x30_2).f4))) (ds := []) #[false, false, false, false, false, false, false, false, false, false, false, false] (by kernel_rfl) rfl rfl ⟨(blk_cell BK289.out 0).trans rfl, (blk_cell BK289.out 1).trans rfl, (blk_cell BK289.out 2).trans rfl, (blk_cell BK290.out 0).trans rfl, (blk_cell BK290.out 1).trans rfl, (blk_cell BK290.out 2).trans rfl, ((HB.out.cell (World.block_lt_of_cell? w _ hw291_0)).trans hw291_0), ((HB.out.cell (World.block_lt_of_cell? w _ hw291_1)).trans hw291_1), ((HB.out.cell (World.block_lt_of_cell? w _ hw291_2)).trans hw291_2), ((HB.out.cell (World.block_lt_of_cell? w _ hw291_3)).trans hw291_3), ((HB.out.cell (World.block_lt_of_cell? w _ hw291_4)).trans hw291_4), ((HB.out.cell (World.block_lt_of_cell? w _ hw292_0)).trans hw292_0), ((HB.out.cell (World.block_lt_of_cell? w _ hw292_1)).trans hw292_1), ((HB.out.cell (World.block_lt_of_cell? w _ hw292_2)).trans hw292_2), ((HB.out.cell (World.block_lt_of_cell? w _ hw292_3)).trans hw292_3), ((HB.out.cell (World.block_lt_of_cell? w _ hw292_4)).trans hw292_4)⟩ (fun hHeld => ?_); refine with_tabW impl_EqualJoiners.tab6 impl_EqualJoiners.bits6 (fun HT_ HW_ => ?_)
           generalize wr.drew = w28 at BK289 BK290 HB HR291_1 HR291_2 HR291_3 HR292_1 HR292_2 HR292_3 hx291_0 hx291_1 hx291_2 hx291_3 hx291_4 hx292_0 hx292_1 hx292_2 hx292_3 hx292_4 hHeld ⊢
           refine pureT (i := 0) (N := some 33) #[true, false, false, false, false, false, false, false, false, false, false, false] (any_of HT_.out (by kernel_rfl)) ?_
           refine pureT (i := 2) (N := some 35) #[true, false, true, false, false, false, false, false, false, false, false, false] (any_of HT_.out (by kernel_rfl)) ?_
           refine pureT (i := 5) (N := some 38) #[true, false, true, false, false, true, false, false, false, false, false, false] (any_of HT_.out (by kernel_rfl)) ?_
           refine pureT (i := 7) (N := some 40) #[true, false, true, false, false, true, false, true, false, false, false, false] (any_of HT_.out (by kernel_rfl)) ?_
           refine take_ (i := 1) (N := some 34) (v := ?_) (a' := ?_) #[true, true, true, false, false, true, false, true, false, false, false, false] rfl rfl (take_ofW HT_.out HW_.out (by kernel_rfl)) (fun _ _ _ h => h) (Or.inl ⟨by rfl, ?_⟩) hHeld ?_ ?_
           rotate_left
           ·
            rintro w' ⟨s0, s1, s2, s3, s4, s5, s6, s7, s8, s9, s10, s11, s12, s13, s14, s15⟩
            go_simp
            with_reducible rfl
           rotate_left
           ·
            simp only [Act.put, List.setIfInBounds_toArray, List.set_cons_zero, List.set_cons_succ, i64_w, i32_w]
            rfl
           refine pureT (i := 3) (N := some 36) #[true, true, true, true, false, true, false, true, false, false, false, false] (any_of HT_.out (by kernel_rfl)) ?_
           refine take_ (i := 4) (N := some 37) (v := ?_) (a' := ?_) #[true, true, true, true, true, true, false, true, false, false, false, false] rfl rfl (take_ofW HT_.out HW_.out (by kernel_rfl)) (fun _ _ _ h => h) (Or.inl ⟨by rfl, ?_⟩) hHeld ?_ ?_
           rotate_left
           ·
            rintro w' ⟨s0, s1, s2, s3, s4, s5, s6, s7, s8, s9, s10, s11, s12, s13, s14, s15⟩
            go_simp
            with_reducible rfl
           rotate_left
           ·
            simp only [Act.put, List.setIfInBounds_toArray, List.set_cons_zero, List.set_cons_succ, i64_w, i32_w]
            rfl
           refine take_ (i := 6) (N := some 39) (v := ?_) (a' := ?_) #[true, true, true, true, true, true, true, true, false, false, false, false] rfl rfl (take_ofW HT_.out HW_.out (by kernel_rfl)) (fun _ _ _ h => h) (Or.inl ⟨by rfl, ?_⟩) hHeld ?_ ?_
           rotate_left
           ·
            rintro w' ⟨s0, s1, s2, s3, s4, s5, s6, s7, s8, s9, s10, s11, s12, s13, s14, s15⟩
            go_simp
            with_reducible rfl
           rotate_left
           ·
            simp only [Act.put, List.setIfInBounds_toArray, List.set_cons_zero, List.set_cons_succ, i64_w, i32_w]
            rfl
           refine pureT (i := 8) (N := some 41) #[true, true, true, true, true, true, true, true, true, false, false, false] (any_of HT_.out (by kernel_rfl)) ?_
           refine take_ (i := 9) (N := some 42) (v := ?_) (a' := ?_) #[true, true, true, true, true, true, true, true, true, true, false, false] rfl rfl (take_ofW HT_.out HW_.out (by kernel_rfl)) (fun _ _ _ h => h) (Or.inl ⟨by rfl, ?_⟩) hHeld ?_ ?_
           rotate_left
           ·
            rintro w' ⟨s0, s1, s2, s3, s4, s5, s6, s7, s8, s9, s10, s11, s12, s13, s14, s15⟩
            go_simp
            with_reducible rfl
           rotate_left
           ·
            simp only [Act.put, List.setIfInBounds_toArray, List.set_cons_zero, List.set_cons_succ, i64_w, i32_w]
            rfl
           refine one_ (i := 10) (N := some 43) #[true, true, true, true, true, true, true, true, true, true, true, false] rfl rfl (one_of HT_.out (by kernel_rfl)) (by decide) (fun K hK => ?_)
           refine goes_ Try.func50 (by kernel_rfl) rfl #[.agg #[.int .i64 ((rd_T68 l0_0 x30_2).f0), .slice A291_1 ((rd_T68 l0_0 x30_2).f1).length c291_1, .slice A291_2 ((rd_T68 l0_0 x30_2).f2).length c291_2, .slice A291_3 ((rd_T68 l0_0 x30_2).f3).length c291_3, .int .i64 ((rd_T68 l0_0 x30_2).f4)], .agg #[.int .i64 ((rd_T68 l1_0 x30_2).f0), .slice A292_1 ((rd_T68 l1_0 x30_2).f1).length c292_1, .slice A292_2 ((rd_T68 l1_0 x30_2).f2).length c292_2, .slice A292_3 ((rd_T68 l1_0 x30_2).f3).length c292_3, .int .i64 ((rd_T68 l1_0 x30_2).f4)]] (by rfl) rfl rfl mT ?_
           with_reducible refine (impl_EqualTasks.calls k2 ((rd_T68 l0_0 x30_2).f0) _ _ ((rd_T68 l0_0 x30_2).f1) _ _ ((rd_T68 l0_0 x30_2).f2) _ _ ((rd_T68 l0_0 x30_2).f3) ((rd_T68 l0_0 x30_2).f4) ((rd_T68 l1_0 x30_2).f0) _ _ ((rd_T68 l1_0 x30_2).f1) _ _ ((rd_T68 l1_0 x30_2).f2) _ _ ((rd_T68 l1_0 x30_2).f3) ((rd_T68 l1_0 x30_2).f4) false _ ?side1 ?side2 ?side3 ?side4 ?side5 ?side6 ?side7 ?side8 ?side9 ?side10 ?side11 ?side12 A24.out).mono ?_
           (case side1 => exact cT (Kd.C_below HR291_1.out HB.out))
           (case side2 => exact HC291_1.out)
           (case side3 => exact cT (Kd.C_below HR291_2.out HB.out))
           (case side4 => exact HC291_2.out)
           (case side5 => exact cT (Kd.C_below HR291_3.out HB.out))
           (case side6 => exact HC291_3.out)
           (case side7 => exact cT (Kd.C_below HR292_1.out HB.out))
           (case side8 => exact HC292_1.out)
           (case side9 => exact cT (Kd.C_below HR292_2.out HB.out))
           (case side10 => exact HC292_2.out)
           (case side11 => exact cT (Kd.C_below HR292_3.out HB.out))
           (case side12 => exact HC292_3.out)
           rintro e w29 ⟨rfl, hb⟩
           refine ⟨_, rfl, ?_⟩
           replace BK289 := kB BK289 hb
           replace BK290 := kB BK290 hb
           replace HB := mA (below_step (bT2 HB GE289 GE290) hb)
           (try clear hb)
           (try clear hb2)
           (try clear hk)
           (try clear hi)
           refine hK.out _ _ ⟨(blk_cell BK289.out 0).trans rfl, (blk_cell BK289.out 1).trans rfl, (blk_cell BK289.out 2).trans rfl, (blk_cell BK290.out 0).trans rfl, (blk_cell BK290.out 1).trans rfl, (blk_cell BK290.out 2).trans rfl, ((HB.out.cell (World.block_lt_of_cell? w _ hw291_0)).trans hw291_0), ((HB.out.cell (World.block_lt_of_cell? w _ hw291_1)).trans hw291_1), ((HB.out.cell (World.block_lt_of_cell? w _ hw291_2)).trans hw291_2), ((HB.out.cell (World.block_lt_of_cell? w _ hw291_3)).trans hw291_3), ((HB.out.cell (World.block_lt_of_cell? w _ hw291_4)).trans hw291_4), ((HB.out.cell (World.block_lt_of_cell? w _ hw292_0)).trans hw292_0), ((HB.out.cell (World.block_lt_of_cell? w _ hw292_1)).trans hw292_1), ((HB.out.cell (World.block_lt_of_cell? w _ hw292_2)).trans hw292_2), ((HB.out.cell (World.block_lt_of_cell? w _ hw292_3)).trans hw292_3), ((HB.out.cell (World.block_lt_of_cell? w _ hw292_4)).trans hw292_4)⟩ (fun hHeld => ?_)
           clear hK K
           refine norm_ (a' := ?_) ?_ ?_
           rotate_left
           ·
            show Act.put _ (some 43) _ = _
            simp only [Act.put, List.setIfInBounds_toArray, List.set_cons_zero, List.set_cons_succ, i64_w, i32_w]
            rfl
           refine pureT (i := 11) (N := some 44) #[true, true, true, true, true, true, true, true, true, true, true, true] (any_of HT_.out (by kernel_rfl)) ?_
           refine done_ (done_of HT_.out (by kernel_rfl)) ?_
           try go_wp2
           go_ret
           exact ⟨eT, bT2 HB GE289 GE290⟩
         ·
          rw [if_neg c23] at H
          exact absurd H (by simp)
        ·
         rw [if_neg c22] at H
         exact absurd H (by simp)
       ·
        rw [if_neg c21] at H
        exact absurd H (by simp)
      ·
       rw [if_neg c20] at H
       have c20b0 : decide (x30_2 < (l0_0.length : Int)) = false := decide_eq_false c20
       clear c20
       obtain rfl := Option.some.inj H
       go_wp2
       go_ret
       exact ⟨eT, bT2 HB GE289 GE290⟩

/-! ### laws_FnExactEqualJoiners: function 5 -/
def laws_FnExactEqualJoiners.f (k : Nat) (l0_0 : List (S102)) (a0_1 : Int) (a0_2 : Int) (l1_0 : List (S102)) (a1_1 : Int) (a1_2 : Int) : Option (Bool) := (laws_szJoiner.f k l0_0 a0_1 a0_2 1048576).bind fun t296 => (if t296 < 0 then (some true) else ((laws_szJoiner.f k l1_0 a1_1 a1_2 t296).bind fun t297 => (if t297 < 0 then (some true) else ((laws_toJoiner.f k l0_0 a0_1 a0_2).bind fun bt298 => ((laws_toJoiner.f k l1_0 a1_1 a1_2).bind fun bt303 => ((spec_EqualJoiners.f k bt298.1 bt298.2.1 bt298.2.2 bt303.1 bt303.2.1 bt303.2.2).bind fun t308 => ((laws_toJoiner.f k l0_0 a0_1 a0_2).bind fun bt309 => ((laws_toJoiner.f k l1_0 a1_1 a1_2).bind fun bt315 => ((impl_EqualJoiners.f k bt309.1 bt309.2.1 bt309.2.2 bt315.1 bt315.2.1 bt315.2.2).bind fun t321 => (if (t321 != t308) = true then (some false) else ((laws_toJoiner.f k l0_0 a0_1 a0_2).bind fun bt322 => ((laws_eqJoiner.f k bt309.1 bt309.2.1 bt309.2.2 bt322.1 bt322.2.1 bt322.2.2).bind fun t327 => (if t327 = true then ((laws_toJoiner.f k l1_0 a1_1 a1_2).bind fun bt328 => ((laws_eqJoiner.f k bt315.1 bt315.2.1 bt315.2.2 bt328.1 bt328.2.1 bt328.2.2).bind fun t333 => (if t333 = true then (some true) else (some false)))) else (some false))))))))))))))
theorem laws_FnExactEqualJoiners.mono : ∀ a0 a1 a2 a3 a4 a5 k, LeO (laws_FnExactEqualJoiners.f k a0 a1 a2 a3 a4 a5) (laws_FnExactEqualJoiners.f (k + 1) a0 a1 a2 a3 a4 a5) := by
 intro a0 a1 a2 a3 a4 a5 k
 unfold laws_FnExactEqualJoiners.f
 repeat' first
   | (with_reducible exact impl_EqualJoiners.mono _ _ _ _ _ _ _)
   | (with_reducible exact laws_eqJoiner.mono _ _ _ _ _ _ _)
   | (with_reducible exact laws_szJoiner.mono _ _ _ _ _)
   | (with_reducible exact laws_toJoiner.mono _ _ _ _)
   | (with_reducible exact spec_EqualJoiners.mono _ _ _ _ _ _ _)
   | (with_reducible exact LeO.refl _)
   | (with_reducible exact LeO.none _)
   | (with_reducible refine LeO.ite ?_ ?_)
   | (with_reducible refine LeO.bind ?_ (fun _ => ?_))
   | exact impl_EqualJoiners.mono _ _ _ _ _ _ _
   | exact laws_eqJoiner.mono _ _ _ _ _ _ _
   | exact laws_szJoiner.mono _ _ _ _ _
   | exact laws_toJoiner.mono _ _ _ _
   | exact spec_EqualJoiners.mono _ _ _ _ _ _ _
   | exact LeO.none _
   | refine LeO.ite ?_ ?_
   | refine LeO.bind ?_ (fun _ => ?_)
set_option maxHeartbeats 8000000 in
set_option maxRecDepth 100000 in
theorem laws_FnExactEqualJoiners.calls (k : Nat) (A0_0 : Option Addr) (c0_0 : Nat) (l0_0 : List (S102)) (a0_1 : Int) (a0_2 : Int) (A1_0 : Option Addr) (c1_0 : Nat) (l1_0 : List (S102)) (a1_1 : Int) (a1_2 : Int) (r : Bool) (w : World) (hr0_0 : Kd.C k102 w A0_0 l0_0.length l0_0) (hc0_0 : l0_0.length ≤ c0_0) (hr1_0 : Kd.C k102 w A1_0 l1_0.length l1_0) (hc1_0 : l1_0.length ≤ c1_0) (ht : r = true) (h : laws_FnExactEqualJoiners.f k l0_0 a0_1 a0_2 l1_0 a1_1 a1_2 = some r) :
  Calls Try.prog 5 #[.agg #[.slice A0_0 l0_0.length c0_0, .int .i64 a0_1, .int .i64 a0_2], .agg #[.slice A1_0 l1_0.length c1_0, .int .i64 a1_1, .int .i64 a1_2]] w fun e w' => e = .returned (.bool r) ∧ Below w.heap.size w w' := by
 have hu24 := Try.underlying24
 have hu29 := Try.underlying29
 have HR0_0 := mA hr0_0
 have HC0_0 := mA hc0_0
 clear hr0_0 hc0_0
 have HR1_0 := mA hr1_0
 have HC1_0 := mA hc1_0
 clear hr1_0 hc1_0
 have HB := mA (Below.refl w.heap.size w)
 have HT := mA ht
 clear ht
 have H : ((laws_szJoiner.f k l0_0 a0_1 a0_2 1048576).bind fun t296 => (if t296 < 0 then (some true) else ((laws_szJoiner.f k l1_0 a1_1 a1_2 t296).bind fun t297 => (if t297 < 0 then (some true) else ((laws_toJoiner.f k l0_0 a0_1 a0_2).bind fun bt298 => ((laws_toJoiner.f k l1_0 a1_1 a1_2).bind fun bt303 => ((spec_EqualJoiners.f k bt298.1 bt298.2.1 bt298.2.2 bt303.1 bt303.2.1 bt303.2.2).bind fun t308 => ((laws_toJoiner.f k l0_0 a0_1 a0_2).bind fun bt309 => ((laws_toJoiner.f k l1_0 a1_1 a1_2).bind fun bt315 => ((impl_EqualJoiners.f k bt309.1 bt309.2.1 bt309.2.2 bt315.1 bt315.2.1 bt315.2.2).bind fun t321 => (if (t321 != t308) = true then (some false) else ((laws_toJoiner.f k l0_0 a0_1 a0_2).bind fun bt322 => ((laws_eqJoiner.f k bt309.1 bt309.2.1 bt309.2.2 bt322.1 bt322.2.1 bt322.2.2).bind fun t327 => (if t327 = true then ((laws_toJoiner.f k l1_0 a1_1 a1_2).bind fun bt328 => ((laws_eqJoiner.f k bt315.1 bt315.2.1 bt315.2.2 bt328.1 bt328.2.1 bt328.2.2).bind fun t333 => (if t333 = true then (some true) else (some false)))) else (some false))))))))))))))) = some r := h
 clear h
 obtain ⟨t296, A3, H⟩ := Option.bind_eq_some_iff.mp H
 replace A3 := mA A3
 try dsimp only at H
 by_cases c4 : t296 < 0
 ·
  rw [if_pos c4] at H
  have c4b0 : decide (t296 < 0) = true := decide_eq_true c4
  clear c4
  obtain rfl := Option.some.inj H
  go_enter Try.func5, Try.ntmps5
  go_wp2_with (first | ((with_reducible refine gate_dst (N := 2) rfl ?_); refine boxT 2 #[.slice A0_0 l0_0.length c0_0, .int .i64 a0_1, .int .i64 a0_2] 24 ?_; intro gb294 hg w5 hbox hb; have BK294 := mA (hbox); have GW294 := mA ((by rw [hg]; exact (below_size (bT HB)) : w.heap.size ≤ gb294)); have GE294 := GW294; replace HB := mA (below_step (bT HB) hb); clear hb hbox hg) | ((with_reducible refine gate_dst (N := 3) rfl ?_); refine boxT 3 #[.slice A1_0 l1_0.length c1_0, .int .i64 a1_1, .int .i64 a1_2] 24 ?_; intro gb295 hg w6 hbox hb; have GW295 := mA ((by rw [hg]; exact (below_size (bT1 HB GE294)) : w.heap.size ≤ gb295)); have GE295 := GW295; replace HB := mA (below_step (bT1 HB GE294) hb); have NB294_295 : Aside0 (gb294 ≠ gb295) := nL BK294 hg; have NB295_294 : Aside0 (gb295 ≠ gb294) := nG BK294 hg; replace BK294 := kB BK294 hb; clear hb hbox hg; have hnb7 := NB294_295.out; have hnc7 := NB295_294.out; obtain ⟨hcz8_0, hcz8_1, hcz8_2, hfz8_0, hfz8_1, hfz8_2⟩ := blk3 BK294.out) | ((with_reducible refine gate_callee (f := 10) rfl ?_); refine goesT (some 12) Try.func10 #[.agg #[.slice A0_0 l0_0.length c0_0, .int .i64 a0_1, .int .i64 a0_2], .int .i64 1048576] ?_; (with_reducible refine (laws_szJoiner.calls k _ _ l0_0 a0_1 a0_2 1048576 t296 _ ?side1 ?side2 A3.out).mono ?_); (case side1 => exact cT (Kd.C_below HR0_0.out HB.out)); (case side2 => exact HC0_0.out); rintro e w9 ⟨rfl, hb⟩; refine ⟨_, rfl, ?_⟩; replace HB := mA (below_step (bT2 HB GE294 GE295) hb); (try clear hb)))
  go_ret
  exact ⟨eT, bT2 HB GE294 GE295⟩
 ·
  rw [if_neg c4] at H
  have c4b0 : decide (t296 < 0) = false := decide_eq_false c4
  clear c4
  obtain ⟨t297, A10, H⟩ := Option.bind_eq_some_iff.mp H
  replace A10 := mA A10
  try dsimp only at H
  by_cases c11 : t297 < 0
  ·
   rw [if_pos c11] at H
   have c11b0 : decide (t297 < 0) = true := decide_eq_true c11
   clear c11
   obtain rfl := Option.some.inj H
   go_enter Try.func5, Try.ntmps5
   go_wp2_with (first | ((with_reducible refine gate_dst (N := 2) rfl ?_); refine boxT 2 #[.slice A0_0 l0_0.length c0_0, .int .i64 a0_1, .int .i64 a0_2] 24 ?_; intro gb294 hg w12 hbox hb; have BK294 := mA (hbox); have GW294 := mA ((by rw [hg]; exact (below_size (bT HB)) : w.heap.size ≤ gb294)); have GE294 := GW294; replace HB := mA (below_step (bT HB) hb); clear hb hbox hg) | ((with_reducible refine gate_dst (N := 3) rfl ?_); refine boxT 3 #[.slice A1_0 l1_0.length c1_0, .int .i64 a1_1, .int .i64 a1_2] 24 ?_; intro gb295 hg w13 hbox hb; have BK295 := mA (hbox); have GW295 := mA ((by rw [hg]; exact (below_size (bT1 HB GE294)) : w.heap.size ≤ gb295)); have GE295 := GW295; replace HB := mA (below_step (bT1 HB GE294) hb); have NB294_295 : Aside0 (gb294 ≠ gb295) := nL BK294 hg; have NB295_294 : Aside0 (gb295 ≠ gb294) := nG BK294 hg; replace BK294 := kB BK294 hb; clear hb hbox hg; have hnb14 := NB294_295.out; have hnc14 := NB295_294.out; obtain ⟨hcz15_0, hcz15_1, hcz15_2, hfz15_0, hfz15_1, hfz15_2⟩ := blk3 BK294.out) | ((with_reducible refine gate_callee (f := 10) rfl ?_); refine goesT (some 12) Try.func10 #[.agg #[.slice A0_0 l0_0.length c0_0, .int .i64 a0_1, .int .i64 a0_2], .int .i64 1048576] ?_; (with_reducible refine (laws_szJoiner.calls k _ _ l0_0 a0_1 a0_2 1048576 t296 _ ?side1 ?side2 A3.out).mono ?_); (case side1 => exact cT (Kd.C_below HR0_0.out HB.out)); (case side2 => exact HC0_0.out); rintro e w16 ⟨rfl, hb⟩; refine ⟨_, rfl, ?_⟩; replace BK295 := kB BK295 hb; replace HB := mA (below_step (bT2 HB GE294 GE295) hb); (try clear hb); obtain ⟨hcz17_0, hcz17_1, hcz17_2, hfz17_0, hfz17_1, hfz17_2⟩ := blk3 BK295.out) | ((with_reducible refine gate_callee (f := 10) rfl ?_); refine goesT (some 17) Try.func10 #[.agg #[.slice A1_0 l1_0.length c1_0, .int .i64 a1_1, .int .i64 a1_2], .int .i64 t296] ?_; (with_reducible refine (laws_szJoiner.calls k _ _ l1_0 a1_1 a1_2 t296 t297 _ ?side1 ?side2 A10.out).mono ?_); (case side1 => exact cT (Kd.C_below HR1_0.out HB.out)); (case side2 => exact HC1_0.out); rintro e w18 ⟨rfl, hb⟩; refine ⟨_, rfl, ?_⟩; replace HB := mA (below_step (bT2 HB GE294 GE295) hb); (try clear hb)))
   go_ret
   exact ⟨eT, bT2 HB GE294 GE295⟩
  ·
   rw [if_neg c11] at H
   have c11b0 : decide (t297 < 0) = false := decide_eq_false c11
   clear c11
   obtain ⟨⟨t298, t301, t302⟩, A19, H⟩ := Option.bind_eq_some_iff.mp H
   replace A19 := mA A19
   try dsimp only at H
   obtain ⟨⟨t303, t306, t307⟩, A20, H⟩ := Option.bind_eq_some_iff.mp H
   replace A20 := mA A20
   try dsimp only at H
   obtain ⟨t308, A21, H⟩ := Option.bind_eq_some_iff.mp H
   replace A21 := mA A21
   try dsimp only at H
   obtain ⟨⟨t309, t312, t313⟩, A22, H⟩ := Option.bind_eq_some_iff.mp H
   replace A22 := mA A22
   try dsimp only at H
   obtain ⟨⟨t315, t318, t319⟩, A23, H⟩ := Option.bind_eq_some_iff.mp H
   replace A23 := mA A23
   try dsimp only at H
   obtain ⟨t321, A24, H⟩ := Option.bind_eq_some_iff.mp H
   replace A24 := mA A24
   try dsimp only at H
   by_cases c25 : (t321 != t308) = true
   ·
    rw [if_pos c25] at H
    have c25b0 : (t321 != t308) = true := c25
    (try (have c25b1 : decide (t321 = t308) = false := by simpa using c25))
    (try (have c25b2 : (t321 == t308) = false := by simpa using c25))
    (try (have c25b3 : ¬ (t321 = t308) := by simpa using c25))
    clear c25
    exact absurd ((Option.some.inj H).trans HT.out) (by simp)
   ·
    rw [if_neg c25] at H
    have c25b0 : (t321 != t308) = false := by simpa using c25
    (try (have c25b1 : decide (t321 = t308) = true := by simpa using c25))
    (try (have c25b2 : (t321 == t308) = true := by simpa using c25))
    clear c25
    obtain ⟨⟨t322, t325, t326⟩, A26, H⟩ := Option.bind_eq_some_iff.mp H
    replace A26 := mA A26
    try dsimp only at H
    obtain ⟨t327, A27, H⟩ := Option.bind_eq_some_iff.mp H
    replace A27 := mA A27
    try dsimp only at H
    by_cases c28 : t327 = true
    ·
     subst c28
     rw [if_pos rfl] at H
     obtain ⟨⟨t328, t331, t332⟩, A29, H⟩ := Option.bind_eq_some_iff.mp H
     replace A29 := mA A29
     try dsimp only at H
     obtain ⟨t333, A30, H⟩ := Option.bind_eq_some_iff.mp H
     replace A30 := mA A30
     replace H : (if t333 = true then (some true) else (some false)) = some r := H
     by_cases c31 : t333 = true
     ·
      subst c31
      rw [if_pos rfl] at H
      obtain rfl := Option.some.inj H
      go_enter Try.func5, Try.ntmps5
      try go_wp2_with (first | ((with_reducible refine gate_dst (N := 2) rfl ?_); refine boxT 2 #[.slice A0_0 l0_0.length c0_0, .int .i64 a0_1, .int .i64 a0_2] 24 ?_; intro gb294 hg w32 hbox hb; have BK294 := mA (hbox); have GW294 := mA ((by rw [hg]; exact (below_size (bT HB)) : w.heap.size ≤ gb294)); have GE294 := GW294; replace HB := mA (below_step (bT HB) hb); clear hb hbox hg) | ((with_reducible refine gate_dst (N := 3) rfl ?_); refine boxT 3 #[.slice A1_0 l1_0.length c1_0, .int .i64 a1_1, .int .i64 a1_2] 24 ?_; intro gb295 hg w33 hbox hb; have BK295 := mA (hbox); have GW295 := mA ((by rw [hg]; exact (below_size (bT1 HB GE294)) : w.heap.size ≤ gb295)); have GE295 := GW295; replace HB := mA (below_step (bT1 HB GE294) hb); have NB294_295 : Aside0 (gb294 ≠ gb295) := nL BK294 hg; have NB295_294 : Aside0 (gb295 ≠ gb294) := nG BK294 hg; replace BK294 := kB BK294 hb; clear hb hbox hg; have hnb34 := NB294_295.out; have hnc34 := NB295_294.out; obtain ⟨hcz35_0, hcz35_1, hcz35_2, hfz35_0, hfz35_1, hfz35_2⟩ := blk3 BK294.out) | ((with_reducible refine gate_callee (f := 10) rfl ?_); refine goesT (some 12) Try.func10 #[.agg #[.slice A0_0 l0_0.length c0_0, .int .i64 a0_1, .int .i64 a0_2], .int .i64 1048576] ?_; (with_reducible refine (laws_szJoiner.calls k _ _ l0_0 a0_1 a0_2 1048576 t296 _ ?side1 ?side2 A3.out).mono ?_); (case side1 => exact cT (Kd.C_below HR0_0.out HB.out)); (case side2 => exact HC0_0.out); rintro e w36 ⟨rfl, hb⟩; refine ⟨_, rfl, ?_⟩; replace BK294 := kB BK294 hb; replace BK295 := kB BK295 hb; replace HB := mA (below_step (bT2 HB GE294 GE295) hb); (try clear hb); obtain ⟨hcz37_0, hcz37_1, hcz37_2, hfz37_0, hfz37_1, hfz37_2⟩ := blk3 BK295.out) | ((with_reducible refine gate_callee (f := 10) rfl ?_); refine goesT (some 17) Try.func10 #[.agg #[.slice A1_0 l1_0.length c1_0, .int .i64 a1_1, .int .i64 a1_2], .int .i64 t296] ?_; (with_reducible refine (laws_szJoiner.calls k _ _ l1_0 a1_1 a1_2 t296 t297 _ ?side1 ?side2 A10.out).mono ?_); (case side1 => exact cT (Kd.C_below HR1_0.out HB.out)); (case side2 => exact HC1_0.out); rintro e w38 ⟨rfl, hb⟩; refine ⟨_, rfl, ?_⟩; replace BK294 := kB BK294 hb; replace BK295 := kB BK295 hb; replace HB := mA (below_step (bT2 HB GE294 GE295) hb); (try clear hb)))
      replace BK294 := mA (blk_drew BK294.out)
      replace BK295 := mA (blk_drew BK295.out)
      replace HB := mA (below_drew1 HB.out)
      refine start_ (n := 6) (S := fun w' => w'.cell? ⟨gb294, 0, none⟩ = some (.slice A0_0 l0_0.length c0_0) ∧ w'.cell? ⟨gb294, 1, none⟩ = some (.int .i64 a0_1) ∧ w'.cell? ⟨gb294, 2, none⟩ = some (.int .i64 a0_2) ∧ w'.cell? ⟨gb295, 0, none⟩ = some (.slice A1_0 l1_0.length c1_0) ∧ w'.cell? ⟨gb295, 1, none⟩ = some (.int .i64 a1_1) ∧ w'.cell? ⟨gb295, 2, none⟩ = some (.int .i64 a1_2)) (ds := []) #[false, false, false, false, false, false] (by kernel_rfl) rfl rfl ⟨(blk_cell BK294.out 0).trans rfl, (blk_cell BK294.out 1).trans rfl, (blk_cell BK294.out 2).trans rfl, (blk_cell BK295.out 0).trans rfl, (blk_cell BK295.out 1).trans rfl, (blk_cell BK295.out 2).trans rfl⟩ (fun hHeld => ?_)
      generalize w38.drew = w39 at BK294 BK295 HB hHeld ⊢
      refine take_ (i := 0) (N := some 20) (v := ?_) (a' := ?_) #[true, false, false, false, false, false] rfl rfl (by kernel_rfl) (fun _ _ _ h => h) (Or.inl ⟨by rfl, ?_⟩) hHeld ?_ ?_
      rotate_left
      ·
       rintro w' ⟨s0, s1, s2, s3, s4, s5⟩
       go_simp
       with_reducible rfl
      rotate_left
      ·
       simp only [Act.put, List.setIfInBounds_toArray, List.set_cons_zero, List.set_cons_succ, i64_w, i32_w]
       rfl
      refine take_ (i := 2) (N := some 22) (v := ?_) (a' := ?_) #[true, false, true, false, false, false] rfl rfl (by kernel_rfl) (fun _ _ _ h => h) (Or.inl ⟨by rfl, ?_⟩) hHeld ?_ ?_
      rotate_left
      ·
       rintro w' ⟨s0, s1, s2, s3, s4, s5⟩
       go_simp
       with_reducible rfl
      rotate_left
      ·
       simp only [Act.put, List.setIfInBounds_toArray, List.set_cons_zero, List.set_cons_succ, i64_w, i32_w]
       rfl
      refine one_ (i := 1) (N := some 21) #[true, true, true, false, false, false] rfl rfl (by kernel_rfl) (by decide) (fun K hK => ?_)
      refine goes_ Try.func12 (by kernel_rfl) rfl #[.agg #[.slice A0_0 l0_0.length c0_0, .int .i64 a0_1, .int .i64 a0_2]] (by rfl) rfl rfl mT ?_
      with_reducible refine (laws_toJoiner.calls k _ _ l0_0 a0_1 a0_2 t298 t301 t302 _ ?side1 ?side2 A19.out).mono ?_
      (case side1 => exact cT (Kd.C_below HR0_0.out HB.out))
      (case side2 => exact HC0_0.out)
      rintro e w40 ⟨v299, rfl, ho0, hb⟩
      refine ⟨_, rfl, ?_⟩
      have HO300 := mA (Kd.S_lower ho0 (below_size (bT2 HB GE294 GE295)))
      replace BK294 := kB BK294 hb
      replace BK295 := kB BK295 hb
      replace HB := mA (below_step (bT2 HB GE294 GE295) hb)
      (try clear hb)
      (try clear hb2)
      (try clear hk)
      (try clear hi)
      (try clear ho0)
      refine hK.out _ _ ⟨(blk_cell BK294.out 0).trans rfl, (blk_cell BK294.out 1).trans rfl, (blk_cell BK294.out 2).trans rfl, (blk_cell BK295.out 0).trans rfl, (blk_cell BK295.out 1).trans rfl, (blk_cell BK295.out 2).trans rfl⟩ (fun hHeld => ?_)
      clear hK K
      refine norm_ (a' := ?_) ?_ ?_
      rotate_left
      ·
       show Act.put _ (some 21) _ = _
       simp only [Act.put, List.setIfInBounds_toArray, List.set_cons_zero, List.set_cons_succ, i64_w, i32_w]
       rfl
      refine one_ (i := 3) (N := some 23) #[true, true, true, true, false, false] rfl rfl (by kernel_rfl) (by decide) (fun K hK => ?_)
      refine goes_ Try.func12 (by kernel_rfl) rfl #[.agg #[.slice A1_0 l1_0.length c1_0, .int .i64 a1_1, .int .i64 a1_2]] (by rfl) rfl rfl mT ?_
      with_reducible refine (laws_toJoiner.calls k _ _ l1_0 a1_1 a1_2 t303 t306 t307 _ ?side1 ?side2 A20.out).mono ?_
      (case side1 => exact cT (Kd.C_below HR1_0.out HB.out))
      (case side2 => exact HC1_0.out)
      rintro e w41 ⟨v304, rfl, ho0, hb⟩
      refine ⟨_, rfl, ?_⟩
      have HO305 := mA (Kd.S_lower (Kd.S_new' ho0 (Kd.S_lt (rTS HO300))) (below_size (bT2 HB GE294 GE295)))
      replace HO300 := mA (Kd.S_elder' (rTS HO300) (Kd.S_base ho0) hb)
      replace BK294 := kB BK294 hb
      replace BK295 := kB BK295 hb
      replace HB := mA (below_step (bT2 HB GE294 GE295) hb)
      (try clear hb)
      (try clear hb2)
      (try clear hk)
      (try clear hi)
      (try clear ho0)
      obtain ⟨Ao42, co42, eo42⟩ := Kd.S_slice HO300.out
      (first | subst eo42 | (injection eo42 with f1_ f2_ f3_; have f4_ := f1_.symm; have f5_ := f3_.symm; clear f1_ f2_ f3_; subst f4_; subst f5_))
      obtain ⟨Ao43, co43, eo43⟩ := Kd.S_slice HO305.out
      (first | subst eo43 | (injection eo43 with f1_ f2_ f3_; have f4_ := f1_.symm; have f5_ := f3_.symm; clear f1_ f2_ f3_; subst f4_; subst f5_))
      refine hK.out _ _ ⟨(blk_cell BK294.out 0).trans rfl, (blk_cell BK294.out 1).trans rfl, (blk_cell BK294.out 2).trans rfl, (blk_cell BK295.out 0).trans rfl, (blk_cell BK295.out 1).trans rfl, (blk_cell BK295.out 2).trans rfl⟩ (fun hHeld => ?_)
      clear hK K
      refine norm_ (a' := ?_) ?_ ?_
      rotate_left
      ·
       show Act.put _ (some 23) _ = _
       simp only [Act.put, List.setIfInBounds_toArray, List.set_cons_zero, List.set_cons_succ, i64_w, i32_w]
       rfl
      refine one_ (i := 4) (N := some 24) #[true, true, true, true, true, false] rfl rfl (by kernel_rfl) (by decide) (fun K hK => ?_)
      refine goes_ Try.func17 (by kernel_rfl) rfl #[.agg #[.slice Ao42 t298.length co42, .int .i64 t301, .int .i64 t302], .agg #[.slice Ao43 t303.length co43, .int .i64 t306, .int .i64 t307]] (by rfl) rfl rfl mT ?_
      with_reducible refine (spec_EqualJoiners.calls k _ _ t298 t301 t302 _ _ t303 t306 t307 t308 _ ?side1 ?side2 ?side3 ?side4 A21.out).mono ?_
      (case side1 => exact cT ((Kd.S_reads' HO300.out).2.2))
      (case side2 => exact (Kd.S_reads' HO300.out).2.1)
      (case side3 => exact cT ((Kd.S_reads' HO305.out).2.2))
      (case side4 => exact (Kd.S_reads' HO305.out).2.1)
      rintro e w44 ⟨rfl, hb⟩
      refine ⟨_, rfl, ?_⟩
      replace HO300 := rBS HO300 hb
      replace HO305 := rBS HO305 hb
      replace BK294 := kB BK294 hb
      replace BK295 := kB BK295 hb
      replace HB := mA (below_step (bT2 HB GE294 GE295) hb)
      (try clear hb)
      (try clear hb2)
      (try clear hk)
      (try clear hi)
      refine hK.out _ _ ⟨(blk_cell BK294.out 0).trans rfl, (blk_cell BK294.out 1).trans rfl, (blk_cell BK294.out 2).trans rfl, (blk_cell BK295.out 0).trans rfl, (blk_cell BK295.out 1).trans rfl, (blk_cell BK295.out 2).trans rfl⟩ (fun hHeld => ?_)
      clear hK K
      refine norm_ (a' := ?_) ?_ ?_
      rotate_left
      ·
       show Act.put _ (some 24) _ = _
       simp only [Act.put, List.setIfInBounds_toArray, List.set_cons_zero, List.set_cons_succ, i64_w, i32_w]
       rfl
      refine pureT (i := 5) (N := some 6) #[true, true, true, true, true, true] (by kernel_rfl) ?_
      refine done_ (by kernel_rfl) ?_
      have hcz45_0 : w44.cell? ⟨gb294, 0, none⟩ = some (.slice A0_0 l0_0.length c0_0) := (blk_cell BK294.out 0).trans rfl
      have hcz45_1 : w44.cell? ⟨gb294, 1, none⟩ = some (.int .i64 a0_1) := (blk_cell BK294.out 1).trans rfl
      have hcz45_2 : w44.cell? ⟨gb294, 2, none⟩ = some (.int .i64 a0_2) := (blk_cell BK294.out 2).trans rfl
      have hfz45_0 := blk_frozen BK294.out 0
      have hfz45_1 := blk_frozen BK294.out 1
      have hfz45_2 := blk_frozen BK294.out 2
      try go_wp2_with (first | ((with_reducible refine gate_callee (f := 12) rfl ?_); refine goesT (some 26) Try.func12 #[.agg #[.slice A0_0 l0_0.length c0_0, .int .i64 a0_1, .int .i64 a0_2]] ?_; (with_reducible refine (laws_toJoiner.calls k _ _ l0_0 a0_1 a0_2 t309 t312 t313 _ ?side1 ?side2 A22.out).mono ?_); (case side1 => exact cT (Kd.C_below HR0_0.out HB.out)); (case side2 => exact HC0_0.out); rintro e w46 ⟨v310, rfl, ho0, hb⟩; refine ⟨_, rfl, ?_⟩; have HO311 := mA (Kd.S_lower (Kd.S_new' (Kd.S_new' ho0 (Kd.S_lt (rTS HO300))) (Kd.S_lt (rTS HO305))) (below_size (bT2 HB GE294 GE295))); replace HO300 := mA (Kd.S_elder' (rTS HO300) (Kd.S_base ho0) hb); replace HO305 := mA (Kd.S_elder' (rTS HO305) (Kd.S_base ho0) hb); replace BK294 := kB BK294 hb; replace BK295 := kB BK295 hb; replace HB := mA (below_step (bT2 HB GE294 GE295) hb); (try clear hb); (try clear hk); (try clear ho0)) | ((with_reducible refine gate_dst (N := 7) rfl ?_); refine boxT 7 #[.slice none 0 0, .int .i64 0, .int .i64 0] 29 ?_; intro gb314 hg w47 hbox hb; replace HO300 := rBS HO300 hb; replace HO305 := rBS HO305 hb; replace HO311 := rBS HO311 hb; have BK314 := mA (hbox); have GW314 := mA ((by rw [hg]; exact (below_size (bT2 HB GE294 GE295)) : w.heap.size ≤ gb314)); have GE314 := GW314; replace HB := mA (below_step (bT2 HB GE294 GE295) hb); have NB294_314 : Aside0 (gb294 ≠ gb314) := nL BK294 hg; have NB314_294 : Aside0 (gb314 ≠ gb294) := nG BK294 hg; replace BK294 := kB BK294 hb; have NB295_314 : Aside0 (gb295 ≠ gb314) := nL BK295 hg; have NB314_295 : Aside0 (gb314 ≠ gb295) := nG BK295 hg; replace BK295 := kB BK295 hb; clear hb hbox hg; obtain ⟨Ao48, co48, eo48⟩ := Kd.S_slice HO311.out; subst eo48; have hnb49 := NB314_294.out; have hnc49 := NB294_314.out; have hnb50 := NB314_295.out; have hnc50 := NB295_314.out; obtain ⟨hcz51_0, hcz51_1, hcz51_2, hfz51_0, hfz51_1, hfz51_2⟩ := blk3 BK314.out; obtain ⟨hcz52_0, hcz52_1, hcz52_2, hfz52_0, hfz52_1, hfz52_2⟩ := blk3 BK295.out) | ((with_reducible refine gate_callee (f := 12) rfl ?_); refine goesT (some 28) Try.func12 #[.agg #[.slice A1_0 l1_0.length c1_0, .int .i64 a1_1, .int .i64 a1_2]] ?_; (with_reducible refine (laws_toJoiner.calls k _ _ l1_0 a1_1 a1_2 t315 t318 t319 _ ?side1 ?side2 A23.out).mono ?_); (case side1 => exact Kd.C_below HR1_0.out (bT3 HB GE294 GE295 GE314)); (case side2 => exact HC1_0.out); rintro e w53 ⟨v316, rfl, ho0, hb⟩; refine ⟨_, rfl, ?_⟩; have HO317 := mA (Kd.S_lower (Kd.S_new' (Kd.S_new' (Kd.S_new' ho0 (Kd.S_lt (by (with_reducible repeat (first | apply Kd.S_alloc | apply Kd.S_drewN | apply Kd.S_drew)); exact (Kd.S_mono (Kd.S_far (p := ⟨gb314, 2, none⟩) (Kd.S_far (p := ⟨gb314, 1, none⟩) (Kd.S_far (p := ⟨gb314, 0, none⟩) (Kd.S_types HO300.out BK314.out (by decide)) (fun _ hk => hk.2) (.slice Ao48 t309.length co48)) (fun _ hk => hk.2) (.int .i64 t312)) (fun _ hk => hk.2) (.int .i64 t313)) (fun _ h_ => h_.1))))) (Kd.S_lt (by (with_reducible repeat (first | apply Kd.S_alloc | apply Kd.S_drewN | apply Kd.S_drew)); exact (Kd.S_mono (Kd.S_far (p := ⟨gb314, 2, none⟩) (Kd.S_far (p := ⟨gb314, 1, none⟩) (Kd.S_far (p := ⟨gb314, 0, none⟩) (Kd.S_types HO305.out BK314.out (by decide)) (fun _ hk => hk.2) (.slice Ao48 t309.length co48)) (fun _ hk => hk.2) (.int .i64 t312)) (fun _ hk => hk.2) (.int .i64 t313)) (fun _ h_ => h_.1))))) (Kd.S_lt (by (with_reducible repeat (first | apply Kd.S_alloc | apply Kd.S_drewN | apply Kd.S_drew)); exact (Kd.S_mono (Kd.S_far (p := ⟨gb314, 2, none⟩) (Kd.S_far (p := ⟨gb314, 1, none⟩) (Kd.S_far (p := ⟨gb314, 0, none⟩) (Kd.S_types HO311.out BK314.out (by decide)) (fun _ hk => hk.2) (.slice Ao48 t309.length co48)) (fun _ hk => hk.2) (.int .i64 t312)) (fun _ hk => hk.2) (.int .i64 t313)) (fun _ h_ => h_.1))))) (below_size (bT3 HB GE294 GE295 GE314))); replace HO300 := mA (Kd.S_elder' (by (with_reducible repeat (first | apply Kd.S_alloc | apply Kd.S_drewN | apply Kd.S_drew)); exact (Kd.S_mono (Kd.S_far (p := ⟨gb314, 2, none⟩) (Kd.S_far (p := ⟨gb314, 1, none⟩) (Kd.S_far (p := ⟨gb314, 0, none⟩) (Kd.S_types HO300.out BK314.out (by decide)) (fun _ hk => hk.2) (.slice Ao48 t309.length co48)) (fun _ hk => hk.2) (.int .i64 t312)) (fun _ hk => hk.2) (.int .i64 t313)) (fun _ h_ => h_.1))) (Kd.S_base ho0) hb); replace HO305 := mA (Kd.S_elder' (by (with_reducible repeat (first | apply Kd.S_alloc | apply Kd.S_drewN | apply Kd.S_drew)); exact (Kd.S_mono (Kd.S_far (p := ⟨gb314, 2, none⟩) (Kd.S_far (p := ⟨gb314, 1, none⟩) (Kd.S_far (p := ⟨gb314, 0, none⟩) (Kd.S_types HO305.out BK314.out (by decide)) (fun _ hk => hk.2) (.slice Ao48 t309.length co48)) (fun _ hk => hk.2) (.int .i64 t312)) (fun _ hk => hk.2) (.int .i64 t313)) (fun _ h_ => h_.1))) (Kd.S_base ho0) hb); replace HO311 := mA (Kd.S_elder' (by (with_reducible repeat (first | apply Kd.S_alloc | apply Kd.S_drewN | apply Kd.S_drew)); exact (Kd.S_mono (Kd.S_far (p := ⟨gb314, 2, none⟩) (Kd.S_far (p := ⟨gb314, 1, none⟩) (Kd.S_far (p := ⟨gb314, 0, none⟩) (Kd.S_types HO311.out BK314.out (by decide)) (fun _ hk => hk.2) (.slice Ao48 t309.length co48)) (fun _ hk => hk.2) (.int .i64 t312)) (fun _ hk => hk.2) (.int .i64 t313)) (fun _ h_ => h_.1))) (Kd.S_base ho0) hb); replace BK294 := mA (blk_below (g := gb294) (o := .cells #[.slice A0_0 l0_0.length c0_0, .int .i64 a0_1, .int .i64 a0_2] 24 (0, 0)) (by (with_reducible repeat (first | refine blk_drewN ?_ _ | refine blk_drew ?_ | refine blk_alloc ?_ _)); refine blk_far ?_ NB294_314.out _; (with_reducible repeat (first | refine blk_drewN ?_ _ | refine blk_drew ?_ | refine blk_alloc ?_ _)); refine blk_far ?_ NB294_314.out _; (with_reducible repeat (first | refine blk_drewN ?_ _ | refine blk_drew ?_ | refine blk_alloc ?_ _)); refine blk_far ?_ NB294_314.out _; (with_reducible repeat (first | refine blk_drewN ?_ _ | refine blk_drew ?_ | refine blk_alloc ?_ _)); exact BK294.out) hb); replace BK295 := mA (blk_below (g := gb295) (o := .cells #[.slice A1_0 l1_0.length c1_0, .int .i64 a1_1, .int .i64 a1_2] 24 (0, 0)) (by (with_reducible repeat (first | refine blk_drewN ?_ _ | refine blk_drew ?_ | refine blk_alloc ?_ _)); refine blk_far ?_ NB295_314.out _; (with_reducible repeat (first | refine blk_drewN ?_ _ | refine blk_drew ?_ | refine blk_alloc ?_ _)); refine blk_far ?_ NB295_314.out _; (with_reducible repeat (first | refine blk_drewN ?_ _ | refine blk_drew ?_ | refine blk_alloc ?_ _)); refine blk_far ?_ NB295_314.out _; (with_reducible repeat (first | refine blk_drewN ?_ _ | refine blk_drew ?_ | refine blk_alloc ?_ _)); exact BK295.out) hb); replace BK314 := mA (blk_below (g := gb314) (o := .cells #[.slice Ao48 t309.length co48, .int .i64 t312, .int .i64 t313] 29 (0, 0)) (by (with_reducible repeat (first | refine blk_drewN ?_ _ | refine blk_drew ?_ | refine blk_alloc ?_ _)); refine blk_put (cs := #[.slice Ao48 t309.length co48, .int .i64 t312, .int .i64 0]) ?_ 2 _ rfl; (with_reducible repeat (first | refine blk_drewN ?_ _ | refine blk_drew ?_ | refine blk_alloc ?_ _)); refine blk_put (cs := #[.slice Ao48 t309.length co48, .int .i64 0, .int .i64 0]) ?_ 1 _ rfl; (with_reducible repeat (first | refine blk_drewN ?_ _ | refine blk_drew ?_ | refine blk_alloc ?_ _)); refine blk_put (cs := #[.slice none 0 0, .int .i64 0, .int .i64 0]) ?_ 0 _ rfl; (with_reducible repeat (first | refine blk_drewN ?_ _ | refine blk_drew ?_ | refine blk_alloc ?_ _)); exact BK314.out) hb); replace HB := mA (below_step (bT3 HB GE294 GE295 GE314) hb); (try clear hb); (try clear hk); (try clear ho0)) | ((with_reducible refine gate_dst (N := 8) rfl ?_); refine boxT 8 #[.slice none 0 0, .int .i64 0, .int .i64 0] 29 ?_; intro gb320 hg w54 hbox hb; replace HO300 := rBS HO300 hb; replace HO305 := rBS HO305 hb; replace HO311 := rBS HO311 hb; replace HO317 := rBS HO317 hb; have BK320 := mA (hbox); have GW320 := mA ((by rw [hg]; exact (below_size (bT3 HB GE294 GE295 GE314)) : w.heap.size ≤ gb320)); have GE320 := GW320; replace HB := mA (below_step (bT3 HB GE294 GE295 GE314) hb); have NB294_320 : Aside0 (gb294 ≠ gb320) := nL BK294 hg; have NB320_294 : Aside0 (gb320 ≠ gb294) := nG BK294 hg; replace BK294 := kB BK294 hb; have NB295_320 : Aside0 (gb295 ≠ gb320) := nL BK295 hg; have NB320_295 : Aside0 (gb320 ≠ gb295) := nG BK295 hg; replace BK295 := kB BK295 hb; have NB314_320 : Aside0 (gb314 ≠ gb320) := nL BK314 hg; have NB320_314 : Aside0 (gb320 ≠ gb314) := nG BK314 hg; replace BK314 := kB BK314 hb; clear hb hbox hg; obtain ⟨Ao55, co55, eo55⟩ := Kd.S_slice HO317.out; subst eo55; have hnb56 := NB320_294.out; have hnc56 := NB294_320.out; have hnb57 := NB320_295.out; have hnc57 := NB295_320.out; have hnb58 := NB320_314.out; have hnc58 := NB314_320.out; obtain ⟨hcz59_0, hcz59_1, hcz59_2, hfz59_0, hfz59_1, hfz59_2⟩ := blk3 BK320.out; obtain ⟨hcz60_0, hcz60_1, hcz60_2, hfz60_0, hfz60_1, hfz60_2⟩ := blk3 BK314.out) | ((with_reducible refine gate_callee (f := 18) rfl ?_); refine goesT (some 31) Try.func18 #[.agg #[.slice Ao48 t309.length co48, .int .i64 t312, .int .i64 t313], .agg #[.slice Ao55 t315.length co55, .int .i64 t318, .int .i64 t319]] ?_; (with_reducible refine (impl_EqualJoiners.calls k _ _ t309 t312 t313 _ _ t315 t318 t319 t321 _ ?side1 ?side2 ?side3 ?side4 A24.out).mono ?_); (case side1 => refine (Kd.S_reads' (e := 68) (base := w.heap.size) (ok := fun k_ => (((True ∧ some k_ ≠ (.slice Ao42 t298.length co42 : Value).ownBlock) ∧ some k_ ≠ (.slice Ao43 t303.length co43 : Value).ownBlock) ∧ some k_ ≠ (.slice Ao55 t315.length co55 : Value).ownBlock)) (n := t309.length) (c := co48) ?_).2.2; exact (by (with_reducible repeat (first | apply Kd.S_alloc | apply Kd.S_drewN | apply Kd.S_drew)); exact (Kd.S_mono (Kd.S_far (p := ⟨gb320, 2, none⟩) (Kd.S_far (p := ⟨gb320, 1, none⟩) (Kd.S_far (p := ⟨gb320, 0, none⟩) (Kd.S_types HO311.out BK320.out (by decide)) (fun _ hk => hk.2) (.slice Ao55 t315.length co55)) (fun _ hk => hk.2) (.int .i64 t318)) (fun _ hk => hk.2) (.int .i64 t319)) (fun _ h_ => h_.1)))); (case side2 => exact (Kd.S_reads' HO311.out).2.1); (case side3 => refine (Kd.S_reads' (e := 68) (base := w.heap.size) (ok := fun k_ => (((True ∧ some k_ ≠ (.slice Ao42 t298.length co42 : Value).ownBlock) ∧ some k_ ≠ (.slice Ao43 t303.length co43 : Value).ownBlock) ∧ some k_ ≠ (.slice Ao48 t309.length co48 : Value).ownBlock)) (n := t315.length) (c := co55) ?_).2.2; exact (by (with_reducible repeat (first | apply Kd.S_alloc | apply Kd.S_drewN | apply Kd.S_drew)); exact (Kd.S_mono (Kd.S_far (p := ⟨gb320, 2, none⟩) (Kd.S_far (p := ⟨gb320, 1, none⟩) (Kd.S_far (p := ⟨gb320, 0, none⟩) (Kd.S_types HO317.out BK320.out (by decide)) (fun _ hk => hk.2) (.slice Ao55 t315.length co55)) (fun _ hk => hk.2) (.int .i64 t318)) (fun _ hk => hk.2) (.int .i64 t319)) (fun _ h_ => h_.1)))); (case side4 => exact (Kd.S_reads' HO317.out).2.1); rintro e w61 ⟨rfl, hb⟩; refine ⟨_, rfl, ?_⟩; replace HO300 := mA (Kd.S_below (by (with_reducible repeat (first | apply Kd.S_alloc | apply Kd.S_drewN | apply Kd.S_drew)); exact (Kd.S_mono (Kd.S_far (p := ⟨gb320, 2, none⟩) (Kd.S_far (p := ⟨gb320, 1, none⟩) (Kd.S_far (p := ⟨gb320, 0, none⟩) (Kd.S_types HO300.out BK320.out (by decide)) (fun _ hk => hk.2) (.slice Ao55 t315.length co55)) (fun _ hk => hk.2) (.int .i64 t318)) (fun _ hk => hk.2) (.int .i64 t319)) (fun _ h_ => h_.1))) hb); replace HO305 := mA (Kd.S_below (by (with_reducible repeat (first | apply Kd.S_alloc | apply Kd.S_drewN | apply Kd.S_drew)); exact (Kd.S_mono (Kd.S_far (p := ⟨gb320, 2, none⟩) (Kd.S_far (p := ⟨gb320, 1, none⟩) (Kd.S_far (p := ⟨gb320, 0, none⟩) (Kd.S_types HO305.out BK320.out (by decide)) (fun _ hk => hk.2) (.slice Ao55 t315.length co55)) (fun _ hk => hk.2) (.int .i64 t318)) (fun _ hk => hk.2) (.int .i64 t319)) (fun _ h_ => h_.1))) hb); replace HO311 := mA (Kd.S_below (by (with_reducible repeat (first | apply Kd.S_alloc | apply Kd.S_drewN | apply Kd.S_drew)); exact (Kd.S_mono (Kd.S_far (p := ⟨gb320, 2, none⟩) (Kd.S_far (p := ⟨gb320, 1, none⟩) (Kd.S_far (p := ⟨gb320, 0, none⟩) (Kd.S_types HO311.out BK320.out (by decide)) (fun _ hk => hk.2) (.slice Ao55 t315.length co55)) (fun _ hk => hk.2) (.int .i64 t318)) (fun _ hk => hk.2) (.int .i64 t319)) (fun _ h_ => h_.1))) hb); replace HO317 := mA (Kd.S_below (by (with_reducible repeat (first | apply Kd.S_alloc | apply Kd.S_drewN | apply Kd.S_drew)); exact (Kd.S_mono (Kd.S_far (p := ⟨gb320, 2, none⟩) (Kd.S_far (p := ⟨gb320, 1, none⟩) (Kd.S_far (p := ⟨gb320, 0, none⟩) (Kd.S_types HO317.out BK320.out (by decide)) (fun _ hk => hk.2) (.slice Ao55 t315.length co55)) (fun _ hk => hk.2) (.int .i64 t318)) (fun _ hk => hk.2) (.int .i64 t319)) (fun _ h_ => h_.1))) hb); replace BK294 := mA (blk_below (g := gb294) (o := .cells #[.slice A0_0 l0_0.length c0_0, .int .i64 a0_1, .int .i64 a0_2] 24 (0, 0)) (by (with_reducible repeat (first | refine blk_drewN ?_ _ | refine blk_drew ?_ | refine blk_alloc ?_ _)); refine blk_far ?_ NB294_320.out _; (with_reducible repeat (first | refine blk_drewN ?_ _ | refine blk_drew ?_ | refine blk_alloc ?_ _)); refine blk_far ?_ NB294_320.out _; (with_reducible repeat (first | refine blk_drewN ?_ _ | refine blk_drew ?_ | refine blk_alloc ?_ _)); refine blk_far ?_ NB294_320.out _; (with_reducible repeat (first | refine blk_drewN ?_ _ | refine blk_drew ?_ | refine blk_alloc ?_ _)); exact BK294.out) hb); replace BK295 := mA (blk_below (g := gb295) (o := .cells #[.slice A1_0 l1_0.length c1_0, .int .i64 a1_1, .int .i64 a1_2] 24 (0, 0)) (by (with_reducible repeat (first | refine blk_drewN ?_ _ | refine blk_drew ?_ | refine blk_alloc ?_ _)); refine blk_far ?_ NB295_320.out _; (with_reducible repeat (first | refine blk_drewN ?_ _ | refine blk_drew ?_ | refine blk_alloc ?_ _)); refine blk_far ?_ NB295_320.out _; (with_reducible repeat (first | refine blk_drewN ?_ _ | refine blk_drew ?_ | refine blk_alloc ?_ _)); refine blk_far ?_ NB295_320.out _; (with_reducible repeat (first | refine blk_drewN ?_ _ | refine blk_drew ?_ | refine blk_alloc ?_ _)); exact BK295.out) hb); replace BK314 := mA (blk_below (g := gb314) (o := .cells #[.slice Ao48 t309.length co48, .int .i64 t312, .int .i64 t313] 29 (0, 0)) (by (with_reducible repeat (first | refine blk_drewN ?_ _ | refine blk_drew ?_ | refine blk_alloc ?_ _)); refine blk_far ?_ NB314_320.out _; (with_reducible repeat (first | refine blk_drewN ?_ _ | refine blk_drew ?_ | refine blk_alloc ?_ _)); refine blk_far ?_ NB314_320.out _; (with_reducible repeat (first | refine blk_drewN ?_ _ | refine blk_drew ?_ | refine blk_alloc ?_ _)); refine blk_far ?_ NB314_320.out _; (with_reducible repeat (first | refine blk_drewN ?_ _ | refine blk_drew ?_ | refine blk_alloc ?_ _)); exact BK314.out) hb); replace BK320 := mA (blk_below (g := gb320) (o := .cells #[.slice Ao55 t315.length co55, .int .i64 t318, .int .i64 t319] 29 (0, 0)) (by (with_reducible repeat (first | refine blk_drewN ?_ _ | refine blk_drew ?_ | refine blk_alloc ?_ _)); refine blk_put (cs := #[.slice Ao55 t315.length co55, .int .i64 t318, .int .i64 0]) ?_ 2 _ rfl; (with_reducible repeat (first | refine blk_drewN ?_ _ | refine blk_drew ?_ | refine blk_alloc ?_ _)); refine blk_put (cs := #[.slice Ao55 t315.length co55, .int .i64 0, .int .i64 0]) ?_ 1 _ rfl; (with_reducible repeat (first | refine blk_drewN ?_ _ | refine blk_drew ?_ | refine blk_alloc ?_ _)); refine blk_put (cs := #[.slice none 0 0, .int .i64 0, .int .i64 0]) ?_ 0 _ rfl; (with_reducible repeat (first | refine blk_drewN ?_ _ | refine blk_drew ?_ | refine blk_alloc ?_ _)); exact BK320.out) hb); replace HB := mA (below_step (bT4 HB GE294 GE295 GE314 GE320) hb); (try clear hb); (try clear hk)))
      replace HO300 := mA (Kd.S_drew HO300.out)
      replace HO305 := mA (Kd.S_drew HO305.out)
      replace HO311 := mA (Kd.S_drew HO311.out)
      replace HO317 := mA (Kd.S_drew HO317.out)
      replace BK294 := mA (blk_drew BK294.out)
      replace BK295 := mA (blk_drew BK295.out)
      replace BK314 := mA (blk_drew BK314.out)
      replace BK320 := mA (blk_drew BK320.out)
      replace HB := mA (below_drew1 HB.out)
      refine start_ (n := 5) (S := fun w' => w'.cell? ⟨gb314, 0, none⟩ = some (.slice Ao48 t309.length co48) ∧ w'.cell? ⟨gb314, 1, none⟩ = some (.int .i64 t312) ∧ w'.cell? ⟨gb314, 2, none⟩ = some (.int .i64 t313) ∧ w'.cell? ⟨gb294, 0, none⟩ = some (.slice A0_0 l0_0.length c0_0) ∧ w'.cell? ⟨gb294, 1, none⟩ = some (.int .i64 a0_1) ∧ w'.cell? ⟨gb294, 2, none⟩ = some (.int .i64 a0_2)) (ds := []) #[false, false, false, false, false] (by kernel_rfl) rfl rfl ⟨(blk_cell BK314.out 0).trans rfl, (blk_cell BK314.out 1).trans rfl, (blk_cell BK314.out 2).trans rfl, (blk_cell BK294.out 0).trans rfl, (blk_cell BK294.out 1).trans rfl, (blk_cell BK294.out 2).trans rfl⟩ (fun hHeld => ?_)
      generalize w61.drew = w62 at HO300 HO305 HO311 HO317 BK294 BK295 BK314 BK320 HB hHeld ⊢
      refine take_ (i := 0) (N := some 35) (v := ?_) (a' := ?_) #[true, false, false, false, false] rfl rfl (by kernel_rfl) (fun _ _ _ h => h) (Or.inl ⟨by rfl, ?_⟩) hHeld ?_ ?_
      rotate_left
      ·
       rintro w' ⟨s0, s1, s2, s3, s4, s5⟩
       go_simp
       with_reducible rfl
      rotate_left
      ·
       simp only [Act.put, List.setIfInBounds_toArray, List.set_cons_zero, List.set_cons_succ, i64_w, i32_w]
       rfl
      refine take_ (i := 1) (N := some 36) (v := ?_) (a' := ?_) #[true, true, false, false, false] rfl rfl (by kernel_rfl) (fun _ _ _ h => h) (Or.inl ⟨by rfl, ?_⟩) hHeld ?_ ?_
      rotate_left
      ·
       rintro w' ⟨s0, s1, s2, s3, s4, s5⟩
       go_simp
       with_reducible rfl
      rotate_left
      ·
       simp only [Act.put, List.setIfInBounds_toArray, List.set_cons_zero, List.set_cons_succ, i64_w, i32_w]
       rfl
      refine one_ (i := 2) (N := some 37) #[true, true, true, false, false] rfl rfl (by kernel_rfl) (by decide) (fun K hK => ?_)
      refine goes_ Try.func12 (by kernel_rfl) rfl #[.agg #[.slice A0_0 l0_0.length c0_0, .int .i64 a0_1, .int .i64 a0_2]] (by rfl) rfl rfl mT ?_
      with_reducible refine (laws_toJoiner.calls k _ _ l0_0 a0_1 a0_2 t322 t325 t326 _ ?side1 ?side2 A26.out).mono ?_
      (case side1 => exact cT (Kd.C_below HR0_0.out HB.out))
      (case side2 => exact HC0_0.out)
      rintro e w63 ⟨v323, rfl, ho0, hb⟩
      refine ⟨_, rfl, ?_⟩
      have HO324 := mA (Kd.S_lower (Kd.S_new' (Kd.S_new' (Kd.S_new' (Kd.S_new' ho0 (Kd.S_lt (rTS HO300))) (Kd.S_lt (rTS HO305))) (Kd.S_lt (rTS HO311))) (Kd.S_lt (rTS HO317))) (below_size (bT4 HB GE294 GE295 GE314 GE320)))
      replace HO300 := mA (Kd.S_elder' (rTS HO300) (Kd.S_base ho0) hb)
      replace HO305 := mA (Kd.S_elder' (rTS HO305) (Kd.S_base ho0) hb)
      replace HO311 := mA (Kd.S_elder' (rTS HO311) (Kd.S_base ho0) hb)
      replace HO317 := mA (Kd.S_elder' (rTS HO317) (Kd.S_base ho0) hb)
      replace BK294 := kB BK294 hb
      replace BK295 := kB BK295 hb
      replace BK314 := kB BK314 hb
      replace BK320 := kB BK320 hb
      replace HB := mA (below_step (bT4 HB GE294 GE295 GE314 GE320) hb)
      (try clear hb)
      (try clear hb2)
      (try clear hk)
      (try clear hi)
      (try clear ho0)
      obtain ⟨Ao64, co64, eo64⟩ := Kd.S_slice HO324.out
      (first | subst eo64 | (injection eo64 with f1_ f2_ f3_; have f4_ := f1_.symm; have f5_ := f3_.symm; clear f1_ f2_ f3_; subst f4_; subst f5_))
      refine hK.out _ _ ⟨(blk_cell BK314.out 0).trans rfl, (blk_cell BK314.out 1).trans rfl, (blk_cell BK314.out 2).trans rfl, (blk_cell BK294.out 0).trans rfl, (blk_cell BK294.out 1).trans rfl, (blk_cell BK294.out 2).trans rfl⟩ (fun hHeld => ?_)
      clear hK K
      refine norm_ (a' := ?_) ?_ ?_
      rotate_left
      ·
       show Act.put _ (some 37) _ = _
       simp only [Act.put, List.setIfInBounds_toArray, List.set_cons_zero, List.set_cons_succ, i64_w, i32_w]
       rfl
      refine one_ (i := 3) (N := some 38) #[true, true, true, true, false] rfl rfl (by kernel_rfl) (by decide) (fun K hK => ?_)
      refine goes_ Try.func14 (by kernel_rfl) rfl #[.agg #[.slice Ao48 t309.length co48, .int .i64 t312, .int .i64 t313], .agg #[.slice Ao64 t322.length co64, .int .i64 t325, .int .i64 t326]] (by rfl) rfl rfl mT ?_
      with_reducible refine (laws_eqJoiner.calls k _ _ t309 t312 t313 _ _ t322 t325 t326 true _ ?side1 ?side2 ?side3 ?side4 A27.out).mono ?_
      (case side1 => exact cT ((Kd.S_reads' HO311.out).2.2))
      (case side2 => exact (Kd.S_reads' HO311.out).2.1)
      (case side3 => exact cT ((Kd.S_reads' HO324.out).2.2))
      (case side4 => exact (Kd.S_reads' HO324.out).2.1)
      rintro e w65 ⟨rfl, hb⟩
      refine ⟨_, rfl, ?_⟩
      replace HO300 := rBS HO300 hb
      replace HO305 := rBS HO305 hb
      replace HO311 := rBS HO311 hb
      replace HO317 := rBS HO317 hb
      replace HO324 := rBS HO324 hb
      replace BK294 := kB BK294 hb
      replace BK295 := kB BK295 hb
      replace BK314 := kB BK314 hb
      replace BK320 := kB BK320 hb
      replace HB := mA (below_step (bT4 HB GE294 GE295 GE314 GE320) hb)
      (try clear hb)
      (try clear hb2)
      (try clear hk)
      (try clear hi)
      refine hK.out _ _ ⟨(blk_cell BK314.out 0).trans rfl, (blk_cell BK314.out 1).trans rfl, (blk_cell BK314.out 2).trans rfl, (blk_cell BK294.out 0).trans rfl, (blk_cell BK294.out 1).trans rfl, (blk_cell BK294.out 2).trans rfl⟩ (fun hHeld => ?_)
      clear hK K
      refine norm_ (a' := ?_) ?_ ?_
      rotate_left
      ·
       show Act.put _ (some 38) _ = _
       simp only [Act.put, List.setIfInBounds_toArray, List.set_cons_zero, List.set_cons_succ, i64_w, i32_w]
       rfl
      refine pureT (i := 4) (N := some 39) #[true, true, true, true, true] (by kernel_rfl) ?_
      refine done_ (by kernel_rfl) ?_
      try go_wp2
      replace HO300 := mA (Kd.S_drew HO300.out)
      replace HO305 := mA (Kd.S_drew HO305.out)
      replace HO311 := mA (Kd.S_drew HO311.out)
      replace HO317 := mA (Kd.S_drew HO317.out)
      replace HO324 := mA (Kd.S_drew HO324.out)
      replace BK295 := mA (blk_drew BK295.out)
      replace BK320 := mA (blk_drew BK320.out)
      replace HB := mA (below_drew1 HB.out)
      refine start_ (n := 5) (S := fun w' => w'.cell? ⟨gb320, 0, none⟩ = some (.slice Ao55 t315.length co55) ∧ w'.cell? ⟨gb320, 1, none⟩ = some (.int .i64 t318) ∧ w'.cell? ⟨gb320, 2, none⟩ = some (.int .i64 t319) ∧ w'.cell? ⟨gb295, 0, none⟩ = some (.slice A1_0 l1_0.length c1_0) ∧ w'.cell? ⟨gb295, 1, none⟩ = some (.int .i64 a1_1) ∧ w'.cell? ⟨gb295, 2, none⟩ = some (.int .i64 a1_2)) (ds := []) #[false, false, false, false, false] (by kernel_rfl) rfl rfl ⟨(blk_cell BK320.out 0).trans rfl, (blk_cell BK320.out 1).trans rfl, (blk_cell BK320.out 2).trans rfl, (blk_cell BK295.out 0).trans rfl, (blk_cell BK295.out 1).trans rfl, (blk_cell BK295.out 2).trans rfl⟩ (fun hHeld => ?_)
      generalize w65.drew = w66 at HO300 HO305 HO311 HO317 HO324 BK295 BK320 HB hHeld ⊢
      refine take_ (i := 0) (N := some 40) (v := ?_) (a' := ?_) #[true, false, false, false, false] rfl rfl (by kernel_rfl) (fun _ _ _ h => h) (Or.inl ⟨by rfl, ?_⟩) hHeld ?_ ?_
      rotate_left
      ·
       rintro w' ⟨s0, s1, s2, s3, s4, s5⟩
       go_simp
       with_reducible rfl
      rotate_left
      ·
       simp only [Act.put, List.setIfInBounds_toArray, List.set_cons_zero, List.set_cons_succ, i64_w, i32_w]
       rfl
      refine take_ (i := 1) (N := some 41) (v := ?_) (a' := ?_) #[true, true, false, false, false] rfl rfl (by kernel_rfl) (fun _ _ _ h => h) (Or.inl ⟨by rfl, ?_⟩) hHeld ?_ ?_
      rotate_left
      ·
       rintro w' ⟨s0, s1, s2, s3, s4, s5⟩
       go_simp
       with_reducible rfl
      rotate_left
      ·
       simp only [Act.put, List.setIfInBounds_toArray, List.set_cons_zero, List.set_cons_succ, i64_w, i32_w]
       rfl
      refine one_ (i := 2) (N := some 42) #[true, true, true, false, false] rfl rfl (by kernel_rfl) (by decide) (fun K hK => ?_)
      refine goes_ Try.func12 (by kernel_rfl) rfl #[.agg #[.slice A1_0 l1_0.length c1_0, .int .i64 a1_1, .int .i64 a1_2]] (by rfl) rfl rfl mT ?_
      with_reducible refine (laws_toJoiner.calls k _ _ l1_0 a1_1 a1_2 t328 t331 t332 _ ?side1 ?side2 A29.out).mono ?_
      (case side1 => exact cT (Kd.C_below HR1_0.out HB.out))
      (case side2 => exact HC1_0.out)
      rintro e w67 ⟨v329, rfl, ho0, hb⟩
      refine ⟨_, rfl, ?_⟩
      have HO330 := mA (Kd.S_lower (Kd.S_new' (Kd.S_new' (Kd.S_new' (Kd.S_new' (Kd.S_new' ho0 (Kd.S_lt (rTS HO300))) (Kd.S_lt (rTS HO305))) (Kd.S_lt (rTS HO311))) (Kd.S_lt (rTS HO317))) (Kd.S_lt (rTS HO324))) (below_size (bT4 HB GE294 GE295 GE314 GE320)))
      replace HO317 := mA (Kd.S_elder' (rTS HO317) (Kd.S_base ho0) hb)
      replace BK295 := kB BK295 hb
      replace BK320 := kB BK320 hb
      replace HB := mA (below_step (bT4 HB GE294 GE295 GE314 GE320) hb)
      (try clear hb)
      (try clear hb2)
      (try clear hk)
      (try clear hi)
      (try clear ho0)
      obtain ⟨Ao68, co68, eo68⟩ := Kd.S_slice HO330.out
      (first | subst eo68 | (injection eo68 with f1_ f2_ f3_; have f4_ := f1_.symm; have f5_ := f3_.symm; clear f1_ f2_ f3_; subst f4_; subst f5_))
      refine hK.out _ _ ⟨(blk_cell BK320.out 0).trans rfl, (blk_cell BK320.out 1).trans rfl, (blk_cell BK320.out 2).trans rfl, (blk_cell BK295.out 0).trans rfl, (blk_cell BK295.out 1).trans rfl, (blk_cell BK295.out 2).trans rfl⟩ (fun hHeld => ?_)
      clear hK K
      refine norm_ (a' := ?_) ?_ ?_
      rotate_left
      ·
       show Act.put _ (some 42) _ = _
       simp only [Act.put, List.setIfInBounds_toArray, List.set_cons_zero, List.set_cons_succ, i64_w, i32_w]
       rfl
      refine one_ (i := 3) (N := some 43) #[true, true, true, true, false] rfl rfl (by kernel_rfl) (by decide) (fun K hK => ?_)
      refine goes_ Try.func14 (by kernel_rfl) rfl #[.agg #[.slice Ao55 t315.length co55, .int .i64 t318, .int .i64 t319], .agg #[.slice Ao68 t328.length co68, .int .i64 t331, .int .i64 t332]] (by rfl) rfl rfl mT ?_
      with_reducible refine (laws_eqJoiner.calls k _ _ t315 t318 t319 _ _ t328 t331 t332 true _ ?side1 ?side2 ?side3 ?side4 A30.out).mono ?_
      (case side1 => exact cT ((Kd.S_reads' HO317.out).2.2))
      (case side2 => exact (Kd.S_reads' HO317.out).2.1)
      (case side3 => exact cT ((Kd.S_reads' HO330.out).2.2))
      (case side4 => exact (Kd.S_reads' HO330.out).2.1)
      rintro e w69 ⟨rfl, hb⟩
      refine ⟨_, rfl, ?_⟩
      replace BK295 := kB BK295 hb
      replace BK320 := kB BK320 hb
      replace HB := mA (below_step (bT4 HB GE294 GE295 GE314 GE320) hb)
      (try clear hb)
      (try clear hb2)
      (try clear hk)
      (try clear hi)
      refine hK.out _ _ ⟨(blk_cell BK320.out 0).trans rfl, (blk_cell BK320.out 1).trans rfl, (blk_cell BK320.out 2).trans rfl, (blk_cell BK295.out 0).trans rfl, (blk_cell BK295.out 1).trans rfl, (blk_cell BK295.out 2).trans rfl⟩ (fun hHeld => ?_)
      clear hK K
      refine norm_ (a' := ?_) ?_ ?_
      rotate_left
      ·
       show Act.put _ (some 43) _ = _
       simp only [Act.put, List.setIfInBounds_toArray, List.set_cons_zero, List.set_cons_succ, i64_w, i32_w]
       rfl
      refine pureT (i := 4) (N := some 44) #[true, true, true, true, true] (by kernel_rfl) ?_
      refine done_ (by kernel_rfl) ?_
      try go_wp2
      go_ret
      exact ⟨eT, bT4 HB GE294 GE295 GE314 GE320⟩
     ·
      replace c31 := Bool.eq_false_iff.mpr c31
      subst c31
      rw [if_neg (show ¬ (false = true) by decide)] at H
      exact absurd ((Option.some.inj H).trans HT.out) (by simp)
    ·
     replace c28 := Bool.eq_false_iff.mpr c28
     subst c28
     rw [if_neg (show ¬ (false = true) by decide)] at H
     exact absurd ((Option.some.inj H).trans HT.out) (by simp)

end Go.Proofs.Ytfcebaplphpajaa.P
