/- Written by tools/seatprint.py over the translation. Lean checks it. -/
import Derived.Test.YthciieopabndcaaP0
import Derived.Test.YthciieopabndcaaPf3ec0
import Derived.Test.YthciieopabndcaaPf7ec0
namespace Go.Proofs.Ythciieopabndcaa.P
open Go.RowKit Go.Proofs.YthciieopabndcaaW.PrintWords Go.Proofs.YthciieopabndcaaW.PrintLast Go.Proofs.YthciieopabndcaaW.PrintMore
attribute [local go_sem] max2_int min2_int max_two min_two max_three min_three max_four min_four
set_option linter.unusedVariables false
set_option linter.unusedSimpArgs false

attribute [local go_sem high] eqA62
/-! ### spec_l6Rows: function 69 -/
def spec_l6Rows.l0 : Nat → List (S62) → List (S62) → Int → Option (Bool)
 | 0, _, _, _ => none
 | k + 1, x0, x1, x5 => if x5 < (x0.length : Int) then (if 0 ≤ x5 then (if x5 < (x1.length : Int) then (if (!(((rd_T62 x0 x5).f0) == ((rd_T62 x1 x5).f0)) || (!(((rd_T62 x0 x5).f1) == ((rd_T62 x1 x5).f1)) || (!(((rd_T62 x0 x5).f2) == ((rd_T62 x1 x5).f2))))) = true then (some false) else (spec_l6Rows.l0 k x0 x1 (wrap64 (x5 + 1)))) else (none)) else (none)) else (some true)
def spec_l6Rows.f (k : Nat) (l0 : List (S62)) (l1 : List (S62)) : Option (Bool) := if (l0.length : Int) = (l1.length : Int) then (spec_l6Rows.l0 k l0 l1 0) else (some false)
theorem spec_l6Rows.mono_l : ∀ k, (∀ y0 y1 y2, LeO (spec_l6Rows.l0 k y0 y1 y2) (spec_l6Rows.l0 (k + 1) y0 y1 y2))
 | 0 => fun _ _ _ r h => by simp [spec_l6Rows.l0] at h
 | k + 1 => by
  have ih0 := spec_l6Rows.mono_l k
  ·
   intro y0 y1 y2
   unfold spec_l6Rows.l0
   repeat' first
   | (with_reducible exact ih0 _ _ _)
   | (with_reducible exact LeO.refl _)
   | (with_reducible exact LeO.none _)
   | (with_reducible refine LeO.ite ?_ ?_)
   | (with_reducible refine LeO.bind ?_ (fun _ => ?_))
   | exact ih0 _ _ _
   | exact LeO.none _
   | refine LeO.ite ?_ ?_
   | refine LeO.bind ?_ (fun _ => ?_)
theorem spec_l6Rows.mono : ∀ a0 a1 k, LeO (spec_l6Rows.f k a0 a1) (spec_l6Rows.f (k + 1) a0 a1) := by
 intro a0 a1 k
 have ih0 := spec_l6Rows.mono_l k
 unfold spec_l6Rows.f
 repeat' first
   | (with_reducible exact ih0 _ _ _)
   | (with_reducible exact LeO.refl _)
   | (with_reducible exact LeO.none _)
   | (with_reducible refine LeO.ite ?_ ?_)
   | (with_reducible refine LeO.bind ?_ (fun _ => ?_))
   | exact ih0 _ _ _
   | exact LeO.none _
   | refine LeO.ite ?_ ?_
   | refine LeO.bind ?_ (fun _ => ?_)
set_option maxHeartbeats 8000000 in
set_option maxRecDepth 100000 in
theorem spec_l6Rows.calls (k : Nat) (A0 : Option Addr) (c0 : Nat) (l0 : List (S62)) (A1 : Option Addr) (c1 : Nat) (l1 : List (S62)) (r : Bool) (w : World) (hr0 : Kd.C k62 w A0 l0.length l0) (hc0 : l0.length ≤ c0) (hr1 : Kd.C k62 w A1 l1.length l1) (hc1 : l1.length ≤ c1) (h : spec_l6Rows.f k l0 l1 = some r) :
  Calls Try.prog 69 #[.slice A0 l0.length c0, .slice A1 l1.length c1] w fun e w' => e = .returned (.bool r) ∧ Drawn0 w w' := by
 have hu62 := Try.underlying62
 have HR0 := mA hr0
 have HC0 := mA hc0
 clear hr0 hc0
 have HR1 := mA hr1
 have HC1 := mA hc1
 clear hr1 hc1
 have H : (if (l0.length : Int) = (l1.length : Int) then (spec_l6Rows.l0 k l0 l1 0) else (some false)) = some r := h
 clear h
 by_cases c3 : (l0.length : Int) = (l1.length : Int)
 ·
  rw [if_pos c3] at H
  have c3b0 : ((l0.length : Int) == (l1.length : Int)) = true := beq_iff_eq.mpr c3
  have c3b1 : ((l0.length : Int) != (l1.length : Int)) = false := bne_eq_false_iff_eq.mpr c3
  have c3b2 : (l0.length == l1.length) = true := by first | simpa using c3 | (simp at c3 ⊢; omega)
  clear c3
  have H' := mA H
  clear H
  go_enter Try.func69, Try.ntmps69
  go_wp2
  repeat (go_quiet (fail); try go_wp2)
  go_loopg [5] k (fun kq v5 w' => ∃ (x5_1 : Int), v5 = .int .i64 x5_1 ∧ Aside0 (spec_l6Rows.l0 kq l0 l1 x5_1 = some r) ∧ Aside0 (kq ≤ k) ∧ Drawn0 w w')
  case atStart => exact ⟨(0), sT, H', ⟨Nat.le_refl _⟩, by repeat (first | exact Drawn0.refl _ | apply Drawn0.step)⟩
  case round =>
   clear H'
   try clear c1
   try clear p2
   try clear c3
   try clear c3b0
   try clear c3b1
   try clear c3b2
   obtain ⟨x5_1, rfl, HA, HK1, ⟨m1, rfl⟩⟩ := hrel
   cases gk with
   | zero => exact absurd HA.out (by simp [spec_l6Rows.l0])
   | succ k1 =>
    have H := HA.out
    clear HA
    simp only [spec_l6Rows.l0] at H
    by_cases c4 : x5_1 < (l0.length : Int)
    ·
     rw [if_pos c4] at H
     have c4b0 : decide (x5_1 < (l0.length : Int)) = true := decide_eq_true c4
     clear c4
     by_cases c5 : 0 ≤ x5_1
     ·
      rw [if_pos c5] at H
      have c5b0 : decide (0 ≤ x5_1) = true := decide_eq_true c5
      clear c5
      by_cases c6 : x5_1 < (l1.length : Int)
      ·
       rw [if_pos c6] at H
       have c6b0 : decide (x5_1 < (l1.length : Int)) = true := decide_eq_true c6
       clear c6
       by_cases c7 : (!(((rd_T62 l0 x5_1).f0) == ((rd_T62 l1 x5_1).f0)) || (!(((rd_T62 l0 x5_1).f1) == ((rd_T62 l1 x5_1).f1)) || (!(((rd_T62 l0 x5_1).f2) == ((rd_T62 l1 x5_1).f2))))) = true
       ·
        rw [if_pos c7] at H
        have c7b0 : (!(((rd_T62 l0 x5_1).f0) == ((rd_T62 l1 x5_1).f0)) || (!(((rd_T62 l0 x5_1).f1) == ((rd_T62 l1 x5_1).f1)) || (!(((rd_T62 l0 x5_1).f2) == ((rd_T62 l1 x5_1).f2))))) = true := c7
        clear c7
        obtain rfl := Option.some.inj H
        have p412 : 0 ≤ (x5_1 : Int) := of_decide_eq_true aT
        have q412 : x5_1 < (l0.length : Int) := of_decide_eq_true aT
        obtain ⟨ad412, e412, hx412_0, hx412_1, hx412_2⟩ := at_T62 HR0.out x5_1 p412 q412
        cases e412
        replace p412 := eq_true p412
        replace q412 := eq_true q412
        have p413 : 0 ≤ (x5_1 : Int) := of_decide_eq_true aT
        have q413 : x5_1 < (l1.length : Int) := of_decide_eq_true aT
        obtain ⟨ad413, e413, hx413_0, hx413_1, hx413_2⟩ := at_T62 HR1.out x5_1 p413 q413
        cases e413
        replace p413 := eq_true p413
        replace q413 := eq_true q413
        go_wp2
        repeat (go_quiet (fail); try go_wp2)
        go_ret
        exact ⟨sT, by repeat (first | exact Drawn0.refl _ | apply Drawn0.step)⟩
       ·
        rw [if_neg c7] at H
        have c7b0 : (!(((rd_T62 l0 x5_1).f0) == ((rd_T62 l1 x5_1).f0)) || (!(((rd_T62 l0 x5_1).f1) == ((rd_T62 l1 x5_1).f1)) || (!(((rd_T62 l0 x5_1).f2) == ((rd_T62 l1 x5_1).f2))))) = false := by simpa using c7
        clear c7
        have H' := mA H
        clear H
        have p412 : 0 ≤ (x5_1 : Int) := of_decide_eq_true aT
        have q412 : x5_1 < (l0.length : Int) := of_decide_eq_true aT
        obtain ⟨ad412, e412, hx412_0, hx412_1, hx412_2⟩ := at_T62 HR0.out x5_1 p412 q412
        cases e412
        replace p412 := eq_true p412
        replace q412 := eq_true q412
        have p413 : 0 ≤ (x5_1 : Int) := of_decide_eq_true aT
        have q413 : x5_1 < (l1.length : Int) := of_decide_eq_true aT
        obtain ⟨ad413, e413, hx413_0, hx413_1, hx413_2⟩ := at_T62 HR1.out x5_1 p413 q413
        cases e413
        replace p413 := eq_true p413
        replace q413 := eq_true q413
        go_wp2
        repeat (go_quiet (fail); try go_wp2)
        go_roundg k1
        case measure => have := HK1.out; omega
        case rel => exact ⟨(wrap64 (x5_1 + 1)), sT, H', ⟨by have := HK1.out; omega⟩, by repeat (first | exact Drawn0.refl _ | apply Drawn0.step)⟩
      ·
       rw [if_neg c6] at H
       exact absurd H (by simp)
     ·
      rw [if_neg c5] at H
      exact absurd H (by simp)
    ·
     rw [if_neg c4] at H
     have c4b0 : decide (x5_1 < (l0.length : Int)) = false := decide_eq_false c4
     clear c4
     obtain rfl := Option.some.inj H
     go_wp2
     repeat (go_quiet (fail); try go_wp2)
     go_ret
     exact ⟨sT, by repeat (first | exact Drawn0.refl _ | apply Drawn0.step)⟩
 ·
  rw [if_neg c3] at H
  have c3b0 : ((l0.length : Int) == (l1.length : Int)) = false := beq_eq_false_iff_ne.mpr c3
  have c3b1 : ((l0.length : Int) != (l1.length : Int)) = true := bne_iff_ne.mpr c3
  have c3b2 : (l0.length == l1.length) = false := by first | simpa using c3 | (simp at c3 ⊢; omega)
  obtain rfl := Option.some.inj H
  go_enter Try.func69, Try.ntmps69
  go_wp2
  repeat (go_quiet (fail); try go_wp2)
  go_ret
  exact ⟨sT, by repeat (first | exact Drawn0.refl _ | apply Drawn0.step)⟩

/-! ### spec_EqualTasks: function 31 -/
mutual
def spec_EqualTasks.j0 : Nat → Bool → Int → List (S62) → List (S62) → List Bool → Int → Int → List (S62) → List (S62) → List Bool → Int → Option (Bool)
 | 0, _, _, _, _, _, _, _, _, _, _, _ => none
 | k + 1, x42, x415000, x415001, x415002, x415003, x415004, x416000, x416001, x416002, x416003, x416004 => if x42 = true then (some false) else (spec_EqualTasks.l0 k 0 x415000 x415001 x415002 x415003 x415004 x416000 x416001 x416002 x416003 x416004)
def spec_EqualTasks.l0 : Nat → Int → Int → List (S62) → List (S62) → List Bool → Int → Int → List (S62) → List (S62) → List Bool → Int → Option (Bool)
 | 0, _, _, _, _, _, _, _, _, _, _, _ => none
 | k + 1, x5, x415000, x415001, x415002, x415003, x415004, x416000, x416001, x416002, x416003, x416004 => if x5 < (x415003.length : Int) then (if 0 ≤ x5 then (if x5 < (x416003.length : Int) then (if ((rdOf false x415003 x5) != (rdOf false x416003 x5)) = true then (some false) else (spec_EqualTasks.l0 k (wrap64 (x5 + 1)) x415000 x415001 x415002 x415003 x415004 x416000 x416001 x416002 x416003 x416004)) else (none)) else (none)) else (some true)
end
def spec_EqualTasks.f (k : Nat) (a0_0 : Int) (l0_1 : List (S62)) (l0_2 : List (S62)) (l0_3 : List Bool) (a0_4 : Int) (a1_0 : Int) (l1_1 : List (S62)) (l1_2 : List (S62)) (l1_3 : List Bool) (a1_4 : Int) : Option (Bool) := if a0_0 = a1_0 then ((spec_l6Rows.f k l0_1 l1_1).bind fun t416 => (if t416 = true then ((spec_l6Rows.f k l0_2 l1_2).bind fun t417 => (if t417 = true then (if a0_4 = a1_4 then (spec_EqualTasks.j0 k ((l0_3.length : Int) != (l1_3.length : Int)) a0_0 l0_1 l0_2 l0_3 a0_4 a1_0 l1_1 l1_2 l1_3 a1_4) else (spec_EqualTasks.j0 k true a0_0 l0_1 l0_2 l0_3 a0_4 a1_0 l1_1 l1_2 l1_3 a1_4)) else (spec_EqualTasks.j0 k true a0_0 l0_1 l0_2 l0_3 a0_4 a1_0 l1_1 l1_2 l1_3 a1_4))) else (spec_EqualTasks.j0 k true a0_0 l0_1 l0_2 l0_3 a0_4 a1_0 l1_1 l1_2 l1_3 a1_4))) else (spec_EqualTasks.j0 k true a0_0 l0_1 l0_2 l0_3 a0_4 a1_0 l1_1 l1_2 l1_3 a1_4)
theorem spec_EqualTasks.mono_l : ∀ k, (∀ y0 y1 y2 y3 y4 y5 y6 y7 y8 y9 y10, LeO (spec_EqualTasks.j0 k y0 y1 y2 y3 y4 y5 y6 y7 y8 y9 y10) (spec_EqualTasks.j0 (k + 1) y0 y1 y2 y3 y4 y5 y6 y7 y8 y9 y10)) ∧ (∀ y0 y1 y2 y3 y4 y5 y6 y7 y8 y9 y10, LeO (spec_EqualTasks.l0 k y0 y1 y2 y3 y4 y5 y6 y7 y8 y9 y10) (spec_EqualTasks.l0 (k + 1) y0 y1 y2 y3 y4 y5 y6 y7 y8 y9 y10))
 | 0 => ⟨fun _ _ _ _ _ _ _ _ _ _ _ r h => by simp [spec_EqualTasks.j0] at h, fun _ _ _ _ _ _ _ _ _ _ _ r h => by simp [spec_EqualTasks.l0] at h⟩
 | k + 1 => by
  obtain ⟨ih0, ih1⟩ := spec_EqualTasks.mono_l k
  refine ⟨?_, ?_⟩
  ·
   intro y0 y1 y2 y3 y4 y5 y6 y7 y8 y9 y10
   unfold spec_EqualTasks.j0
   repeat' first
   | (with_reducible exact ih0 _ _ _ _ _ _ _ _ _ _ _)
   | (with_reducible exact ih1 _ _ _ _ _ _ _ _ _ _ _)
   | (with_reducible exact spec_l6Rows.mono _ _ _)
   | (with_reducible exact LeO.refl _)
   | (with_reducible exact LeO.none _)
   | (with_reducible refine LeO.ite ?_ ?_)
   | (with_reducible refine LeO.bind ?_ (fun _ => ?_))
   | exact ih0 _ _ _ _ _ _ _ _ _ _ _
   | exact ih1 _ _ _ _ _ _ _ _ _ _ _
   | exact spec_l6Rows.mono _ _ _
   | exact LeO.none _
   | refine LeO.ite ?_ ?_
   | refine LeO.bind ?_ (fun _ => ?_)
  ·
   intro y0 y1 y2 y3 y4 y5 y6 y7 y8 y9 y10
   unfold spec_EqualTasks.l0
   repeat' first
   | (with_reducible exact ih0 _ _ _ _ _ _ _ _ _ _ _)
   | (with_reducible exact ih1 _ _ _ _ _ _ _ _ _ _ _)
   | (with_reducible exact spec_l6Rows.mono _ _ _)
   | (with_reducible exact LeO.refl _)
   | (with_reducible exact LeO.none _)
   | (with_reducible refine LeO.ite ?_ ?_)
   | (with_reducible refine LeO.bind ?_ (fun _ => ?_))
   | exact ih0 _ _ _ _ _ _ _ _ _ _ _
   | exact ih1 _ _ _ _ _ _ _ _ _ _ _
   | exact spec_l6Rows.mono _ _ _
   | exact LeO.none _
   | refine LeO.ite ?_ ?_
   | refine LeO.bind ?_ (fun _ => ?_)
theorem spec_EqualTasks.mono : ∀ a0 a1 a2 a3 a4 a5 a6 a7 a8 a9 k, LeO (spec_EqualTasks.f k a0 a1 a2 a3 a4 a5 a6 a7 a8 a9) (spec_EqualTasks.f (k + 1) a0 a1 a2 a3 a4 a5 a6 a7 a8 a9) := by
 intro a0 a1 a2 a3 a4 a5 a6 a7 a8 a9 k
 obtain ⟨ih0, ih1⟩ := spec_EqualTasks.mono_l k
 unfold spec_EqualTasks.f
 repeat' first
   | (with_reducible exact ih0 _ _ _ _ _ _ _ _ _ _ _)
   | (with_reducible exact ih1 _ _ _ _ _ _ _ _ _ _ _)
   | (with_reducible exact spec_l6Rows.mono _ _ _)
   | (with_reducible exact LeO.refl _)
   | (with_reducible exact LeO.none _)
   | (with_reducible refine LeO.ite ?_ ?_)
   | (with_reducible refine LeO.bind ?_ (fun _ => ?_))
   | exact ih0 _ _ _ _ _ _ _ _ _ _ _
   | exact ih1 _ _ _ _ _ _ _ _ _ _ _
   | exact spec_l6Rows.mono _ _ _
   | exact LeO.none _
   | refine LeO.ite ?_ ?_
   | refine LeO.bind ?_ (fun _ => ?_)
set_option maxHeartbeats 8000000 in
set_option maxRecDepth 100000 in
theorem spec_EqualTasks.calls (k : Nat) (a0_0 : Int) (A0_1 : Option Addr) (c0_1 : Nat) (l0_1 : List (S62)) (A0_2 : Option Addr) (c0_2 : Nat) (l0_2 : List (S62)) (A0_3 : Option Addr) (c0_3 : Nat) (l0_3 : List Bool) (a0_4 : Int) (a1_0 : Int) (A1_1 : Option Addr) (c1_1 : Nat) (l1_1 : List (S62)) (A1_2 : Option Addr) (c1_2 : Nat) (l1_2 : List (S62)) (A1_3 : Option Addr) (c1_3 : Nat) (l1_3 : List Bool) (a1_4 : Int) (r : Bool) (w : World) (hr0_1 : Kd.C k62 w A0_1 l0_1.length l0_1) (hc0_1 : l0_1.length ≤ c0_1) (hr0_2 : Kd.C k62 w A0_2 l0_2.length l0_2) (hc0_2 : l0_2.length ≤ c0_2) (hr0_3 : Kd.C Kd.bool w A0_3 l0_3.length l0_3) (hc0_3 : l0_3.length ≤ c0_3) (hr1_1 : Kd.C k62 w A1_1 l1_1.length l1_1) (hc1_1 : l1_1.length ≤ c1_1) (hr1_2 : Kd.C k62 w A1_2 l1_2.length l1_2) (hc1_2 : l1_2.length ≤ c1_2) (hr1_3 : Kd.C Kd.bool w A1_3 l1_3.length l1_3) (hc1_3 : l1_3.length ≤ c1_3) (h : spec_EqualTasks.f k a0_0 l0_1 l0_2 l0_3 a0_4 a1_0 l1_1 l1_2 l1_3 a1_4 = some r) :
  Calls Try.prog 31 #[.agg #[.int .i64 a0_0, .slice A0_1 l0_1.length c0_1, .slice A0_2 l0_2.length c0_2, .slice A0_3 l0_3.length c0_3, .int .i64 a0_4], .agg #[.int .i64 a1_0, .slice A1_1 l1_1.length c1_1, .slice A1_2 l1_2.length c1_2, .slice A1_3 l1_3.length c1_3, .int .i64 a1_4]] w fun e w' => e = .returned (.bool r) ∧ Below w.heap.size w w' := by
 have hu37 := Try.underlying37
 have HR0_1 := mA hr0_1
 have HC0_1 := mA hc0_1
 clear hr0_1 hc0_1
 have HR0_2 := mA hr0_2
 have HC0_2 := mA hc0_2
 clear hr0_2 hc0_2
 have HR0_3 := mA hr0_3
 have HC0_3 := mA hc0_3
 clear hr0_3 hc0_3
 have HR1_1 := mA hr1_1
 have HC1_1 := mA hc1_1
 clear hr1_1 hc1_1
 have HR1_2 := mA hr1_2
 have HC1_2 := mA hc1_2
 clear hr1_2 hc1_2
 have HR1_3 := mA hr1_3
 have HC1_3 := mA hc1_3
 clear hr1_3 hc1_3
 have HB := mA (Below.refl w.heap.size w)
 have H : (if a0_0 = a1_0 then ((spec_l6Rows.f k l0_1 l1_1).bind fun t416 => (if t416 = true then ((spec_l6Rows.f k l0_2 l1_2).bind fun t417 => (if t417 = true then (if a0_4 = a1_4 then (spec_EqualTasks.j0 k ((l0_3.length : Int) != (l1_3.length : Int)) a0_0 l0_1 l0_2 l0_3 a0_4 a1_0 l1_1 l1_2 l1_3 a1_4) else (spec_EqualTasks.j0 k true a0_0 l0_1 l0_2 l0_3 a0_4 a1_0 l1_1 l1_2 l1_3 a1_4)) else (spec_EqualTasks.j0 k true a0_0 l0_1 l0_2 l0_3 a0_4 a1_0 l1_1 l1_2 l1_3 a1_4))) else (spec_EqualTasks.j0 k true a0_0 l0_1 l0_2 l0_3 a0_4 a1_0 l1_1 l1_2 l1_3 a1_4))) else (spec_EqualTasks.j0 k true a0_0 l0_1 l0_2 l0_3 a0_4 a1_0 l1_1 l1_2 l1_3 a1_4)) = some r := h
 clear h
 have HC3 := mA H
 clear H
 go_enter Try.func31, Try.ntmps31
 go_upto_region 1 with (first | ((with_reducible refine gate_dst (N := 2) rfl ?_); (try (refine gate_guard (by rfl) ?_; dsimp only)); refine boxT 2 #[.int .i64 a0_0, .slice A0_1 l0_1.length c0_1, .slice A0_2 l0_2.length c0_2, .slice A0_3 l0_3.length c0_3, .int .i64 a0_4] 37 ?_; intro gb414 hg w4 hbox hb; have BK414 := mA (hbox); have GW414 := mA ((by rw [hg]; exact (below_size (bT HB)) : w.heap.size ≤ gb414)); have GE414 := GW414; replace HB := mA (below_step (bT HB) hb); clear hb hbox hg) | ((with_reducible refine gate_dst (N := 3) rfl ?_); (try (refine gate_guard (by rfl) ?_; dsimp only)); refine boxT 3 #[.int .i64 a1_0, .slice A1_1 l1_1.length c1_1, .slice A1_2 l1_2.length c1_2, .slice A1_3 l1_3.length c1_3, .int .i64 a1_4] 37 ?_; intro gb415 hg w5 hbox hb; have BK415 := mA (hbox); have GW415 := mA ((by rw [hg]; exact (below_size (bT1 HB GE414)) : w.heap.size ≤ gb415)); have GE415 := GW415; replace HB := mA (below_step (bT1 HB GE414) hb); have NB414_415 : Aside0 (gb414 ≠ gb415) := nL BK414 hg; have NB415_414 : Aside0 (gb415 ≠ gb414) := nG BK414 hg; replace BK414 := kB BK414 hb; clear hb hbox hg))
 repeat (go_quiet (first | ((with_reducible refine gate_dst (N := 2) rfl ?_); (try (refine gate_guard (by rfl) ?_; dsimp only)); refine boxT 2 #[.int .i64 a0_0, .slice A0_1 l0_1.length c0_1, .slice A0_2 l0_2.length c0_2, .slice A0_3 l0_3.length c0_3, .int .i64 a0_4] 37 ?_; intro gb414 hg w4 hbox hb; have BK414 := mA (hbox); have GW414 := mA ((by rw [hg]; exact (below_size (bT HB)) : w.heap.size ≤ gb414)); have GE414 := GW414; replace HB := mA (below_step (bT HB) hb); clear hb hbox hg) | ((with_reducible refine gate_dst (N := 3) rfl ?_); (try (refine gate_guard (by rfl) ?_; dsimp only)); refine boxT 3 #[.int .i64 a1_0, .slice A1_1 l1_1.length c1_1, .slice A1_2 l1_2.length c1_2, .slice A1_3 l1_3.length c1_3, .int .i64 a1_4] 37 ?_; intro gb415 hg w5 hbox hb; have BK415 := mA (hbox); have GW415 := mA ((by rw [hg]; exact (below_size (bT1 HB GE414)) : w.heap.size ≤ gb415)); have GE415 := GW415; replace HB := mA (below_step (bT1 HB GE414) hb); have NB414_415 : Aside0 (gb414 ≠ gb415) := nL BK414 hg; have NB415_414 : Aside0 (gb415 ≠ gb414) := nG BK414 hg; replace BK414 := kB BK414 hb; clear hb hbox hg)); go_upto_region 1 with (first | ((with_reducible refine gate_dst (N := 2) rfl ?_); (try (refine gate_guard (by rfl) ?_; dsimp only)); refine boxT 2 #[.int .i64 a0_0, .slice A0_1 l0_1.length c0_1, .slice A0_2 l0_2.length c0_2, .slice A0_3 l0_3.length c0_3, .int .i64 a0_4] 37 ?_; intro gb414 hg w4 hbox hb; have BK414 := mA (hbox); have GW414 := mA ((by rw [hg]; exact (below_size (bT HB)) : w.heap.size ≤ gb414)); have GE414 := GW414; replace HB := mA (below_step (bT HB) hb); clear hb hbox hg) | ((with_reducible refine gate_dst (N := 3) rfl ?_); (try (refine gate_guard (by rfl) ?_; dsimp only)); refine boxT 3 #[.int .i64 a1_0, .slice A1_1 l1_1.length c1_1, .slice A1_2 l1_2.length c1_2, .slice A1_3 l1_3.length c1_3, .int .i64 a1_4] 37 ?_; intro gb415 hg w5 hbox hb; have BK415 := mA (hbox); have GW415 := mA ((by rw [hg]; exact (below_size (bT1 HB GE414)) : w.heap.size ≤ gb415)); have GE415 := GW415; replace HB := mA (below_step (bT1 HB GE414) hb); have NB414_415 : Aside0 (gb414 ≠ gb415) := nL BK414 hg; have NB415_414 : Aside0 (gb415 ≠ gb414) := nG BK414 hg; replace BK414 := kB BK414 hb; clear hb hbox hg)))
 (try simp only [Act.put, List.setIfInBounds_toArray, List.set_cons_zero, List.set_cons_succ])
 go_cut [42] (fun v42 wc => ∃ (kq : Nat) (x42_2 : Bool), v42 = .bool x42_2 ∧ Aside0 (spec_EqualTasks.j0 kq x42_2 a0_0 l0_1 l0_2 l0_3 a0_4 a1_0 l1_1 l1_2 l1_3 a1_4 = some r) ∧ Aside0 (kq ≤ k) ∧ Aside0 (wc.heap[gb414]? = some (.cells #[.int .i64 a0_0, (.slice A0_1 l0_1.length c0_1), (.slice A0_2 l0_2.length c0_2), (.slice A0_3 l0_3.length c0_3), .int .i64 a0_4] 37 (0, 0))) ∧ Aside0 (wc.heap[gb415]? = some (.cells #[.int .i64 a1_0, (.slice A1_1 l1_1.length c1_1), (.slice A1_2 l1_2.length c1_2), (.slice A1_3 l1_3.length c1_3), .int .i64 a1_4] 37 (0, 0))) ∧ Aside0 (Below w.heap.size w wc))
 case first =>
  have H := HC3.out
  clear HC3
  by_cases c6 : a0_0 = a1_0
  ·
   rw [if_pos c6] at H
   have c6b0 : (a0_0 == a1_0) = true := beq_iff_eq.mpr c6
   have c6b1 : (a0_0 != a1_0) = false := bne_eq_false_iff_eq.mpr c6
   clear c6
   (first | rw [c6b0] | (simp only [i64_w, i32_w]; rw [c6b0]) | skip)
   obtain ⟨t416, A7, H⟩ := Option.bind_eq_some_iff.mp H
   replace A7 := mA A7
   try dsimp only at H
   by_cases c8 : t416 = true
   ·
    subst c8
    rw [if_pos rfl] at H
    obtain ⟨t417, A9, H⟩ := Option.bind_eq_some_iff.mp H
    replace A9 := mA A9
    try dsimp only at H
    by_cases c10 : t417 = true
    ·
     subst c10
     rw [if_pos rfl] at H
     by_cases c11 : a0_4 = a1_4
     ·
      rw [if_pos c11] at H
      have c11b0 : (a0_4 == a1_4) = true := beq_iff_eq.mpr c11
      have c11b1 : (a0_4 != a1_4) = false := bne_eq_false_iff_eq.mpr c11
      clear c11
      have H' := mA H
      clear H
      have hnb12 := NB414_415.out
      have hnc12 := NB415_414.out
      have hcz13_0 : w5.cell? ⟨gb414, 0, none⟩ = some (.int .i64 a0_0) := (blk_cell BK414.out 0).trans rfl
      have hcz13_1 : w5.cell? ⟨gb414, 1, none⟩ = some (.slice A0_1 l0_1.length c0_1) := (blk_cell BK414.out 1).trans rfl
      have hcz13_2 : w5.cell? ⟨gb414, 2, none⟩ = some (.slice A0_2 l0_2.length c0_2) := (blk_cell BK414.out 2).trans rfl
      have hcz13_3 : w5.cell? ⟨gb414, 3, none⟩ = some (.slice A0_3 l0_3.length c0_3) := (blk_cell BK414.out 3).trans rfl
      have hcz13_4 : w5.cell? ⟨gb414, 4, none⟩ = some (.int .i64 a0_4) := (blk_cell BK414.out 4).trans rfl
      have hfz13_0 := blk_frozen BK414.out 0
      have hfz13_1 := blk_frozen BK414.out 1
      have hfz13_2 := blk_frozen BK414.out 2
      have hfz13_3 := blk_frozen BK414.out 3
      have hfz13_4 := blk_frozen BK414.out 4
      have hcz14_0 : w5.cell? ⟨gb415, 0, none⟩ = some (.int .i64 a1_0) := (blk_cell BK415.out 0).trans rfl
      have hcz14_1 : w5.cell? ⟨gb415, 1, none⟩ = some (.slice A1_1 l1_1.length c1_1) := (blk_cell BK415.out 1).trans rfl
      have hcz14_2 : w5.cell? ⟨gb415, 2, none⟩ = some (.slice A1_2 l1_2.length c1_2) := (blk_cell BK415.out 2).trans rfl
      have hcz14_3 : w5.cell? ⟨gb415, 3, none⟩ = some (.slice A1_3 l1_3.length c1_3) := (blk_cell BK415.out 3).trans rfl
      have hcz14_4 : w5.cell? ⟨gb415, 4, none⟩ = some (.int .i64 a1_4) := (blk_cell BK415.out 4).trans rfl
      have hfz14_0 := blk_frozen BK415.out 0
      have hfz14_1 := blk_frozen BK415.out 1
      have hfz14_2 := blk_frozen BK415.out 2
      have hfz14_3 := blk_frozen BK415.out 3
      have hfz14_4 := blk_frozen BK415.out 4
      go_wp2_with (first | (go_at_call 69; (with_reducible refine (spec_l6Rows.calls k _ _ l0_1 _ _ l1_1 true _ ?side1 ?side2 ?side3 ?side4 A7.out).mono ?_); (case side1 => exact cT (Kd.C_below HR0_1.out HB.out)); (case side2 => exact HC0_1.out); (case side3 => exact cT (Kd.C_below HR1_1.out HB.out)); (case side4 => exact HC1_1.out); rintro e w' ⟨rfl, ⟨nd, rfl⟩⟩; (try first | exact ⟨rfl, _, World.drewN_drewN _ _ _⟩ | exact ⟨rfl, _, Eq.trans (World.drewN_drewN _ _ _) (congrArg (World.drewN _) (Nat.add_assoc _ _ _))⟩)) | (go_at_call 69; (with_reducible refine (spec_l6Rows.calls k _ _ l0_2 _ _ l1_2 true _ ?side1 ?side2 ?side3 ?side4 A9.out).mono ?_); (case side1 => exact cT (Kd.C_below HR0_2.out (bT2 HB GE414 GE415))); (case side2 => exact HC0_2.out); (case side3 => exact cT (Kd.C_below HR1_2.out (bT2 HB GE414 GE415))); (case side4 => exact HC1_2.out); rintro e w' ⟨rfl, ⟨nd, rfl⟩⟩; (try first | exact ⟨rfl, _, World.drewN_drewN _ _ _⟩ | exact ⟨rfl, _, Eq.trans (World.drewN_drewN _ _ _) (congrArg (World.drewN _) (Nat.add_assoc _ _ _))⟩)))
      repeat (go_quiet (first | (go_at_call 69; (with_reducible refine (spec_l6Rows.calls k _ _ l0_1 _ _ l1_1 true _ ?side1 ?side2 ?side3 ?side4 A7.out).mono ?_); (case side1 => exact cT (Kd.C_below HR0_1.out HB.out)); (case side2 => exact HC0_1.out); (case side3 => exact cT (Kd.C_below HR1_1.out HB.out)); (case side4 => exact HC1_1.out); rintro e w' ⟨rfl, ⟨nd, rfl⟩⟩; (try first | exact ⟨rfl, _, World.drewN_drewN _ _ _⟩ | exact ⟨rfl, _, Eq.trans (World.drewN_drewN _ _ _) (congrArg (World.drewN _) (Nat.add_assoc _ _ _))⟩)) | (go_at_call 69; (with_reducible refine (spec_l6Rows.calls k _ _ l0_2 _ _ l1_2 true _ ?side1 ?side2 ?side3 ?side4 A9.out).mono ?_); (case side1 => exact cT (Kd.C_below HR0_2.out (bT2 HB GE414 GE415))); (case side2 => exact HC0_2.out); (case side3 => exact cT (Kd.C_below HR1_2.out (bT2 HB GE414 GE415))); (case side4 => exact HC1_2.out); rintro e w' ⟨rfl, ⟨nd, rfl⟩⟩; (try first | exact ⟨rfl, _, World.drewN_drewN _ _ _⟩ | exact ⟨rfl, _, Eq.trans (World.drewN_drewN _ _ _) (congrArg (World.drewN _) (Nat.add_assoc _ _ _))⟩))); try go_wp2_with (first | (go_at_call 69; (with_reducible refine (spec_l6Rows.calls k _ _ l0_1 _ _ l1_1 true _ ?side1 ?side2 ?side3 ?side4 A7.out).mono ?_); (case side1 => exact cT (Kd.C_below HR0_1.out HB.out)); (case side2 => exact HC0_1.out); (case side3 => exact cT (Kd.C_below HR1_1.out HB.out)); (case side4 => exact HC1_1.out); rintro e w' ⟨rfl, ⟨nd, rfl⟩⟩; (try first | exact ⟨rfl, _, World.drewN_drewN _ _ _⟩ | exact ⟨rfl, _, Eq.trans (World.drewN_drewN _ _ _) (congrArg (World.drewN _) (Nat.add_assoc _ _ _))⟩)) | (go_at_call 69; (with_reducible refine (spec_l6Rows.calls k _ _ l0_2 _ _ l1_2 true _ ?side1 ?side2 ?side3 ?side4 A9.out).mono ?_); (case side1 => exact cT (Kd.C_below HR0_2.out (bT2 HB GE414 GE415))); (case side2 => exact HC0_2.out); (case side3 => exact cT (Kd.C_below HR1_2.out (bT2 HB GE414 GE415))); (case side4 => exact HC1_2.out); rintro e w' ⟨rfl, ⟨nd, rfl⟩⟩; (try first | exact ⟨rfl, _, World.drewN_drewN _ _ _⟩ | exact ⟨rfl, _, Eq.trans (World.drewN_drewN _ _ _) (congrArg (World.drewN _) (Nat.add_assoc _ _ _))⟩))))
      go_meet
      case rel => exact ⟨_, (((l0_3.length : Int) != (l1_3.length : Int))), sT, H', ⟨by first | omega | exact Nat.le_refl _⟩, ⟨kT BK414⟩, ⟨kT BK415⟩, ⟨bT2 HB GE414 GE415⟩⟩
     ·
      rw [if_neg c11] at H
      have c11b0 : (a0_4 == a1_4) = false := beq_eq_false_iff_ne.mpr c11
      have c11b1 : (a0_4 != a1_4) = true := bne_iff_ne.mpr c11
      have H' := mA H
      clear H
      have hnb15 := NB414_415.out
      have hnc15 := NB415_414.out
      have hcz16_0 : w5.cell? ⟨gb414, 0, none⟩ = some (.int .i64 a0_0) := (blk_cell BK414.out 0).trans rfl
      have hcz16_1 : w5.cell? ⟨gb414, 1, none⟩ = some (.slice A0_1 l0_1.length c0_1) := (blk_cell BK414.out 1).trans rfl
      have hcz16_2 : w5.cell? ⟨gb414, 2, none⟩ = some (.slice A0_2 l0_2.length c0_2) := (blk_cell BK414.out 2).trans rfl
      have hcz16_3 : w5.cell? ⟨gb414, 3, none⟩ = some (.slice A0_3 l0_3.length c0_3) := (blk_cell BK414.out 3).trans rfl
      have hcz16_4 : w5.cell? ⟨gb414, 4, none⟩ = some (.int .i64 a0_4) := (blk_cell BK414.out 4).trans rfl
      have hfz16_0 := blk_frozen BK414.out 0
      have hfz16_1 := blk_frozen BK414.out 1
      have hfz16_2 := blk_frozen BK414.out 2
      have hfz16_3 := blk_frozen BK414.out 3
      have hfz16_4 := blk_frozen BK414.out 4
      have hcz17_0 : w5.cell? ⟨gb415, 0, none⟩ = some (.int .i64 a1_0) := (blk_cell BK415.out 0).trans rfl
      have hcz17_1 : w5.cell? ⟨gb415, 1, none⟩ = some (.slice A1_1 l1_1.length c1_1) := (blk_cell BK415.out 1).trans rfl
      have hcz17_2 : w5.cell? ⟨gb415, 2, none⟩ = some (.slice A1_2 l1_2.length c1_2) := (blk_cell BK415.out 2).trans rfl
      have hcz17_3 : w5.cell? ⟨gb415, 3, none⟩ = some (.slice A1_3 l1_3.length c1_3) := (blk_cell BK415.out 3).trans rfl
      have hcz17_4 : w5.cell? ⟨gb415, 4, none⟩ = some (.int .i64 a1_4) := (blk_cell BK415.out 4).trans rfl
      have hfz17_0 := blk_frozen BK415.out 0
      have hfz17_1 := blk_frozen BK415.out 1
      have hfz17_2 := blk_frozen BK415.out 2
      have hfz17_3 := blk_frozen BK415.out 3
      have hfz17_4 := blk_frozen BK415.out 4
      go_wp2_with (first | (go_at_call 69; (with_reducible refine (spec_l6Rows.calls k _ _ l0_1 _ _ l1_1 true _ ?side1 ?side2 ?side3 ?side4 A7.out).mono ?_); (case side1 => exact cT (Kd.C_below HR0_1.out HB.out)); (case side2 => exact HC0_1.out); (case side3 => exact cT (Kd.C_below HR1_1.out HB.out)); (case side4 => exact HC1_1.out); rintro e w' ⟨rfl, ⟨nd, rfl⟩⟩; (try first | exact ⟨rfl, _, World.drewN_drewN _ _ _⟩ | exact ⟨rfl, _, Eq.trans (World.drewN_drewN _ _ _) (congrArg (World.drewN _) (Nat.add_assoc _ _ _))⟩)) | (go_at_call 69; (with_reducible refine (spec_l6Rows.calls k _ _ l0_2 _ _ l1_2 true _ ?side1 ?side2 ?side3 ?side4 A9.out).mono ?_); (case side1 => exact cT (Kd.C_below HR0_2.out (bT2 HB GE414 GE415))); (case side2 => exact HC0_2.out); (case side3 => exact cT (Kd.C_below HR1_2.out (bT2 HB GE414 GE415))); (case side4 => exact HC1_2.out); rintro e w' ⟨rfl, ⟨nd, rfl⟩⟩; (try first | exact ⟨rfl, _, World.drewN_drewN _ _ _⟩ | exact ⟨rfl, _, Eq.trans (World.drewN_drewN _ _ _) (congrArg (World.drewN _) (Nat.add_assoc _ _ _))⟩)))
      repeat (go_quiet (first | (go_at_call 69; (with_reducible refine (spec_l6Rows.calls k _ _ l0_1 _ _ l1_1 true _ ?side1 ?side2 ?side3 ?side4 A7.out).mono ?_); (case side1 => exact cT (Kd.C_below HR0_1.out HB.out)); (case side2 => exact HC0_1.out); (case side3 => exact cT (Kd.C_below HR1_1.out HB.out)); (case side4 => exact HC1_1.out); rintro e w' ⟨rfl, ⟨nd, rfl⟩⟩; (try first | exact ⟨rfl, _, World.drewN_drewN _ _ _⟩ | exact ⟨rfl, _, Eq.trans (World.drewN_drewN _ _ _) (congrArg (World.drewN _) (Nat.add_assoc _ _ _))⟩)) | (go_at_call 69; (with_reducible refine (spec_l6Rows.calls k _ _ l0_2 _ _ l1_2 true _ ?side1 ?side2 ?side3 ?side4 A9.out).mono ?_); (case side1 => exact cT (Kd.C_below HR0_2.out (bT2 HB GE414 GE415))); (case side2 => exact HC0_2.out); (case side3 => exact cT (Kd.C_below HR1_2.out (bT2 HB GE414 GE415))); (case side4 => exact HC1_2.out); rintro e w' ⟨rfl, ⟨nd, rfl⟩⟩; (try first | exact ⟨rfl, _, World.drewN_drewN _ _ _⟩ | exact ⟨rfl, _, Eq.trans (World.drewN_drewN _ _ _) (congrArg (World.drewN _) (Nat.add_assoc _ _ _))⟩))); try go_wp2_with (first | (go_at_call 69; (with_reducible refine (spec_l6Rows.calls k _ _ l0_1 _ _ l1_1 true _ ?side1 ?side2 ?side3 ?side4 A7.out).mono ?_); (case side1 => exact cT (Kd.C_below HR0_1.out HB.out)); (case side2 => exact HC0_1.out); (case side3 => exact cT (Kd.C_below HR1_1.out HB.out)); (case side4 => exact HC1_1.out); rintro e w' ⟨rfl, ⟨nd, rfl⟩⟩; (try first | exact ⟨rfl, _, World.drewN_drewN _ _ _⟩ | exact ⟨rfl, _, Eq.trans (World.drewN_drewN _ _ _) (congrArg (World.drewN _) (Nat.add_assoc _ _ _))⟩)) | (go_at_call 69; (with_reducible refine (spec_l6Rows.calls k _ _ l0_2 _ _ l1_2 true _ ?side1 ?side2 ?side3 ?side4 A9.out).mono ?_); (case side1 => exact cT (Kd.C_below HR0_2.out (bT2 HB GE414 GE415))); (case side2 => exact HC0_2.out); (case side3 => exact cT (Kd.C_below HR1_2.out (bT2 HB GE414 GE415))); (case side4 => exact HC1_2.out); rintro e w' ⟨rfl, ⟨nd, rfl⟩⟩; (try first | exact ⟨rfl, _, World.drewN_drewN _ _ _⟩ | exact ⟨rfl, _, Eq.trans (World.drewN_drewN _ _ _) (congrArg (World.drewN _) (Nat.add_assoc _ _ _))⟩))))
      go_meet
      case rel => exact ⟨_, (true), sT, H', ⟨by first | omega | exact Nat.le_refl _⟩, ⟨kT BK414⟩, ⟨kT BK415⟩, ⟨bT2 HB GE414 GE415⟩⟩
    ·
     replace c10 := Bool.eq_false_iff.mpr c10
     subst c10
     rw [if_neg (show ¬ (false = true) by decide)] at H
     have H' := mA H
     clear H
     have hnb18 := NB414_415.out
     have hnc18 := NB415_414.out
     have hcz19_0 : w5.cell? ⟨gb414, 0, none⟩ = some (.int .i64 a0_0) := (blk_cell BK414.out 0).trans rfl
     have hcz19_1 : w5.cell? ⟨gb414, 1, none⟩ = some (.slice A0_1 l0_1.length c0_1) := (blk_cell BK414.out 1).trans rfl
     have hcz19_2 : w5.cell? ⟨gb414, 2, none⟩ = some (.slice A0_2 l0_2.length c0_2) := (blk_cell BK414.out 2).trans rfl
     have hcz19_3 : w5.cell? ⟨gb414, 3, none⟩ = some (.slice A0_3 l0_3.length c0_3) := (blk_cell BK414.out 3).trans rfl
     have hcz19_4 : w5.cell? ⟨gb414, 4, none⟩ = some (.int .i64 a0_4) := (blk_cell BK414.out 4).trans rfl
     have hfz19_0 := blk_frozen BK414.out 0
     have hfz19_1 := blk_frozen BK414.out 1
     have hfz19_2 := blk_frozen BK414.out 2
     have hfz19_3 := blk_frozen BK414.out 3
     have hfz19_4 := blk_frozen BK414.out 4
     have hcz20_0 : w5.cell? ⟨gb415, 0, none⟩ = some (.int .i64 a1_0) := (blk_cell BK415.out 0).trans rfl
     have hcz20_1 : w5.cell? ⟨gb415, 1, none⟩ = some (.slice A1_1 l1_1.length c1_1) := (blk_cell BK415.out 1).trans rfl
     have hcz20_2 : w5.cell? ⟨gb415, 2, none⟩ = some (.slice A1_2 l1_2.length c1_2) := (blk_cell BK415.out 2).trans rfl
     have hcz20_3 : w5.cell? ⟨gb415, 3, none⟩ = some (.slice A1_3 l1_3.length c1_3) := (blk_cell BK415.out 3).trans rfl
     have hcz20_4 : w5.cell? ⟨gb415, 4, none⟩ = some (.int .i64 a1_4) := (blk_cell BK415.out 4).trans rfl
     have hfz20_0 := blk_frozen BK415.out 0
     have hfz20_1 := blk_frozen BK415.out 1
     have hfz20_2 := blk_frozen BK415.out 2
     have hfz20_3 := blk_frozen BK415.out 3
     have hfz20_4 := blk_frozen BK415.out 4
     go_wp2_with (first | (go_at_call 69; (with_reducible refine (spec_l6Rows.calls k _ _ l0_1 _ _ l1_1 true _ ?side1 ?side2 ?side3 ?side4 A7.out).mono ?_); (case side1 => exact cT (Kd.C_below HR0_1.out HB.out)); (case side2 => exact HC0_1.out); (case side3 => exact cT (Kd.C_below HR1_1.out HB.out)); (case side4 => exact HC1_1.out); rintro e w' ⟨rfl, ⟨nd, rfl⟩⟩; (try first | exact ⟨rfl, _, World.drewN_drewN _ _ _⟩ | exact ⟨rfl, _, Eq.trans (World.drewN_drewN _ _ _) (congrArg (World.drewN _) (Nat.add_assoc _ _ _))⟩)) | (go_at_call 69; (with_reducible refine (spec_l6Rows.calls k _ _ l0_2 _ _ l1_2 false _ ?side1 ?side2 ?side3 ?side4 A9.out).mono ?_); (case side1 => exact cT (Kd.C_below HR0_2.out (bT2 HB GE414 GE415))); (case side2 => exact HC0_2.out); (case side3 => exact cT (Kd.C_below HR1_2.out (bT2 HB GE414 GE415))); (case side4 => exact HC1_2.out); rintro e w' ⟨rfl, ⟨nd, rfl⟩⟩; (try first | exact ⟨rfl, _, World.drewN_drewN _ _ _⟩ | exact ⟨rfl, _, Eq.trans (World.drewN_drewN _ _ _) (congrArg (World.drewN _) (Nat.add_assoc _ _ _))⟩)))
     repeat (go_quiet (first | (go_at_call 69; (with_reducible refine (spec_l6Rows.calls k _ _ l0_1 _ _ l1_1 true _ ?side1 ?side2 ?side3 ?side4 A7.out).mono ?_); (case side1 => exact cT (Kd.C_below HR0_1.out HB.out)); (case side2 => exact HC0_1.out); (case side3 => exact cT (Kd.C_below HR1_1.out HB.out)); (case side4 => exact HC1_1.out); rintro e w' ⟨rfl, ⟨nd, rfl⟩⟩; (try first | exact ⟨rfl, _, World.drewN_drewN _ _ _⟩ | exact ⟨rfl, _, Eq.trans (World.drewN_drewN _ _ _) (congrArg (World.drewN _) (Nat.add_assoc _ _ _))⟩)) | (go_at_call 69; (with_reducible refine (spec_l6Rows.calls k _ _ l0_2 _ _ l1_2 false _ ?side1 ?side2 ?side3 ?side4 A9.out).mono ?_); (case side1 => exact cT (Kd.C_below HR0_2.out (bT2 HB GE414 GE415))); (case side2 => exact HC0_2.out); (case side3 => exact cT (Kd.C_below HR1_2.out (bT2 HB GE414 GE415))); (case side4 => exact HC1_2.out); rintro e w' ⟨rfl, ⟨nd, rfl⟩⟩; (try first | exact ⟨rfl, _, World.drewN_drewN _ _ _⟩ | exact ⟨rfl, _, Eq.trans (World.drewN_drewN _ _ _) (congrArg (World.drewN _) (Nat.add_assoc _ _ _))⟩))); try go_wp2_with (first | (go_at_call 69; (with_reducible refine (spec_l6Rows.calls k _ _ l0_1 _ _ l1_1 true _ ?side1 ?side2 ?side3 ?side4 A7.out).mono ?_); (case side1 => exact cT (Kd.C_below HR0_1.out HB.out)); (case side2 => exact HC0_1.out); (case side3 => exact cT (Kd.C_below HR1_1.out HB.out)); (case side4 => exact HC1_1.out); rintro e w' ⟨rfl, ⟨nd, rfl⟩⟩; (try first | exact ⟨rfl, _, World.drewN_drewN _ _ _⟩ | exact ⟨rfl, _, Eq.trans (World.drewN_drewN _ _ _) (congrArg (World.drewN _) (Nat.add_assoc _ _ _))⟩)) | (go_at_call 69; (with_reducible refine (spec_l6Rows.calls k _ _ l0_2 _ _ l1_2 false _ ?side1 ?side2 ?side3 ?side4 A9.out).mono ?_); (case side1 => exact cT (Kd.C_below HR0_2.out (bT2 HB GE414 GE415))); (case side2 => exact HC0_2.out); (case side3 => exact cT (Kd.C_below HR1_2.out (bT2 HB GE414 GE415))); (case side4 => exact HC1_2.out); rintro e w' ⟨rfl, ⟨nd, rfl⟩⟩; (try first | exact ⟨rfl, _, World.drewN_drewN _ _ _⟩ | exact ⟨rfl, _, Eq.trans (World.drewN_drewN _ _ _) (congrArg (World.drewN _) (Nat.add_assoc _ _ _))⟩))))
     go_meet
     case rel => exact ⟨_, (true), sT, H', ⟨by first | omega | exact Nat.le_refl _⟩, ⟨kT BK414⟩, ⟨kT BK415⟩, ⟨bT2 HB GE414 GE415⟩⟩
   ·
    replace c8 := Bool.eq_false_iff.mpr c8
    subst c8
    rw [if_neg (show ¬ (false = true) by decide)] at H
    have H' := mA H
    clear H
    have hnb21 := NB414_415.out
    have hnc21 := NB415_414.out
    have hcz22_0 : w5.cell? ⟨gb414, 0, none⟩ = some (.int .i64 a0_0) := (blk_cell BK414.out 0).trans rfl
    have hcz22_1 : w5.cell? ⟨gb414, 1, none⟩ = some (.slice A0_1 l0_1.length c0_1) := (blk_cell BK414.out 1).trans rfl
    have hcz22_2 : w5.cell? ⟨gb414, 2, none⟩ = some (.slice A0_2 l0_2.length c0_2) := (blk_cell BK414.out 2).trans rfl
    have hcz22_3 : w5.cell? ⟨gb414, 3, none⟩ = some (.slice A0_3 l0_3.length c0_3) := (blk_cell BK414.out 3).trans rfl
    have hcz22_4 : w5.cell? ⟨gb414, 4, none⟩ = some (.int .i64 a0_4) := (blk_cell BK414.out 4).trans rfl
    have hfz22_0 := blk_frozen BK414.out 0
    have hfz22_1 := blk_frozen BK414.out 1
    have hfz22_2 := blk_frozen BK414.out 2
    have hfz22_3 := blk_frozen BK414.out 3
    have hfz22_4 := blk_frozen BK414.out 4
    have hcz23_0 : w5.cell? ⟨gb415, 0, none⟩ = some (.int .i64 a1_0) := (blk_cell BK415.out 0).trans rfl
    have hcz23_1 : w5.cell? ⟨gb415, 1, none⟩ = some (.slice A1_1 l1_1.length c1_1) := (blk_cell BK415.out 1).trans rfl
    have hcz23_2 : w5.cell? ⟨gb415, 2, none⟩ = some (.slice A1_2 l1_2.length c1_2) := (blk_cell BK415.out 2).trans rfl
    have hcz23_3 : w5.cell? ⟨gb415, 3, none⟩ = some (.slice A1_3 l1_3.length c1_3) := (blk_cell BK415.out 3).trans rfl
    have hcz23_4 : w5.cell? ⟨gb415, 4, none⟩ = some (.int .i64 a1_4) := (blk_cell BK415.out 4).trans rfl
    have hfz23_0 := blk_frozen BK415.out 0
    have hfz23_1 := blk_frozen BK415.out 1
    have hfz23_2 := blk_frozen BK415.out 2
    have hfz23_3 := blk_frozen BK415.out 3
    have hfz23_4 := blk_frozen BK415.out 4
    go_wp2_with (first | (go_at_call 69; (with_reducible refine (spec_l6Rows.calls k _ _ l0_1 _ _ l1_1 false _ ?side1 ?side2 ?side3 ?side4 A7.out).mono ?_); (case side1 => exact cT (Kd.C_below HR0_1.out HB.out)); (case side2 => exact HC0_1.out); (case side3 => exact cT (Kd.C_below HR1_1.out HB.out)); (case side4 => exact HC1_1.out); rintro e w' ⟨rfl, ⟨nd, rfl⟩⟩; (try first | exact ⟨rfl, _, World.drewN_drewN _ _ _⟩ | exact ⟨rfl, _, Eq.trans (World.drewN_drewN _ _ _) (congrArg (World.drewN _) (Nat.add_assoc _ _ _))⟩)))
    repeat (go_quiet (first | (go_at_call 69; (with_reducible refine (spec_l6Rows.calls k _ _ l0_1 _ _ l1_1 false _ ?side1 ?side2 ?side3 ?side4 A7.out).mono ?_); (case side1 => exact cT (Kd.C_below HR0_1.out HB.out)); (case side2 => exact HC0_1.out); (case side3 => exact cT (Kd.C_below HR1_1.out HB.out)); (case side4 => exact HC1_1.out); rintro e w' ⟨rfl, ⟨nd, rfl⟩⟩; (try first | exact ⟨rfl, _, World.drewN_drewN _ _ _⟩ | exact ⟨rfl, _, Eq.trans (World.drewN_drewN _ _ _) (congrArg (World.drewN _) (Nat.add_assoc _ _ _))⟩))); try go_wp2_with (first | (go_at_call 69; (with_reducible refine (spec_l6Rows.calls k _ _ l0_1 _ _ l1_1 false _ ?side1 ?side2 ?side3 ?side4 A7.out).mono ?_); (case side1 => exact cT (Kd.C_below HR0_1.out HB.out)); (case side2 => exact HC0_1.out); (case side3 => exact cT (Kd.C_below HR1_1.out HB.out)); (case side4 => exact HC1_1.out); rintro e w' ⟨rfl, ⟨nd, rfl⟩⟩; (try first | exact ⟨rfl, _, World.drewN_drewN _ _ _⟩ | exact ⟨rfl, _, Eq.trans (World.drewN_drewN _ _ _) (congrArg (World.drewN _) (Nat.add_assoc _ _ _))⟩))))
    go_meet
    case rel => exact ⟨_, (true), sT, H', ⟨by first | omega | exact Nat.le_refl _⟩, ⟨kT BK414⟩, ⟨kT BK415⟩, ⟨bT2 HB GE414 GE415⟩⟩
  ·
   rw [if_neg c6] at H
   have c6b0 : (a0_0 == a1_0) = false := beq_eq_false_iff_ne.mpr c6
   have c6b1 : (a0_0 != a1_0) = true := bne_iff_ne.mpr c6
   (first | rw [c6b0] | (simp only [i64_w, i32_w]; rw [c6b0]) | skip)
   have H' := mA H
   clear H
   have hnb24 := NB414_415.out
   have hnc24 := NB415_414.out
   have hcz25_0 : w5.cell? ⟨gb414, 0, none⟩ = some (.int .i64 a0_0) := (blk_cell BK414.out 0).trans rfl
   have hcz25_1 : w5.cell? ⟨gb414, 1, none⟩ = some (.slice A0_1 l0_1.length c0_1) := (blk_cell BK414.out 1).trans rfl
   have hcz25_2 : w5.cell? ⟨gb414, 2, none⟩ = some (.slice A0_2 l0_2.length c0_2) := (blk_cell BK414.out 2).trans rfl
   have hcz25_3 : w5.cell? ⟨gb414, 3, none⟩ = some (.slice A0_3 l0_3.length c0_3) := (blk_cell BK414.out 3).trans rfl
   have hcz25_4 : w5.cell? ⟨gb414, 4, none⟩ = some (.int .i64 a0_4) := (blk_cell BK414.out 4).trans rfl
   have hfz25_0 := blk_frozen BK414.out 0
   have hfz25_1 := blk_frozen BK414.out 1
   have hfz25_2 := blk_frozen BK414.out 2
   have hfz25_3 := blk_frozen BK414.out 3
   have hfz25_4 := blk_frozen BK414.out 4
   have hcz26_0 : w5.cell? ⟨gb415, 0, none⟩ = some (.int .i64 a1_0) := (blk_cell BK415.out 0).trans rfl
   have hcz26_1 : w5.cell? ⟨gb415, 1, none⟩ = some (.slice A1_1 l1_1.length c1_1) := (blk_cell BK415.out 1).trans rfl
   have hcz26_2 : w5.cell? ⟨gb415, 2, none⟩ = some (.slice A1_2 l1_2.length c1_2) := (blk_cell BK415.out 2).trans rfl
   have hcz26_3 : w5.cell? ⟨gb415, 3, none⟩ = some (.slice A1_3 l1_3.length c1_3) := (blk_cell BK415.out 3).trans rfl
   have hcz26_4 : w5.cell? ⟨gb415, 4, none⟩ = some (.int .i64 a1_4) := (blk_cell BK415.out 4).trans rfl
   have hfz26_0 := blk_frozen BK415.out 0
   have hfz26_1 := blk_frozen BK415.out 1
   have hfz26_2 := blk_frozen BK415.out 2
   have hfz26_3 := blk_frozen BK415.out 3
   have hfz26_4 := blk_frozen BK415.out 4
   go_wp2
   repeat (go_quiet (fail); try go_wp2)
   go_meet
   case rel => exact ⟨_, (true), sT, H', ⟨by first | omega | exact Nat.le_refl _⟩, ⟨kT BK414⟩, ⟨kT BK415⟩, ⟨bT2 HB GE414 GE415⟩⟩
 case rest =>
  clear HC3
  try clear c1
  try clear c2
  try clear p2
  try clear c3
  try clear c6
  try clear c6b0
  try clear c6b1
  try clear c8
  try clear c10
  try clear c11
  try clear c11b0
  try clear c11b1
  try clear c12
  try clear c15
  try clear c18
  try clear c21
  try clear c24
  try clear hcz13_0
  try clear hcz13_1
  try clear hcz13_2
  try clear hcz13_3
  try clear hcz13_4
  try clear hcz14_0
  try clear hcz14_1
  try clear hcz14_2
  try clear hcz14_3
  try clear hcz14_4
  try clear hcz16_0
  try clear hcz16_1
  try clear hcz16_2
  try clear hcz16_3
  try clear hcz16_4
  try clear hcz17_0
  try clear hcz17_1
  try clear hcz17_2
  try clear hcz17_3
  try clear hcz17_4
  try clear hcz19_0
  try clear hcz19_1
  try clear hcz19_2
  try clear hcz19_3
  try clear hcz19_4
  try clear hcz20_0
  try clear hcz20_1
  try clear hcz20_2
  try clear hcz20_3
  try clear hcz20_4
  try clear hcz22_0
  try clear hcz22_1
  try clear hcz22_2
  try clear hcz22_3
  try clear hcz22_4
  try clear hcz23_0
  try clear hcz23_1
  try clear hcz23_2
  try clear hcz23_3
  try clear hcz23_4
  try clear hcz25_0
  try clear hcz25_1
  try clear hcz25_2
  try clear hcz25_3
  try clear hcz25_4
  try clear hcz26_0
  try clear hcz26_1
  try clear hcz26_2
  try clear hcz26_3
  try clear hcz26_4
  try clear hfz13_0
  try clear hfz13_1
  try clear hfz13_2
  try clear hfz13_3
  try clear hfz13_4
  try clear hfz14_0
  try clear hfz14_1
  try clear hfz14_2
  try clear hfz14_3
  try clear hfz14_4
  try clear hfz16_0
  try clear hfz16_1
  try clear hfz16_2
  try clear hfz16_3
  try clear hfz16_4
  try clear hfz17_0
  try clear hfz17_1
  try clear hfz17_2
  try clear hfz17_3
  try clear hfz17_4
  try clear hfz19_0
  try clear hfz19_1
  try clear hfz19_2
  try clear hfz19_3
  try clear hfz19_4
  try clear hfz20_0
  try clear hfz20_1
  try clear hfz20_2
  try clear hfz20_3
  try clear hfz20_4
  try clear hfz22_0
  try clear hfz22_1
  try clear hfz22_2
  try clear hfz22_3
  try clear hfz22_4
  try clear hfz23_0
  try clear hfz23_1
  try clear hfz23_2
  try clear hfz23_3
  try clear hfz23_4
  try clear hfz25_0
  try clear hfz25_1
  try clear hfz25_2
  try clear hfz25_3
  try clear hfz25_4
  try clear hfz26_0
  try clear hfz26_1
  try clear hfz26_2
  try clear hfz26_3
  try clear hfz26_4
  obtain ⟨kq, x42_2, rfl, HA, HJ2, BK414, BK415, HB⟩ := hcut
  cases kq with
  | zero => exact absurd HA.out (by simp [spec_EqualTasks.j0])
  | succ kj2 =>
   have H := HA.out
   clear HA
   simp only [spec_EqualTasks.j0] at H
   by_cases c27 : x42_2 = true
   ·
    subst c27
    rw [if_pos rfl] at H
    obtain rfl := Option.some.inj H
    go_wp2
    repeat (go_quiet (fail); try go_wp2)
    go_ret
    exact ⟨eT, bT2 HB GE414 GE415⟩
   ·
    replace c27 := Bool.eq_false_iff.mpr c27
    subst c27
    rw [if_neg (show ¬ (false = true) by decide)] at H
    have H' := mA H
    clear H
    go_wp2
    repeat (go_quiet (fail); try go_wp2)
    go_loopg [5] kj2 (fun kq v5 w' => ∃ (x5_2 : Int), v5 = .int .i64 x5_2 ∧ Aside0 (spec_EqualTasks.l0 kq x5_2 a0_0 l0_1 l0_2 l0_3 a0_4 a1_0 l1_1 l1_2 l1_3 a1_4 = some r) ∧ Aside0 (kq ≤ kj2) ∧ Aside0 (w'.heap[gb414]? = some (.cells #[.int .i64 a0_0, (.slice A0_1 l0_1.length c0_1), (.slice A0_2 l0_2.length c0_2), (.slice A0_3 l0_3.length c0_3), .int .i64 a0_4] 37 (0, 0))) ∧ Aside0 (w'.heap[gb415]? = some (.cells #[.int .i64 a1_0, (.slice A1_1 l1_1.length c1_1), (.slice A1_2 l1_2.length c1_2), (.slice A1_3 l1_3.length c1_3), .int .i64 a1_4] 37 (0, 0))) ∧ Aside0 (Below w.heap.size w w'))
    case atStart => exact ⟨(0), sT, H', ⟨Nat.le_refl _⟩, ⟨kT BK414⟩, ⟨kT BK415⟩, ⟨bT2 HB GE414 GE415⟩⟩
    case round =>
     clear H'
     try clear c1
     try clear c2
     try clear p2
     try clear c3
     try clear c6
     try clear c6b0
     try clear c6b1
     try clear c8
     try clear c10
     try clear c11
     try clear c11b0
     try clear c11b1
     try clear c12
     try clear c15
     try clear c18
     try clear c21
     try clear c24
     try clear c27
     try clear hcz13_0
     try clear hcz13_1
     try clear hcz13_2
     try clear hcz13_3
     try clear hcz13_4
     try clear hcz14_0
     try clear hcz14_1
     try clear hcz14_2
     try clear hcz14_3
     try clear hcz14_4
     try clear hcz16_0
     try clear hcz16_1
     try clear hcz16_2
     try clear hcz16_3
     try clear hcz16_4
     try clear hcz17_0
     try clear hcz17_1
     try clear hcz17_2
     try clear hcz17_3
     try clear hcz17_4
     try clear hcz19_0
     try clear hcz19_1
     try clear hcz19_2
     try clear hcz19_3
     try clear hcz19_4
     try clear hcz20_0
     try clear hcz20_1
     try clear hcz20_2
     try clear hcz20_3
     try clear hcz20_4
     try clear hcz22_0
     try clear hcz22_1
     try clear hcz22_2
     try clear hcz22_3
     try clear hcz22_4
     try clear hcz23_0
     try clear hcz23_1
     try clear hcz23_2
     try clear hcz23_3
     try clear hcz23_4
     try clear hcz25_0
     try clear hcz25_1
     try clear hcz25_2
     try clear hcz25_3
     try clear hcz25_4
     try clear hcz26_0
     try clear hcz26_1
     try clear hcz26_2
     try clear hcz26_3
     try clear hcz26_4
     try clear hfz13_0
     try clear hfz13_1
     try clear hfz13_2
     try clear hfz13_3
     try clear hfz13_4
     try clear hfz14_0
     try clear hfz14_1
     try clear hfz14_2
     try clear hfz14_3
     try clear hfz14_4
     try clear hfz16_0
     try clear hfz16_1
     try clear hfz16_2
     try clear hfz16_3
     try clear hfz16_4
     try clear hfz17_0
     try clear hfz17_1
     try clear hfz17_2
     try clear hfz17_3
     try clear hfz17_4
     try clear hfz19_0
     try clear hfz19_1
     try clear hfz19_2
     try clear hfz19_3
     try clear hfz19_4
     try clear hfz20_0
     try clear hfz20_1
     try clear hfz20_2
     try clear hfz20_3
     try clear hfz20_4
     try clear hfz22_0
     try clear hfz22_1
     try clear hfz22_2
     try clear hfz22_3
     try clear hfz22_4
     try clear hfz23_0
     try clear hfz23_1
     try clear hfz23_2
     try clear hfz23_3
     try clear hfz23_4
     try clear hfz25_0
     try clear hfz25_1
     try clear hfz25_2
     try clear hfz25_3
     try clear hfz25_4
     try clear hfz26_0
     try clear hfz26_1
     try clear hfz26_2
     try clear hfz26_3
     try clear hfz26_4
     try clear p2
     obtain ⟨x5_2, rfl, HA, HK2, BK414, BK415, HB⟩ := hrel
     cases gk with
     | zero => exact absurd HA.out (by simp [spec_EqualTasks.l0])
     | succ k2 =>
      have H := HA.out
      clear HA
      simp only [spec_EqualTasks.l0] at H
      by_cases c28 : x5_2 < (l0_3.length : Int)
      ·
       rw [if_pos c28] at H
       have c28b0 : decide (x5_2 < (l0_3.length : Int)) = true := decide_eq_true c28
       clear c28
       by_cases c29 : 0 ≤ x5_2
       ·
        rw [if_pos c29] at H
        have c29b0 : decide (0 ≤ x5_2) = true := decide_eq_true c29
        clear c29
        by_cases c30 : x5_2 < (l1_3.length : Int)
        ·
         rw [if_pos c30] at H
         have c30b0 : decide (x5_2 < (l1_3.length : Int)) = true := decide_eq_true c30
         clear c30
         by_cases c31 : ((rdOf false l0_3 x5_2) != (rdOf false l1_3 x5_2)) = true
         ·
          rw [if_pos c31] at H
          have c31b0 : ((rdOf false l0_3 x5_2) != (rdOf false l1_3 x5_2)) = true := c31
          (try (have c31b1 : decide ((rdOf false l0_3 x5_2) = (rdOf false l1_3 x5_2)) = false := by simpa using c31))
          (try (have c31b2 : ((rdOf false l0_3 x5_2) == (rdOf false l1_3 x5_2)) = false := by simpa using c31))
          (try (have c31b3 : ¬ ((rdOf false l0_3 x5_2) = (rdOf false l1_3 x5_2)) := by simpa using c31))
          clear c31
          obtain rfl := Option.some.inj H
          have hnb32 := NB414_415.out
          have hnc32 := NB415_414.out
          have hcz33_0 : wr.cell? ⟨gb414, 0, none⟩ = some (.int .i64 a0_0) := (blk_cell BK414.out 0).trans rfl
          have hcz33_1 : wr.cell? ⟨gb414, 1, none⟩ = some (.slice A0_1 l0_1.length c0_1) := (blk_cell BK414.out 1).trans rfl
          have hcz33_2 : wr.cell? ⟨gb414, 2, none⟩ = some (.slice A0_2 l0_2.length c0_2) := (blk_cell BK414.out 2).trans rfl
          have hcz33_3 : wr.cell? ⟨gb414, 3, none⟩ = some (.slice A0_3 l0_3.length c0_3) := (blk_cell BK414.out 3).trans rfl
          have hcz33_4 : wr.cell? ⟨gb414, 4, none⟩ = some (.int .i64 a0_4) := (blk_cell BK414.out 4).trans rfl
          have hfz33_0 := blk_frozen BK414.out 0
          have hfz33_1 := blk_frozen BK414.out 1
          have hfz33_2 := blk_frozen BK414.out 2
          have hfz33_3 := blk_frozen BK414.out 3
          have hfz33_4 := blk_frozen BK414.out 4
          have p418 : 0 ≤ (x5_2 : Int) := of_decide_eq_true aT
          have q418 : x5_2 < (l0_3.length : Int) := of_decide_eq_true aT
          obtain ⟨ad418, e418, hx418_0⟩ := Kd.at_bool HR0_3.out x5_2 p418 q418
          cases e418
          replace hx418_0 := (HB.out.cell (World.block_lt_of_cell? w _ hx418_0)).trans hx418_0
          replace p418 := eq_true p418
          replace q418 := eq_true q418
          have hcz34_0 : wr.cell? ⟨gb415, 0, none⟩ = some (.int .i64 a1_0) := (blk_cell BK415.out 0).trans rfl
          have hcz34_1 : wr.cell? ⟨gb415, 1, none⟩ = some (.slice A1_1 l1_1.length c1_1) := (blk_cell BK415.out 1).trans rfl
          have hcz34_2 : wr.cell? ⟨gb415, 2, none⟩ = some (.slice A1_2 l1_2.length c1_2) := (blk_cell BK415.out 2).trans rfl
          have hcz34_3 : wr.cell? ⟨gb415, 3, none⟩ = some (.slice A1_3 l1_3.length c1_3) := (blk_cell BK415.out 3).trans rfl
          have hcz34_4 : wr.cell? ⟨gb415, 4, none⟩ = some (.int .i64 a1_4) := (blk_cell BK415.out 4).trans rfl
          have hfz34_0 := blk_frozen BK415.out 0
          have hfz34_1 := blk_frozen BK415.out 1
          have hfz34_2 := blk_frozen BK415.out 2
          have hfz34_3 := blk_frozen BK415.out 3
          have hfz34_4 := blk_frozen BK415.out 4
          have p419 : 0 ≤ (x5_2 : Int) := of_decide_eq_true aT
          have q419 : x5_2 < (l1_3.length : Int) := of_decide_eq_true aT
          obtain ⟨ad419, e419, hx419_0⟩ := Kd.at_bool HR1_3.out x5_2 p419 q419
          cases e419
          replace hx419_0 := (HB.out.cell (World.block_lt_of_cell? w _ hx419_0)).trans hx419_0
          replace p419 := eq_true p419
          replace q419 := eq_true q419
          go_wp2
          repeat (go_quiet (fail); try go_wp2)
          go_ret
          exact ⟨eT, bT2 HB GE414 GE415⟩
         ·
          rw [if_neg c31] at H
          have c31b0 : ((rdOf false l0_3 x5_2) != (rdOf false l1_3 x5_2)) = false := by simpa using c31
          (try (have c31b1 : decide ((rdOf false l0_3 x5_2) = (rdOf false l1_3 x5_2)) = true := by simpa using c31))
          (try (have c31b2 : ((rdOf false l0_3 x5_2) == (rdOf false l1_3 x5_2)) = true := by simpa using c31))
          clear c31
          have H' := mA H
          clear H
          have hnb35 := NB414_415.out
          have hnc35 := NB415_414.out
          have hcz36_0 : wr.cell? ⟨gb414, 0, none⟩ = some (.int .i64 a0_0) := (blk_cell BK414.out 0).trans rfl
          have hcz36_1 : wr.cell? ⟨gb414, 1, none⟩ = some (.slice A0_1 l0_1.length c0_1) := (blk_cell BK414.out 1).trans rfl
          have hcz36_2 : wr.cell? ⟨gb414, 2, none⟩ = some (.slice A0_2 l0_2.length c0_2) := (blk_cell BK414.out 2).trans rfl
          have hcz36_3 : wr.cell? ⟨gb414, 3, none⟩ = some (.slice A0_3 l0_3.length c0_3) := (blk_cell BK414.out 3).trans rfl
          have hcz36_4 : wr.cell? ⟨gb414, 4, none⟩ = some (.int .i64 a0_4) := (blk_cell BK414.out 4).trans rfl
          have hfz36_0 := blk_frozen BK414.out 0
          have hfz36_1 := blk_frozen BK414.out 1
          have hfz36_2 := blk_frozen BK414.out 2
          have hfz36_3 := blk_frozen BK414.out 3
          have hfz36_4 := blk_frozen BK414.out 4
          have p418 : 0 ≤ (x5_2 : Int) := of_decide_eq_true aT
          have q418 : x5_2 < (l0_3.length : Int) := of_decide_eq_true aT
          obtain ⟨ad418, e418, hx418_0⟩ := Kd.at_bool HR0_3.out x5_2 p418 q418
          cases e418
          replace hx418_0 := (HB.out.cell (World.block_lt_of_cell? w _ hx418_0)).trans hx418_0
          replace p418 := eq_true p418
          replace q418 := eq_true q418
          have hcz37_0 : wr.cell? ⟨gb415, 0, none⟩ = some (.int .i64 a1_0) := (blk_cell BK415.out 0).trans rfl
          have hcz37_1 : wr.cell? ⟨gb415, 1, none⟩ = some (.slice A1_1 l1_1.length c1_1) := (blk_cell BK415.out 1).trans rfl
          have hcz37_2 : wr.cell? ⟨gb415, 2, none⟩ = some (.slice A1_2 l1_2.length c1_2) := (blk_cell BK415.out 2).trans rfl
          have hcz37_3 : wr.cell? ⟨gb415, 3, none⟩ = some (.slice A1_3 l1_3.length c1_3) := (blk_cell BK415.out 3).trans rfl
          have hcz37_4 : wr.cell? ⟨gb415, 4, none⟩ = some (.int .i64 a1_4) := (blk_cell BK415.out 4).trans rfl
          have hfz37_0 := blk_frozen BK415.out 0
          have hfz37_1 := blk_frozen BK415.out 1
          have hfz37_2 := blk_frozen BK415.out 2
          have hfz37_3 := blk_frozen BK415.out 3
          have hfz37_4 := blk_frozen BK415.out 4
          have p419 : 0 ≤ (x5_2 : Int) := of_decide_eq_true aT
          have q419 : x5_2 < (l1_3.length : Int) := of_decide_eq_true aT
          obtain ⟨ad419, e419, hx419_0⟩ := Kd.at_bool HR1_3.out x5_2 p419 q419
          cases e419
          replace hx419_0 := (HB.out.cell (World.block_lt_of_cell? w _ hx419_0)).trans hx419_0
          replace p419 := eq_true p419
          replace q419 := eq_true q419
          go_wp2
          repeat (go_quiet (fail); try go_wp2)
          go_roundg k2
          case measure => have := HJ2.out; have := HK2.out; omega
          case rel => exact ⟨(wrap64 (x5_2 + 1)), sT, H', ⟨by have := HJ2.out; have := HK2.out; omega⟩, ⟨kT BK414⟩, ⟨kT BK415⟩, ⟨bT2 HB GE414 GE415⟩⟩
        ·
         rw [if_neg c30] at H
         exact absurd H (by simp)
       ·
        rw [if_neg c29] at H
        exact absurd H (by simp)
      ·
       rw [if_neg c28] at H
       have c28b0 : decide (x5_2 < (l0_3.length : Int)) = false := decide_eq_false c28
       clear c28
       obtain rfl := Option.some.inj H
       have hnb38 := NB414_415.out
       have hnc38 := NB415_414.out
       have hcz39_0 : wr.cell? ⟨gb414, 0, none⟩ = some (.int .i64 a0_0) := (blk_cell BK414.out 0).trans rfl
       have hcz39_1 : wr.cell? ⟨gb414, 1, none⟩ = some (.slice A0_1 l0_1.length c0_1) := (blk_cell BK414.out 1).trans rfl
       have hcz39_2 : wr.cell? ⟨gb414, 2, none⟩ = some (.slice A0_2 l0_2.length c0_2) := (blk_cell BK414.out 2).trans rfl
       have hcz39_3 : wr.cell? ⟨gb414, 3, none⟩ = some (.slice A0_3 l0_3.length c0_3) := (blk_cell BK414.out 3).trans rfl
       have hcz39_4 : wr.cell? ⟨gb414, 4, none⟩ = some (.int .i64 a0_4) := (blk_cell BK414.out 4).trans rfl
       have hfz39_0 := blk_frozen BK414.out 0
       have hfz39_1 := blk_frozen BK414.out 1
       have hfz39_2 := blk_frozen BK414.out 2
       have hfz39_3 := blk_frozen BK414.out 3
       have hfz39_4 := blk_frozen BK414.out 4
       go_wp2
       repeat (go_quiet (fail); try go_wp2)
       go_ret
       exact ⟨eT, bT2 HB GE414 GE415⟩

/-! ### impl_equal: function 70 -/
def impl_equal.l0 : Nat → List (S62) → List (S62) → Int → Int → Option (Bool)
 | 0, _, _, _, _ => none
 | k + 1, x0, x1, x12, x13 => if x13 < x12 then (if 0 ≤ x13 then (if x13 < (x0.length : Int) then (if x13 < (x1.length : Int) then (if (!(((rd_T62 x0 x13).f0) == ((rd_T62 x1 x13).f0)) || (!(((rd_T62 x0 x13).f1) == ((rd_T62 x1 x13).f1)) || (!(((rd_T62 x0 x13).f2) == ((rd_T62 x1 x13).f2))))) = true then (some false) else (impl_equal.l0 k x0 x1 x12 (wrap64 (x13 + 1)))) else (none)) else (none)) else (none)) else (some true)
def impl_equal.f (k : Nat) (l0 : List (S62)) (l1 : List (S62)) : Option (Bool) := if (l0.length : Int) = (l1.length : Int) then (impl_equal.l0 k l0 l1 (l0.length : Int) 0) else (some false)
theorem impl_equal.mono_l : ∀ k, (∀ y0 y1 y2 y3, LeO (impl_equal.l0 k y0 y1 y2 y3) (impl_equal.l0 (k + 1) y0 y1 y2 y3))
 | 0 => fun _ _ _ _ r h => by simp [impl_equal.l0] at h
 | k + 1 => by
  have ih0 := impl_equal.mono_l k
  ·
   intro y0 y1 y2 y3
   unfold impl_equal.l0
   repeat' first
   | (with_reducible exact ih0 _ _ _ _)
   | (with_reducible exact LeO.refl _)
   | (with_reducible exact LeO.none _)
   | (with_reducible refine LeO.ite ?_ ?_)
   | (with_reducible refine LeO.bind ?_ (fun _ => ?_))
   | exact ih0 _ _ _ _
   | exact LeO.none _
   | refine LeO.ite ?_ ?_
   | refine LeO.bind ?_ (fun _ => ?_)
theorem impl_equal.mono : ∀ a0 a1 k, LeO (impl_equal.f k a0 a1) (impl_equal.f (k + 1) a0 a1) := by
 intro a0 a1 k
 have ih0 := impl_equal.mono_l k
 unfold impl_equal.f
 repeat' first
   | (with_reducible exact ih0 _ _ _ _)
   | (with_reducible exact LeO.refl _)
   | (with_reducible exact LeO.none _)
   | (with_reducible refine LeO.ite ?_ ?_)
   | (with_reducible refine LeO.bind ?_ (fun _ => ?_))
   | exact ih0 _ _ _ _
   | exact LeO.none _
   | refine LeO.ite ?_ ?_
   | refine LeO.bind ?_ (fun _ => ?_)
set_option maxHeartbeats 8000000 in
set_option maxRecDepth 100000 in
theorem impl_equal.calls (k : Nat) (A0 : Option Addr) (c0 : Nat) (l0 : List (S62)) (A1 : Option Addr) (c1 : Nat) (l1 : List (S62)) (r : Bool) (w : World) (hr0 : Kd.C k62 w A0 l0.length l0) (hc0 : l0.length ≤ c0) (hr1 : Kd.C k62 w A1 l1.length l1) (hc1 : l1.length ≤ c1) (h : impl_equal.f k l0 l1 = some r) :
  Calls Try.prog 70 #[.slice A0 l0.length c0, .slice A1 l1.length c1] w fun e w' => e = .returned (.bool r) ∧ Drawn0 w w' := by
 have hu62 := Try.underlying62
 have HR0 := mA hr0
 have HC0 := mA hc0
 clear hr0 hc0
 have HR1 := mA hr1
 have HC1 := mA hc1
 clear hr1 hc1
 have H : (if (l0.length : Int) = (l1.length : Int) then (impl_equal.l0 k l0 l1 (l0.length : Int) 0) else (some false)) = some r := h
 clear h
 by_cases c3 : (l0.length : Int) = (l1.length : Int)
 ·
  rw [if_pos c3] at H
  have c3b0 : ((l0.length : Int) == (l1.length : Int)) = true := beq_iff_eq.mpr c3
  have c3b1 : ((l0.length : Int) != (l1.length : Int)) = false := bne_eq_false_iff_eq.mpr c3
  have c3b2 : (l0.length == l1.length) = true := by first | simpa using c3 | (simp at c3 ⊢; omega)
  clear c3
  have H' := mA H
  clear H
  go_enter Try.func70, Try.ntmps70
  go_wp2
  repeat (go_quiet (fail); try go_wp2)
  go_loopg [13] k (fun kq v13 w' => ∃ (x13_1 : Int), v13 = .int .i64 x13_1 ∧ Aside0 (impl_equal.l0 kq l0 l1 (l0.length : Int) x13_1 = some r) ∧ Aside0 (kq ≤ k) ∧ Drawn0 w w')
  case atStart => exact ⟨(0), sT, H', ⟨Nat.le_refl _⟩, by repeat (first | exact Drawn0.refl _ | apply Drawn0.step)⟩
  case round =>
   clear H'
   try clear c1
   try clear p2
   try clear c3
   try clear c3b0
   try clear c3b1
   try clear c3b2
   obtain ⟨x13_1, rfl, HA, HK1, ⟨m1, rfl⟩⟩ := hrel
   cases gk with
   | zero => exact absurd HA.out (by simp [impl_equal.l0])
   | succ k1 =>
    have H := HA.out
    clear HA
    simp only [impl_equal.l0] at H
    by_cases c4 : x13_1 < (l0.length : Int)
    ·
     rw [if_pos c4] at H
     have c4b0 : decide (x13_1 < (l0.length : Int)) = true := decide_eq_true c4
     clear c4
     by_cases c5 : 0 ≤ x13_1
     ·
      rw [if_pos c5] at H
      have c5b0 : decide (0 ≤ x13_1) = true := decide_eq_true c5
      clear c5
      by_cases c6 : x13_1 < (l0.length : Int)
      ·
       rw [if_pos c6] at H
       have c6b0 : decide (x13_1 < (l0.length : Int)) = true := decide_eq_true c6
       clear c6
       by_cases c7 : x13_1 < (l1.length : Int)
       ·
        rw [if_pos c7] at H
        have c7b0 : decide (x13_1 < (l1.length : Int)) = true := decide_eq_true c7
        clear c7
        by_cases c8 : (!(((rd_T62 l0 x13_1).f0) == ((rd_T62 l1 x13_1).f0)) || (!(((rd_T62 l0 x13_1).f1) == ((rd_T62 l1 x13_1).f1)) || (!(((rd_T62 l0 x13_1).f2) == ((rd_T62 l1 x13_1).f2))))) = true
        ·
         rw [if_pos c8] at H
         have c8b0 : (!(((rd_T62 l0 x13_1).f0) == ((rd_T62 l1 x13_1).f0)) || (!(((rd_T62 l0 x13_1).f1) == ((rd_T62 l1 x13_1).f1)) || (!(((rd_T62 l0 x13_1).f2) == ((rd_T62 l1 x13_1).f2))))) = true := c8
         clear c8
         obtain rfl := Option.some.inj H
         have p420 : 0 ≤ (x13_1 : Int) := of_decide_eq_true aT
         have q420 : x13_1 < (l0.length : Int) := of_decide_eq_true aT
         obtain ⟨ad420, e420, hx420_0, hx420_1, hx420_2⟩ := at_T62 HR0.out x13_1 p420 q420
         cases e420
         replace p420 := eq_true p420
         replace q420 := eq_true q420
         have p421 : 0 ≤ (x13_1 : Int) := of_decide_eq_true aT
         have q421 : x13_1 < (l1.length : Int) := of_decide_eq_true aT
         obtain ⟨ad421, e421, hx421_0, hx421_1, hx421_2⟩ := at_T62 HR1.out x13_1 p421 q421
         cases e421
         replace p421 := eq_true p421
         replace q421 := eq_true q421
         go_wp2
         repeat (go_quiet (fail); try go_wp2)
         go_ret
         exact ⟨sT, by repeat (first | exact Drawn0.refl _ | apply Drawn0.step)⟩
        ·
         rw [if_neg c8] at H
         have c8b0 : (!(((rd_T62 l0 x13_1).f0) == ((rd_T62 l1 x13_1).f0)) || (!(((rd_T62 l0 x13_1).f1) == ((rd_T62 l1 x13_1).f1)) || (!(((rd_T62 l0 x13_1).f2) == ((rd_T62 l1 x13_1).f2))))) = false := by simpa using c8
         clear c8
         have H' := mA H
         clear H
         have p420 : 0 ≤ (x13_1 : Int) := of_decide_eq_true aT
         have q420 : x13_1 < (l0.length : Int) := of_decide_eq_true aT
         obtain ⟨ad420, e420, hx420_0, hx420_1, hx420_2⟩ := at_T62 HR0.out x13_1 p420 q420
         cases e420
         replace p420 := eq_true p420
         replace q420 := eq_true q420
         have p421 : 0 ≤ (x13_1 : Int) := of_decide_eq_true aT
         have q421 : x13_1 < (l1.length : Int) := of_decide_eq_true aT
         obtain ⟨ad421, e421, hx421_0, hx421_1, hx421_2⟩ := at_T62 HR1.out x13_1 p421 q421
         cases e421
         replace p421 := eq_true p421
         replace q421 := eq_true q421
         go_wp2
         repeat (go_quiet (fail); try go_wp2)
         go_roundg k1
         case measure => have := HK1.out; omega
         case rel => exact ⟨(wrap64 (x13_1 + 1)), sT, H', ⟨by have := HK1.out; omega⟩, by repeat (first | exact Drawn0.refl _ | apply Drawn0.step)⟩
       ·
        rw [if_neg c7] at H
        exact absurd H (by simp)
      ·
       rw [if_neg c6] at H
       exact absurd H (by simp)
     ·
      rw [if_neg c5] at H
      exact absurd H (by simp)
    ·
     rw [if_neg c4] at H
     have c4b0 : decide (x13_1 < (l0.length : Int)) = false := decide_eq_false c4
     clear c4
     obtain rfl := Option.some.inj H
     go_wp2
     repeat (go_quiet (fail); try go_wp2)
     go_ret
     exact ⟨sT, by repeat (first | exact Drawn0.refl _ | apply Drawn0.step)⟩
 ·
  rw [if_neg c3] at H
  have c3b0 : ((l0.length : Int) == (l1.length : Int)) = false := beq_eq_false_iff_ne.mpr c3
  have c3b1 : ((l0.length : Int) != (l1.length : Int)) = true := bne_iff_ne.mpr c3
  have c3b2 : (l0.length == l1.length) = false := by first | simpa using c3 | (simp at c3 ⊢; omega)
  obtain rfl := Option.some.inj H
  go_enter Try.func70, Try.ntmps70
  go_wp2
  repeat (go_quiet (fail); try go_wp2)
  go_ret
  exact ⟨sT, by repeat (first | exact Drawn0.refl _ | apply Drawn0.step)⟩

/-! ### slices_Equal_bool_bool: function 71 -/
def slices_Equal_bool_bool.l0 : Nat → List Bool → List Bool → Int → Int → Option (Bool)
 | 0, _, _, _, _ => none
 | k + 1, x0, x1, x12, x13 => if x13 < x12 then (if 0 ≤ x13 then (if x13 < (x0.length : Int) then (if x13 < (x1.length : Int) then (if ((rdOf false x0 x13) != (rdOf false x1 x13)) = true then (some false) else (slices_Equal_bool_bool.l0 k x0 x1 x12 (wrap64 (x13 + 1)))) else (none)) else (none)) else (none)) else (some true)
def slices_Equal_bool_bool.f (k : Nat) (l0 : List Bool) (l1 : List Bool) : Option (Bool) := if (l0.length : Int) = (l1.length : Int) then (slices_Equal_bool_bool.l0 k l0 l1 (l0.length : Int) 0) else (some false)
theorem slices_Equal_bool_bool.mono_l : ∀ k, (∀ y0 y1 y2 y3, LeO (slices_Equal_bool_bool.l0 k y0 y1 y2 y3) (slices_Equal_bool_bool.l0 (k + 1) y0 y1 y2 y3))
 | 0 => fun _ _ _ _ r h => by simp [slices_Equal_bool_bool.l0] at h
 | k + 1 => by
  have ih0 := slices_Equal_bool_bool.mono_l k
  ·
   intro y0 y1 y2 y3
   unfold slices_Equal_bool_bool.l0
   repeat' first
   | (with_reducible exact ih0 _ _ _ _)
   | (with_reducible exact LeO.refl _)
   | (with_reducible exact LeO.none _)
   | (with_reducible refine LeO.ite ?_ ?_)
   | (with_reducible refine LeO.bind ?_ (fun _ => ?_))
   | exact ih0 _ _ _ _
   | exact LeO.none _
   | refine LeO.ite ?_ ?_
   | refine LeO.bind ?_ (fun _ => ?_)
theorem slices_Equal_bool_bool.mono : ∀ a0 a1 k, LeO (slices_Equal_bool_bool.f k a0 a1) (slices_Equal_bool_bool.f (k + 1) a0 a1) := by
 intro a0 a1 k
 have ih0 := slices_Equal_bool_bool.mono_l k
 unfold slices_Equal_bool_bool.f
 repeat' first
   | (with_reducible exact ih0 _ _ _ _)
   | (with_reducible exact LeO.refl _)
   | (with_reducible exact LeO.none _)
   | (with_reducible refine LeO.ite ?_ ?_)
   | (with_reducible refine LeO.bind ?_ (fun _ => ?_))
   | exact ih0 _ _ _ _
   | exact LeO.none _
   | refine LeO.ite ?_ ?_
   | refine LeO.bind ?_ (fun _ => ?_)
set_option maxHeartbeats 8000000 in
set_option maxRecDepth 100000 in
theorem slices_Equal_bool_bool.calls (k : Nat) (A0 : Option Addr) (c0 : Nat) (l0 : List Bool) (A1 : Option Addr) (c1 : Nat) (l1 : List Bool) (r : Bool) (w : World) (hr0 : Kd.C Kd.bool w A0 l0.length l0) (hc0 : l0.length ≤ c0) (hr1 : Kd.C Kd.bool w A1 l1.length l1) (hc1 : l1.length ≤ c1) (h : slices_Equal_bool_bool.f k l0 l1 = some r) :
  Calls Try.prog 71 #[.slice A0 l0.length c0, .slice A1 l1.length c1] w fun e w' => e = .returned (.bool r) ∧ Drawn0 w w' := by
 have HR0 := mA hr0
 have HC0 := mA hc0
 clear hr0 hc0
 have HR1 := mA hr1
 have HC1 := mA hc1
 clear hr1 hc1
 have H : (if (l0.length : Int) = (l1.length : Int) then (slices_Equal_bool_bool.l0 k l0 l1 (l0.length : Int) 0) else (some false)) = some r := h
 clear h
 by_cases c3 : (l0.length : Int) = (l1.length : Int)
 ·
  rw [if_pos c3] at H
  have c3b0 : ((l0.length : Int) == (l1.length : Int)) = true := beq_iff_eq.mpr c3
  have c3b1 : ((l0.length : Int) != (l1.length : Int)) = false := bne_eq_false_iff_eq.mpr c3
  have c3b2 : (l0.length == l1.length) = true := by first | simpa using c3 | (simp at c3 ⊢; omega)
  clear c3
  have H' := mA H
  clear H
  go_enter Try.func71, Try.ntmps71
  go_wp2
  repeat (go_quiet (fail); try go_wp2)
  go_loopg [13] k (fun kq v13 w' => ∃ (x13_1 : Int), v13 = .int .i64 x13_1 ∧ Aside0 (slices_Equal_bool_bool.l0 kq l0 l1 (l0.length : Int) x13_1 = some r) ∧ Aside0 (kq ≤ k) ∧ Drawn0 w w')
  case atStart => exact ⟨(0), sT, H', ⟨Nat.le_refl _⟩, by repeat (first | exact Drawn0.refl _ | apply Drawn0.step)⟩
  case round =>
   clear H'
   try clear c1
   try clear p2
   try clear c3
   try clear c3b0
   try clear c3b1
   try clear c3b2
   obtain ⟨x13_1, rfl, HA, HK1, ⟨m1, rfl⟩⟩ := hrel
   cases gk with
   | zero => exact absurd HA.out (by simp [slices_Equal_bool_bool.l0])
   | succ k1 =>
    have H := HA.out
    clear HA
    simp only [slices_Equal_bool_bool.l0] at H
    by_cases c4 : x13_1 < (l0.length : Int)
    ·
     rw [if_pos c4] at H
     have c4b0 : decide (x13_1 < (l0.length : Int)) = true := decide_eq_true c4
     clear c4
     by_cases c5 : 0 ≤ x13_1
     ·
      rw [if_pos c5] at H
      have c5b0 : decide (0 ≤ x13_1) = true := decide_eq_true c5
      clear c5
      by_cases c6 : x13_1 < (l0.length : Int)
      ·
       rw [if_pos c6] at H
       have c6b0 : decide (x13_1 < (l0.length : Int)) = true := decide_eq_true c6
       clear c6
       by_cases c7 : x13_1 < (l1.length : Int)
       ·
        rw [if_pos c7] at H
        have c7b0 : decide (x13_1 < (l1.length : Int)) = true := decide_eq_true c7
        clear c7
        by_cases c8 : ((rdOf false l0 x13_1) != (rdOf false l1 x13_1)) = true
        ·
         rw [if_pos c8] at H
         have c8b0 : ((rdOf false l0 x13_1) != (rdOf false l1 x13_1)) = true := c8
         (try (have c8b1 : decide ((rdOf false l0 x13_1) = (rdOf false l1 x13_1)) = false := by simpa using c8))
         (try (have c8b2 : ((rdOf false l0 x13_1) == (rdOf false l1 x13_1)) = false := by simpa using c8))
         (try (have c8b3 : ¬ ((rdOf false l0 x13_1) = (rdOf false l1 x13_1)) := by simpa using c8))
         clear c8
         obtain rfl := Option.some.inj H
         have p422 : 0 ≤ (x13_1 : Int) := of_decide_eq_true aT
         have q422 : x13_1 < (l0.length : Int) := of_decide_eq_true aT
         obtain ⟨ad422, e422, hx422_0⟩ := Kd.at_bool HR0.out x13_1 p422 q422
         cases e422
         replace p422 := eq_true p422
         replace q422 := eq_true q422
         have p423 : 0 ≤ (x13_1 : Int) := of_decide_eq_true aT
         have q423 : x13_1 < (l1.length : Int) := of_decide_eq_true aT
         obtain ⟨ad423, e423, hx423_0⟩ := Kd.at_bool HR1.out x13_1 p423 q423
         cases e423
         replace p423 := eq_true p423
         replace q423 := eq_true q423
         go_wp2
         repeat (go_quiet (fail); try go_wp2)
         go_ret
         exact ⟨sT, by repeat (first | exact Drawn0.refl _ | apply Drawn0.step)⟩
        ·
         rw [if_neg c8] at H
         have c8b0 : ((rdOf false l0 x13_1) != (rdOf false l1 x13_1)) = false := by simpa using c8
         (try (have c8b1 : decide ((rdOf false l0 x13_1) = (rdOf false l1 x13_1)) = true := by simpa using c8))
         (try (have c8b2 : ((rdOf false l0 x13_1) == (rdOf false l1 x13_1)) = true := by simpa using c8))
         clear c8
         have H' := mA H
         clear H
         have p422 : 0 ≤ (x13_1 : Int) := of_decide_eq_true aT
         have q422 : x13_1 < (l0.length : Int) := of_decide_eq_true aT
         obtain ⟨ad422, e422, hx422_0⟩ := Kd.at_bool HR0.out x13_1 p422 q422
         cases e422
         replace p422 := eq_true p422
         replace q422 := eq_true q422
         have p423 : 0 ≤ (x13_1 : Int) := of_decide_eq_true aT
         have q423 : x13_1 < (l1.length : Int) := of_decide_eq_true aT
         obtain ⟨ad423, e423, hx423_0⟩ := Kd.at_bool HR1.out x13_1 p423 q423
         cases e423
         replace p423 := eq_true p423
         replace q423 := eq_true q423
         go_wp2
         repeat (go_quiet (fail); try go_wp2)
         go_roundg k1
         case measure => have := HK1.out; omega
         case rel => exact ⟨(wrap64 (x13_1 + 1)), sT, H', ⟨by have := HK1.out; omega⟩, by repeat (first | exact Drawn0.refl _ | apply Drawn0.step)⟩
       ·
        rw [if_neg c7] at H
        exact absurd H (by simp)
      ·
       rw [if_neg c6] at H
       exact absurd H (by simp)
     ·
      rw [if_neg c5] at H
      exact absurd H (by simp)
    ·
     rw [if_neg c4] at H
     have c4b0 : decide (x13_1 < (l0.length : Int)) = false := decide_eq_false c4
     clear c4
     obtain rfl := Option.some.inj H
     go_wp2
     repeat (go_quiet (fail); try go_wp2)
     go_ret
     exact ⟨sT, by repeat (first | exact Drawn0.refl _ | apply Drawn0.step)⟩
 ·
  rw [if_neg c3] at H
  have c3b0 : ((l0.length : Int) == (l1.length : Int)) = false := beq_eq_false_iff_ne.mpr c3
  have c3b1 : ((l0.length : Int) != (l1.length : Int)) = true := bne_iff_ne.mpr c3
  have c3b2 : (l0.length == l1.length) = false := by first | simpa using c3 | (simp at c3 ⊢; omega)
  obtain rfl := Option.some.inj H
  go_enter Try.func71, Try.ntmps71
  go_wp2
  repeat (go_quiet (fail); try go_wp2)
  go_ret
  exact ⟨sT, by repeat (first | exact Drawn0.refl _ | apply Drawn0.step)⟩

/-! ### impl_EqualTasks: function 32 -/
def impl_EqualTasks.f (k : Nat) (a0_0 : Int) (l0_1 : List (S62)) (l0_2 : List (S62)) (l0_3 : List Bool) (a0_4 : Int) (a1_0 : Int) (l1_1 : List (S62)) (l1_2 : List (S62)) (l1_3 : List Bool) (a1_4 : Int) : Option (Bool) := if a0_0 = a1_0 then ((impl_equal.f k l0_1 l1_1).bind fun t426 => (if t426 = true then ((impl_equal.f k l0_2 l1_2).bind fun t427 => (if t427 = true then ((slices_Equal_bool_bool.f k l0_3 l1_3).bind fun t428 => (if t428 = true then (some (a0_4 == a1_4)) else (some false))) else (some false))) else (some false))) else (some false)
theorem impl_EqualTasks.mono : ∀ a0 a1 a2 a3 a4 a5 a6 a7 a8 a9 k, LeO (impl_EqualTasks.f k a0 a1 a2 a3 a4 a5 a6 a7 a8 a9) (impl_EqualTasks.f (k + 1) a0 a1 a2 a3 a4 a5 a6 a7 a8 a9) := by
 intro a0 a1 a2 a3 a4 a5 a6 a7 a8 a9 k
 unfold impl_EqualTasks.f
 repeat' first
   | (with_reducible exact impl_equal.mono _ _ _)
   | (with_reducible exact slices_Equal_bool_bool.mono _ _ _)
   | (with_reducible exact LeO.refl _)
   | (with_reducible exact LeO.none _)
   | (with_reducible refine LeO.ite ?_ ?_)
   | (with_reducible refine LeO.bind ?_ (fun _ => ?_))
   | exact impl_equal.mono _ _ _
   | exact slices_Equal_bool_bool.mono _ _ _
   | exact LeO.none _
   | refine LeO.ite ?_ ?_
   | refine LeO.bind ?_ (fun _ => ?_)
set_option maxHeartbeats 8000000 in
set_option maxRecDepth 100000 in
theorem impl_EqualTasks.calls (k : Nat) (a0_0 : Int) (A0_1 : Option Addr) (c0_1 : Nat) (l0_1 : List (S62)) (A0_2 : Option Addr) (c0_2 : Nat) (l0_2 : List (S62)) (A0_3 : Option Addr) (c0_3 : Nat) (l0_3 : List Bool) (a0_4 : Int) (a1_0 : Int) (A1_1 : Option Addr) (c1_1 : Nat) (l1_1 : List (S62)) (A1_2 : Option Addr) (c1_2 : Nat) (l1_2 : List (S62)) (A1_3 : Option Addr) (c1_3 : Nat) (l1_3 : List Bool) (a1_4 : Int) (r : Bool) (w : World) (hr0_1 : Kd.C k62 w A0_1 l0_1.length l0_1) (hc0_1 : l0_1.length ≤ c0_1) (hr0_2 : Kd.C k62 w A0_2 l0_2.length l0_2) (hc0_2 : l0_2.length ≤ c0_2) (hr0_3 : Kd.C Kd.bool w A0_3 l0_3.length l0_3) (hc0_3 : l0_3.length ≤ c0_3) (hr1_1 : Kd.C k62 w A1_1 l1_1.length l1_1) (hc1_1 : l1_1.length ≤ c1_1) (hr1_2 : Kd.C k62 w A1_2 l1_2.length l1_2) (hc1_2 : l1_2.length ≤ c1_2) (hr1_3 : Kd.C Kd.bool w A1_3 l1_3.length l1_3) (hc1_3 : l1_3.length ≤ c1_3) (h : impl_EqualTasks.f k a0_0 l0_1 l0_2 l0_3 a0_4 a1_0 l1_1 l1_2 l1_3 a1_4 = some r) :
  Calls Try.prog 32 #[.agg #[.int .i64 a0_0, .slice A0_1 l0_1.length c0_1, .slice A0_2 l0_2.length c0_2, .slice A0_3 l0_3.length c0_3, .int .i64 a0_4], .agg #[.int .i64 a1_0, .slice A1_1 l1_1.length c1_1, .slice A1_2 l1_2.length c1_2, .slice A1_3 l1_3.length c1_3, .int .i64 a1_4]] w fun e w' => e = .returned (.bool r) ∧ Below w.heap.size w w' := by
 have hu37 := Try.underlying37
 have HR0_1 := mA hr0_1
 have HC0_1 := mA hc0_1
 clear hr0_1 hc0_1
 have HR0_2 := mA hr0_2
 have HC0_2 := mA hc0_2
 clear hr0_2 hc0_2
 have HR0_3 := mA hr0_3
 have HC0_3 := mA hc0_3
 clear hr0_3 hc0_3
 have HR1_1 := mA hr1_1
 have HC1_1 := mA hc1_1
 clear hr1_1 hc1_1
 have HR1_2 := mA hr1_2
 have HC1_2 := mA hc1_2
 clear hr1_2 hc1_2
 have HR1_3 := mA hr1_3
 have HC1_3 := mA hc1_3
 clear hr1_3 hc1_3
 have HB := mA (Below.refl w.heap.size w)
 have H : (if a0_0 = a1_0 then ((impl_equal.f k l0_1 l1_1).bind fun t426 => (if t426 = true then ((impl_equal.f k l0_2 l1_2).bind fun t427 => (if t427 = true then ((slices_Equal_bool_bool.f k l0_3 l1_3).bind fun t428 => (if t428 = true then (some (a0_4 == a1_4)) else (some false))) else (some false))) else (some false))) else (some false)) = some r := h
 clear h
 by_cases c3 : a0_0 = a1_0
 ·
  rw [if_pos c3] at H
  have c3b0 : (a0_0 == a1_0) = true := beq_iff_eq.mpr c3
  have c3b1 : (a0_0 != a1_0) = false := bne_eq_false_iff_eq.mpr c3
  clear c3
  obtain ⟨t426, A4, H⟩ := Option.bind_eq_some_iff.mp H
  replace A4 := mA A4
  try dsimp only at H
  by_cases c5 : t426 = true
  ·
   subst c5
   rw [if_pos rfl] at H
   obtain ⟨t427, A6, H⟩ := Option.bind_eq_some_iff.mp H
   replace A6 := mA A6
   try dsimp only at H
   by_cases c7 : t427 = true
   ·
    subst c7
    rw [if_pos rfl] at H
    obtain ⟨t428, A8, H⟩ := Option.bind_eq_some_iff.mp H
    replace A8 := mA A8
    try dsimp only at H
    by_cases c9 : t428 = true
    ·
     subst c9
     rw [if_pos rfl] at H
     obtain rfl := Option.some.inj H
     go_enter Try.func32, Try.ntmps32
     go_wp2_with (first | ((with_reducible refine gate_dst (N := 2) rfl ?_); refine boxT 2 #[.int .i64 a0_0, .slice A0_1 l0_1.length c0_1, .slice A0_2 l0_2.length c0_2, .slice A0_3 l0_3.length c0_3, .int .i64 a0_4] 37 ?_; intro gb424 hg w10 hbox hb; have BK424 := mA (hbox); have GW424 := mA ((by rw [hg]; exact (below_size (bT HB)) : w.heap.size ≤ gb424)); have GE424 := GW424; replace HB := mA (below_step (bT HB) hb); clear hb hbox hg) | ((with_reducible refine gate_dst (N := 3) rfl ?_); refine boxT 3 #[.int .i64 a1_0, .slice A1_1 l1_1.length c1_1, .slice A1_2 l1_2.length c1_2, .slice A1_3 l1_3.length c1_3, .int .i64 a1_4] 37 ?_; intro gb425 hg w11 hbox hb; have BK425 := mA (hbox); have GW425 := mA ((by rw [hg]; exact (below_size (bT1 HB GE424)) : w.heap.size ≤ gb425)); have GE425 := GW425; replace HB := mA (below_step (bT1 HB GE424) hb); have NB424_425 : Aside0 (gb424 ≠ gb425) := nL BK424 hg; have NB425_424 : Aside0 (gb425 ≠ gb424) := nG BK424 hg; replace BK424 := kB BK424 hb; clear hb hbox hg; have hnb12 := NB424_425.out; have hnc12 := NB425_424.out; obtain ⟨hcz13_0, hcz13_1, hcz13_2, hcz13_3, hcz13_4, hfz13_0, hfz13_1, hfz13_2, hfz13_3, hfz13_4⟩ := blk5 BK424.out; obtain ⟨hcz14_0, hcz14_1, hcz14_2, hcz14_3, hcz14_4, hfz14_0, hfz14_1, hfz14_2, hfz14_3, hfz14_4⟩ := blk5 BK425.out) | (go_at_call 70; (with_reducible refine (impl_equal.calls k _ _ l0_1 _ _ l1_1 true _ ?side1 ?side2 ?side3 ?side4 A4.out).mono ?_); (case side1 => exact cT (Kd.C_below HR0_1.out HB.out)); (case side2 => exact HC0_1.out); (case side3 => exact cT (Kd.C_below HR1_1.out HB.out)); (case side4 => exact HC1_1.out); rintro e w' ⟨rfl, ⟨nd, rfl⟩⟩) | (go_at_call 70; (with_reducible refine (impl_equal.calls k _ _ l0_2 _ _ l1_2 true _ ?side1 ?side2 ?side3 ?side4 A6.out).mono ?_); (case side1 => exact cT (Kd.C_below HR0_2.out (bT2 HB GE424 GE425))); (case side2 => exact HC0_2.out); (case side3 => exact cT (Kd.C_below HR1_2.out (bT2 HB GE424 GE425))); (case side4 => exact HC1_2.out); rintro e w' ⟨rfl, ⟨nd, rfl⟩⟩) | (go_at_call 71; (with_reducible refine (slices_Equal_bool_bool.calls k _ _ l0_3 _ _ l1_3 true _ ?side1 ?side2 ?side3 ?side4 A8.out).mono ?_); (case side1 => exact cT (Kd.C_below HR0_3.out (bT2 HB GE424 GE425))); (case side2 => exact HC0_3.out); (case side3 => exact cT (Kd.C_below HR1_3.out (bT2 HB GE424 GE425))); (case side4 => exact HC1_3.out); rintro e w' ⟨rfl, ⟨nd, rfl⟩⟩))
     go_ret
     exact ⟨eT, bT2 HB GE424 GE425⟩
    ·
     replace c9 := Bool.eq_false_iff.mpr c9
     subst c9
     rw [if_neg (show ¬ (false = true) by decide)] at H
     obtain rfl := Option.some.inj H
     go_enter Try.func32, Try.ntmps32
     go_wp2_with (first | ((with_reducible refine gate_dst (N := 2) rfl ?_); refine boxT 2 #[.int .i64 a0_0, .slice A0_1 l0_1.length c0_1, .slice A0_2 l0_2.length c0_2, .slice A0_3 l0_3.length c0_3, .int .i64 a0_4] 37 ?_; intro gb424 hg w15 hbox hb; have BK424 := mA (hbox); have GW424 := mA ((by rw [hg]; exact (below_size (bT HB)) : w.heap.size ≤ gb424)); have GE424 := GW424; replace HB := mA (below_step (bT HB) hb); clear hb hbox hg) | ((with_reducible refine gate_dst (N := 3) rfl ?_); refine boxT 3 #[.int .i64 a1_0, .slice A1_1 l1_1.length c1_1, .slice A1_2 l1_2.length c1_2, .slice A1_3 l1_3.length c1_3, .int .i64 a1_4] 37 ?_; intro gb425 hg w16 hbox hb; have BK425 := mA (hbox); have GW425 := mA ((by rw [hg]; exact (below_size (bT1 HB GE424)) : w.heap.size ≤ gb425)); have GE425 := GW425; replace HB := mA (below_step (bT1 HB GE424) hb); have NB424_425 : Aside0 (gb424 ≠ gb425) := nL BK424 hg; have NB425_424 : Aside0 (gb425 ≠ gb424) := nG BK424 hg; replace BK424 := kB BK424 hb; clear hb hbox hg; have hnb17 := NB424_425.out; have hnc17 := NB425_424.out; obtain ⟨hcz18_0, hcz18_1, hcz18_2, hcz18_3, hcz18_4, hfz18_0, hfz18_1, hfz18_2, hfz18_3, hfz18_4⟩ := blk5 BK424.out; obtain ⟨hcz19_0, hcz19_1, hcz19_2, hcz19_3, hcz19_4, hfz19_0, hfz19_1, hfz19_2, hfz19_3, hfz19_4⟩ := blk5 BK425.out) | (go_at_call 70; (with_reducible refine (impl_equal.calls k _ _ l0_1 _ _ l1_1 true _ ?side1 ?side2 ?side3 ?side4 A4.out).mono ?_); (case side1 => exact cT (Kd.C_below HR0_1.out HB.out)); (case side2 => exact HC0_1.out); (case side3 => exact cT (Kd.C_below HR1_1.out HB.out)); (case side4 => exact HC1_1.out); rintro e w' ⟨rfl, ⟨nd, rfl⟩⟩) | (go_at_call 70; (with_reducible refine (impl_equal.calls k _ _ l0_2 _ _ l1_2 true _ ?side1 ?side2 ?side3 ?side4 A6.out).mono ?_); (case side1 => exact cT (Kd.C_below HR0_2.out (bT2 HB GE424 GE425))); (case side2 => exact HC0_2.out); (case side3 => exact cT (Kd.C_below HR1_2.out (bT2 HB GE424 GE425))); (case side4 => exact HC1_2.out); rintro e w' ⟨rfl, ⟨nd, rfl⟩⟩) | (go_at_call 71; (with_reducible refine (slices_Equal_bool_bool.calls k _ _ l0_3 _ _ l1_3 false _ ?side1 ?side2 ?side3 ?side4 A8.out).mono ?_); (case side1 => exact cT (Kd.C_below HR0_3.out (bT2 HB GE424 GE425))); (case side2 => exact HC0_3.out); (case side3 => exact cT (Kd.C_below HR1_3.out (bT2 HB GE424 GE425))); (case side4 => exact HC1_3.out); rintro e w' ⟨rfl, ⟨nd, rfl⟩⟩))
     go_ret
     exact ⟨eT, bT2 HB GE424 GE425⟩
   ·
    replace c7 := Bool.eq_false_iff.mpr c7
    subst c7
    rw [if_neg (show ¬ (false = true) by decide)] at H
    obtain rfl := Option.some.inj H
    go_enter Try.func32, Try.ntmps32
    go_wp2_with (first | ((with_reducible refine gate_dst (N := 2) rfl ?_); refine boxT 2 #[.int .i64 a0_0, .slice A0_1 l0_1.length c0_1, .slice A0_2 l0_2.length c0_2, .slice A0_3 l0_3.length c0_3, .int .i64 a0_4] 37 ?_; intro gb424 hg w20 hbox hb; have BK424 := mA (hbox); have GW424 := mA ((by rw [hg]; exact (below_size (bT HB)) : w.heap.size ≤ gb424)); have GE424 := GW424; replace HB := mA (below_step (bT HB) hb); clear hb hbox hg) | ((with_reducible refine gate_dst (N := 3) rfl ?_); refine boxT 3 #[.int .i64 a1_0, .slice A1_1 l1_1.length c1_1, .slice A1_2 l1_2.length c1_2, .slice A1_3 l1_3.length c1_3, .int .i64 a1_4] 37 ?_; intro gb425 hg w21 hbox hb; have BK425 := mA (hbox); have GW425 := mA ((by rw [hg]; exact (below_size (bT1 HB GE424)) : w.heap.size ≤ gb425)); have GE425 := GW425; replace HB := mA (below_step (bT1 HB GE424) hb); have NB424_425 : Aside0 (gb424 ≠ gb425) := nL BK424 hg; have NB425_424 : Aside0 (gb425 ≠ gb424) := nG BK424 hg; replace BK424 := kB BK424 hb; clear hb hbox hg; have hnb22 := NB424_425.out; have hnc22 := NB425_424.out; obtain ⟨hcz23_0, hcz23_1, hcz23_2, hcz23_3, hcz23_4, hfz23_0, hfz23_1, hfz23_2, hfz23_3, hfz23_4⟩ := blk5 BK424.out; obtain ⟨hcz24_0, hcz24_1, hcz24_2, hcz24_3, hcz24_4, hfz24_0, hfz24_1, hfz24_2, hfz24_3, hfz24_4⟩ := blk5 BK425.out) | (go_at_call 70; (with_reducible refine (impl_equal.calls k _ _ l0_1 _ _ l1_1 true _ ?side1 ?side2 ?side3 ?side4 A4.out).mono ?_); (case side1 => exact cT (Kd.C_below HR0_1.out HB.out)); (case side2 => exact HC0_1.out); (case side3 => exact cT (Kd.C_below HR1_1.out HB.out)); (case side4 => exact HC1_1.out); rintro e w' ⟨rfl, ⟨nd, rfl⟩⟩) | (go_at_call 70; (with_reducible refine (impl_equal.calls k _ _ l0_2 _ _ l1_2 false _ ?side1 ?side2 ?side3 ?side4 A6.out).mono ?_); (case side1 => exact cT (Kd.C_below HR0_2.out (bT2 HB GE424 GE425))); (case side2 => exact HC0_2.out); (case side3 => exact cT (Kd.C_below HR1_2.out (bT2 HB GE424 GE425))); (case side4 => exact HC1_2.out); rintro e w' ⟨rfl, ⟨nd, rfl⟩⟩))
    go_ret
    exact ⟨eT, bT2 HB GE424 GE425⟩
  ·
   replace c5 := Bool.eq_false_iff.mpr c5
   subst c5
   rw [if_neg (show ¬ (false = true) by decide)] at H
   obtain rfl := Option.some.inj H
   go_enter Try.func32, Try.ntmps32
   go_wp2_with (first | ((with_reducible refine gate_dst (N := 2) rfl ?_); refine boxT 2 #[.int .i64 a0_0, .slice A0_1 l0_1.length c0_1, .slice A0_2 l0_2.length c0_2, .slice A0_3 l0_3.length c0_3, .int .i64 a0_4] 37 ?_; intro gb424 hg w25 hbox hb; have BK424 := mA (hbox); have GW424 := mA ((by rw [hg]; exact (below_size (bT HB)) : w.heap.size ≤ gb424)); have GE424 := GW424; replace HB := mA (below_step (bT HB) hb); clear hb hbox hg) | ((with_reducible refine gate_dst (N := 3) rfl ?_); refine boxT 3 #[.int .i64 a1_0, .slice A1_1 l1_1.length c1_1, .slice A1_2 l1_2.length c1_2, .slice A1_3 l1_3.length c1_3, .int .i64 a1_4] 37 ?_; intro gb425 hg w26 hbox hb; have BK425 := mA (hbox); have GW425 := mA ((by rw [hg]; exact (below_size (bT1 HB GE424)) : w.heap.size ≤ gb425)); have GE425 := GW425; replace HB := mA (below_step (bT1 HB GE424) hb); have NB424_425 : Aside0 (gb424 ≠ gb425) := nL BK424 hg; have NB425_424 : Aside0 (gb425 ≠ gb424) := nG BK424 hg; replace BK424 := kB BK424 hb; clear hb hbox hg; have hnb27 := NB424_425.out; have hnc27 := NB425_424.out; obtain ⟨hcz28_0, hcz28_1, hcz28_2, hcz28_3, hcz28_4, hfz28_0, hfz28_1, hfz28_2, hfz28_3, hfz28_4⟩ := blk5 BK424.out; obtain ⟨hcz29_0, hcz29_1, hcz29_2, hcz29_3, hcz29_4, hfz29_0, hfz29_1, hfz29_2, hfz29_3, hfz29_4⟩ := blk5 BK425.out) | (go_at_call 70; (with_reducible refine (impl_equal.calls k _ _ l0_1 _ _ l1_1 false _ ?side1 ?side2 ?side3 ?side4 A4.out).mono ?_); (case side1 => exact cT (Kd.C_below HR0_1.out HB.out)); (case side2 => exact HC0_1.out); (case side3 => exact cT (Kd.C_below HR1_1.out HB.out)); (case side4 => exact HC1_1.out); rintro e w' ⟨rfl, ⟨nd, rfl⟩⟩))
   go_ret
   exact ⟨eT, bT2 HB GE424 GE425⟩
 ·
  rw [if_neg c3] at H
  have c3b0 : (a0_0 == a1_0) = false := beq_eq_false_iff_ne.mpr c3
  have c3b1 : (a0_0 != a1_0) = true := bne_iff_ne.mpr c3
  obtain rfl := Option.some.inj H
  go_enter Try.func32, Try.ntmps32
  go_wp2_with (first | ((with_reducible refine gate_dst (N := 2) rfl ?_); refine boxT 2 #[.int .i64 a0_0, .slice A0_1 l0_1.length c0_1, .slice A0_2 l0_2.length c0_2, .slice A0_3 l0_3.length c0_3, .int .i64 a0_4] 37 ?_; intro gb424 hg w30 hbox hb; have BK424 := mA (hbox); have GW424 := mA ((by rw [hg]; exact (below_size (bT HB)) : w.heap.size ≤ gb424)); have GE424 := GW424; replace HB := mA (below_step (bT HB) hb); clear hb hbox hg) | ((with_reducible refine gate_dst (N := 3) rfl ?_); refine boxT 3 #[.int .i64 a1_0, .slice A1_1 l1_1.length c1_1, .slice A1_2 l1_2.length c1_2, .slice A1_3 l1_3.length c1_3, .int .i64 a1_4] 37 ?_; intro gb425 hg w31 hbox hb; have BK425 := mA (hbox); have GW425 := mA ((by rw [hg]; exact (below_size (bT1 HB GE424)) : w.heap.size ≤ gb425)); have GE425 := GW425; replace HB := mA (below_step (bT1 HB GE424) hb); have NB424_425 : Aside0 (gb424 ≠ gb425) := nL BK424 hg; have NB425_424 : Aside0 (gb425 ≠ gb424) := nG BK424 hg; replace BK424 := kB BK424 hb; clear hb hbox hg; have hnb32 := NB424_425.out; have hnc32 := NB425_424.out; obtain ⟨hcz33_0, hcz33_1, hcz33_2, hcz33_3, hcz33_4, hfz33_0, hfz33_1, hfz33_2, hfz33_3, hfz33_4⟩ := blk5 BK424.out; obtain ⟨hcz34_0, hcz34_1, hcz34_2, hcz34_3, hcz34_4, hfz34_0, hfz34_1, hfz34_2, hfz34_3, hfz34_4⟩ := blk5 BK425.out))
  go_ret
  exact ⟨eT, bT2 HB GE424 GE425⟩

/-! ### laws_FnExactEqualTasks: function 7 -/
def laws_FnExactEqualTasks.f (k : Nat) (a0_0 : Int) (l0_1 : List (S64)) (l0_2 : List (S64)) (l0_3 : List Bool) (a0_4 : Int) (a1_0 : Int) (l1_1 : List (S64)) (l1_2 : List (S64)) (l1_3 : List Bool) (a1_4 : Int) : Option (Bool) := (laws_szTask.f a0_0 l0_1 l0_2 l0_3 a0_4 1048576).bind fun t431 => (if t431 < 0 then (some true) else ((laws_szTask.f a1_0 l1_1 l1_2 l1_3 a1_4 t431).bind fun t432 => (if t432 < 0 then (some true) else ((laws_toTask.f k a0_0 l0_1 l0_2 l0_3 a0_4).bind fun bt433 => ((laws_toTask.f k a1_0 l1_1 l1_2 l1_3 a1_4).bind fun bt444 => ((spec_EqualTasks.f k bt433.1 bt433.2.1 bt433.2.2.1 bt433.2.2.2.1 bt433.2.2.2.2 bt444.1 bt444.2.1 bt444.2.2.1 bt444.2.2.2.1 bt444.2.2.2.2).bind fun t455 => ((laws_toTask.f k a0_0 l0_1 l0_2 l0_3 a0_4).bind fun bt456 => ((laws_toTask.f k a1_0 l1_1 l1_2 l1_3 a1_4).bind fun bt468 => ((impl_EqualTasks.f k bt456.1 bt456.2.1 bt456.2.2.1 bt456.2.2.2.1 bt456.2.2.2.2 bt468.1 bt468.2.1 bt468.2.2.1 bt468.2.2.2.1 bt468.2.2.2.2).bind fun t480 => (if (t480 != t455) = true then (some false) else ((laws_toTask.f k a0_0 l0_1 l0_2 l0_3 a0_4).bind fun bt481 => ((laws_eqTask.f k bt456.1 bt456.2.1 bt456.2.2.1 bt456.2.2.2.1 bt456.2.2.2.2 bt481.1 bt481.2.1 bt481.2.2.1 bt481.2.2.2.1 bt481.2.2.2.2).bind fun t492 => (if t492 = true then ((laws_toTask.f k a1_0 l1_1 l1_2 l1_3 a1_4).bind fun bt493 => ((laws_eqTask.f k bt468.1 bt468.2.1 bt468.2.2.1 bt468.2.2.2.1 bt468.2.2.2.2 bt493.1 bt493.2.1 bt493.2.2.1 bt493.2.2.2.1 bt493.2.2.2.2).bind fun t504 => (if t504 = true then (some true) else (some false)))) else (some false))))))))))))))
theorem laws_FnExactEqualTasks.mono : ∀ a0 a1 a2 a3 a4 a5 a6 a7 a8 a9 k, LeO (laws_FnExactEqualTasks.f k a0 a1 a2 a3 a4 a5 a6 a7 a8 a9) (laws_FnExactEqualTasks.f (k + 1) a0 a1 a2 a3 a4 a5 a6 a7 a8 a9) := by
 intro a0 a1 a2 a3 a4 a5 a6 a7 a8 a9 k
 unfold laws_FnExactEqualTasks.f
 repeat' first
   | (with_reducible exact impl_EqualTasks.mono _ _ _ _ _ _ _ _ _ _ _)
   | (with_reducible exact laws_eqTask.mono _ _ _ _ _ _ _ _ _ _ _)
   | (with_reducible exact laws_toTask.mono _ _ _ _ _ _)
   | (with_reducible exact spec_EqualTasks.mono _ _ _ _ _ _ _ _ _ _ _)
   | (with_reducible exact LeO.refl _)
   | (with_reducible exact LeO.none _)
   | (with_reducible refine LeO.ite ?_ ?_)
   | (with_reducible refine LeO.bind ?_ (fun _ => ?_))
   | exact impl_EqualTasks.mono _ _ _ _ _ _ _ _ _ _ _
   | exact laws_eqTask.mono _ _ _ _ _ _ _ _ _ _ _
   | exact laws_toTask.mono _ _ _ _ _ _
   | exact spec_EqualTasks.mono _ _ _ _ _ _ _ _ _ _ _
   | exact LeO.none _
   | refine LeO.ite ?_ ?_
   | refine LeO.bind ?_ (fun _ => ?_)
set_option maxHeartbeats 8000000 in
set_option maxRecDepth 100000 in
theorem laws_FnExactEqualTasks.calls (k : Nat) (a0_0 : Int) (A0_1 : Option Addr) (c0_1 : Nat) (l0_1 : List (S64)) (A0_2 : Option Addr) (c0_2 : Nat) (l0_2 : List (S64)) (A0_3 : Option Addr) (c0_3 : Nat) (l0_3 : List Bool) (a0_4 : Int) (a1_0 : Int) (A1_1 : Option Addr) (c1_1 : Nat) (l1_1 : List (S64)) (A1_2 : Option Addr) (c1_2 : Nat) (l1_2 : List (S64)) (A1_3 : Option Addr) (c1_3 : Nat) (l1_3 : List Bool) (a1_4 : Int) (r : Bool) (w : World) (hr0_1 : Kd.C k64 w A0_1 l0_1.length l0_1) (hc0_1 : l0_1.length ≤ c0_1) (hr0_2 : Kd.C k64 w A0_2 l0_2.length l0_2) (hc0_2 : l0_2.length ≤ c0_2) (hr0_3 : Kd.C Kd.bool w A0_3 l0_3.length l0_3) (hc0_3 : l0_3.length ≤ c0_3) (hr1_1 : Kd.C k64 w A1_1 l1_1.length l1_1) (hc1_1 : l1_1.length ≤ c1_1) (hr1_2 : Kd.C k64 w A1_2 l1_2.length l1_2) (hc1_2 : l1_2.length ≤ c1_2) (hr1_3 : Kd.C Kd.bool w A1_3 l1_3.length l1_3) (hc1_3 : l1_3.length ≤ c1_3) (ht : r = true) (h : laws_FnExactEqualTasks.f k a0_0 l0_1 l0_2 l0_3 a0_4 a1_0 l1_1 l1_2 l1_3 a1_4 = some r) :
  Calls Try.prog 7 #[.agg #[.int .i64 a0_0, .slice A0_1 l0_1.length c0_1, .slice A0_2 l0_2.length c0_2, .slice A0_3 l0_3.length c0_3, .int .i64 a0_4], .agg #[.int .i64 a1_0, .slice A1_1 l1_1.length c1_1, .slice A1_2 l1_2.length c1_2, .slice A1_3 l1_3.length c1_3, .int .i64 a1_4]] w fun e w' => e = .returned (.bool r) ∧ Below w.heap.size w w' := by
 have hu33 := Try.underlying33
 have hu37 := Try.underlying37
 have HR0_1 := mA hr0_1
 have HC0_1 := mA hc0_1
 clear hr0_1 hc0_1
 have HR0_2 := mA hr0_2
 have HC0_2 := mA hc0_2
 clear hr0_2 hc0_2
 have HR0_3 := mA hr0_3
 have HC0_3 := mA hc0_3
 clear hr0_3 hc0_3
 have HR1_1 := mA hr1_1
 have HC1_1 := mA hc1_1
 clear hr1_1 hc1_1
 have HR1_2 := mA hr1_2
 have HC1_2 := mA hc1_2
 clear hr1_2 hc1_2
 have HR1_3 := mA hr1_3
 have HC1_3 := mA hc1_3
 clear hr1_3 hc1_3
 have HB := mA (Below.refl w.heap.size w)
 have HT := mA ht
 clear ht
 have H : ((laws_szTask.f a0_0 l0_1 l0_2 l0_3 a0_4 1048576).bind fun t431 => (if t431 < 0 then (some true) else ((laws_szTask.f a1_0 l1_1 l1_2 l1_3 a1_4 t431).bind fun t432 => (if t432 < 0 then (some true) else ((laws_toTask.f k a0_0 l0_1 l0_2 l0_3 a0_4).bind fun bt433 => ((laws_toTask.f k a1_0 l1_1 l1_2 l1_3 a1_4).bind fun bt444 => ((spec_EqualTasks.f k bt433.1 bt433.2.1 bt433.2.2.1 bt433.2.2.2.1 bt433.2.2.2.2 bt444.1 bt444.2.1 bt444.2.2.1 bt444.2.2.2.1 bt444.2.2.2.2).bind fun t455 => ((laws_toTask.f k a0_0 l0_1 l0_2 l0_3 a0_4).bind fun bt456 => ((laws_toTask.f k a1_0 l1_1 l1_2 l1_3 a1_4).bind fun bt468 => ((impl_EqualTasks.f k bt456.1 bt456.2.1 bt456.2.2.1 bt456.2.2.2.1 bt456.2.2.2.2 bt468.1 bt468.2.1 bt468.2.2.1 bt468.2.2.2.1 bt468.2.2.2.2).bind fun t480 => (if (t480 != t455) = true then (some false) else ((laws_toTask.f k a0_0 l0_1 l0_2 l0_3 a0_4).bind fun bt481 => ((laws_eqTask.f k bt456.1 bt456.2.1 bt456.2.2.1 bt456.2.2.2.1 bt456.2.2.2.2 bt481.1 bt481.2.1 bt481.2.2.1 bt481.2.2.2.1 bt481.2.2.2.2).bind fun t492 => (if t492 = true then ((laws_toTask.f k a1_0 l1_1 l1_2 l1_3 a1_4).bind fun bt493 => ((laws_eqTask.f k bt468.1 bt468.2.1 bt468.2.2.1 bt468.2.2.2.1 bt468.2.2.2.2 bt493.1 bt493.2.1 bt493.2.2.1 bt493.2.2.2.1 bt493.2.2.2.2).bind fun t504 => (if t504 = true then (some true) else (some false)))) else (some false))))))))))))))) = some r := h
 clear h
 obtain ⟨t431, A3, H⟩ := Option.bind_eq_some_iff.mp H
 replace A3 := mA A3
 try dsimp only at H
 by_cases c4 : t431 < 0
 ·
  rw [if_pos c4] at H
  have c4b0 : decide (t431 < 0) = true := decide_eq_true c4
  clear c4
  obtain rfl := Option.some.inj H
  go_enter Try.func7, Try.ntmps7
  go_wp2_with (first | ((with_reducible refine gate_dst (N := 2) rfl ?_); refine boxT 2 #[.int .i64 a0_0, .slice A0_1 l0_1.length c0_1, .slice A0_2 l0_2.length c0_2, .slice A0_3 l0_3.length c0_3, .int .i64 a0_4] 33 ?_; intro gb429 hg w5 hbox hb; have BK429 := mA (hbox); have GW429 := mA ((by rw [hg]; exact (below_size (bT HB)) : w.heap.size ≤ gb429)); have GE429 := GW429; replace HB := mA (below_step (bT HB) hb); clear hb hbox hg) | ((with_reducible refine gate_dst (N := 3) rfl ?_); refine boxT 3 #[.int .i64 a1_0, .slice A1_1 l1_1.length c1_1, .slice A1_2 l1_2.length c1_2, .slice A1_3 l1_3.length c1_3, .int .i64 a1_4] 33 ?_; intro gb430 hg w6 hbox hb; have GW430 := mA ((by rw [hg]; exact (below_size (bT1 HB GE429)) : w.heap.size ≤ gb430)); have GE430 := GW430; replace HB := mA (below_step (bT1 HB GE429) hb); have NB429_430 : Aside0 (gb429 ≠ gb430) := nL BK429 hg; have NB430_429 : Aside0 (gb430 ≠ gb429) := nG BK429 hg; replace BK429 := kB BK429 hb; clear hb hbox hg; have hnb7 := NB429_430.out; have hnc7 := NB430_429.out; obtain ⟨hcz8_0, hcz8_1, hcz8_2, hcz8_3, hcz8_4, hfz8_0, hfz8_1, hfz8_2, hfz8_3, hfz8_4⟩ := blk5 BK429.out) | ((with_reducible refine gate_callee (f := 22) rfl ?_); refine goesT (some 12) Try.func22 #[.agg #[.int .i64 a0_0, .slice A0_1 l0_1.length c0_1, .slice A0_2 l0_2.length c0_2, .slice A0_3 l0_3.length c0_3, .int .i64 a0_4], .int .i64 1048576] ?_; (with_reducible refine (laws_szTask.calls a0_0 _ _ l0_1 _ _ l0_2 _ _ l0_3 a0_4 1048576 t431 _ ?side1 ?side2 ?side3 ?side4 ?side5 ?side6 A3.out).mono ?_); (case side1 => exact cT (Kd.C_below HR0_1.out HB.out)); (case side2 => exact HC0_1.out); (case side3 => exact cT (Kd.C_below HR0_2.out HB.out)); (case side4 => exact HC0_2.out); (case side5 => exact cT (Kd.C_below HR0_3.out HB.out)); (case side6 => exact HC0_3.out); rintro e w9 ⟨rfl, hb⟩; refine ⟨_, rfl, ?_⟩; replace HB := mA (below_step (bT2 HB GE429 GE430) hb); (try clear hb)))
  go_ret
  exact ⟨eT, bT2 HB GE429 GE430⟩
 ·
  rw [if_neg c4] at H
  have c4b0 : decide (t431 < 0) = false := decide_eq_false c4
  clear c4
  obtain ⟨t432, A10, H⟩ := Option.bind_eq_some_iff.mp H
  replace A10 := mA A10
  try dsimp only at H
  by_cases c11 : t432 < 0
  ·
   rw [if_pos c11] at H
   have c11b0 : decide (t432 < 0) = true := decide_eq_true c11
   clear c11
   obtain rfl := Option.some.inj H
   go_enter Try.func7, Try.ntmps7
   go_wp2_with (first | ((with_reducible refine gate_dst (N := 2) rfl ?_); refine boxT 2 #[.int .i64 a0_0, .slice A0_1 l0_1.length c0_1, .slice A0_2 l0_2.length c0_2, .slice A0_3 l0_3.length c0_3, .int .i64 a0_4] 33 ?_; intro gb429 hg w12 hbox hb; have BK429 := mA (hbox); have GW429 := mA ((by rw [hg]; exact (below_size (bT HB)) : w.heap.size ≤ gb429)); have GE429 := GW429; replace HB := mA (below_step (bT HB) hb); clear hb hbox hg) | ((with_reducible refine gate_dst (N := 3) rfl ?_); refine boxT 3 #[.int .i64 a1_0, .slice A1_1 l1_1.length c1_1, .slice A1_2 l1_2.length c1_2, .slice A1_3 l1_3.length c1_3, .int .i64 a1_4] 33 ?_; intro gb430 hg w13 hbox hb; have BK430 := mA (hbox); have GW430 := mA ((by rw [hg]; exact (below_size (bT1 HB GE429)) : w.heap.size ≤ gb430)); have GE430 := GW430; replace HB := mA (below_step (bT1 HB GE429) hb); have NB429_430 : Aside0 (gb429 ≠ gb430) := nL BK429 hg; have NB430_429 : Aside0 (gb430 ≠ gb429) := nG BK429 hg; replace BK429 := kB BK429 hb; clear hb hbox hg; have hnb14 := NB429_430.out; have hnc14 := NB430_429.out; obtain ⟨hcz15_0, hcz15_1, hcz15_2, hcz15_3, hcz15_4, hfz15_0, hfz15_1, hfz15_2, hfz15_3, hfz15_4⟩ := blk5 BK429.out) | ((with_reducible refine gate_callee (f := 22) rfl ?_); refine goesT (some 12) Try.func22 #[.agg #[.int .i64 a0_0, .slice A0_1 l0_1.length c0_1, .slice A0_2 l0_2.length c0_2, .slice A0_3 l0_3.length c0_3, .int .i64 a0_4], .int .i64 1048576] ?_; (with_reducible refine (laws_szTask.calls a0_0 _ _ l0_1 _ _ l0_2 _ _ l0_3 a0_4 1048576 t431 _ ?side1 ?side2 ?side3 ?side4 ?side5 ?side6 A3.out).mono ?_); (case side1 => exact cT (Kd.C_below HR0_1.out HB.out)); (case side2 => exact HC0_1.out); (case side3 => exact cT (Kd.C_below HR0_2.out HB.out)); (case side4 => exact HC0_2.out); (case side5 => exact cT (Kd.C_below HR0_3.out HB.out)); (case side6 => exact HC0_3.out); rintro e w16 ⟨rfl, hb⟩; refine ⟨_, rfl, ?_⟩; replace BK430 := kB BK430 hb; replace HB := mA (below_step (bT2 HB GE429 GE430) hb); (try clear hb); obtain ⟨hcz17_0, hcz17_1, hcz17_2, hcz17_3, hcz17_4, hfz17_0, hfz17_1, hfz17_2, hfz17_3, hfz17_4⟩ := blk5 BK430.out) | ((with_reducible refine gate_callee (f := 22) rfl ?_); refine goesT (some 17) Try.func22 #[.agg #[.int .i64 a1_0, .slice A1_1 l1_1.length c1_1, .slice A1_2 l1_2.length c1_2, .slice A1_3 l1_3.length c1_3, .int .i64 a1_4], .int .i64 t431] ?_; (with_reducible refine (laws_szTask.calls a1_0 _ _ l1_1 _ _ l1_2 _ _ l1_3 a1_4 t431 t432 _ ?side1 ?side2 ?side3 ?side4 ?side5 ?side6 A10.out).mono ?_); (case side1 => exact cT (Kd.C_below HR1_1.out HB.out)); (case side2 => exact HC1_1.out); (case side3 => exact cT (Kd.C_below HR1_2.out HB.out)); (case side4 => exact HC1_2.out); (case side5 => exact cT (Kd.C_below HR1_3.out HB.out)); (case side6 => exact HC1_3.out); rintro e w18 ⟨rfl, hb⟩; refine ⟨_, rfl, ?_⟩; replace HB := mA (below_step (bT2 HB GE429 GE430) hb); (try clear hb)))
   go_ret
   exact ⟨eT, bT2 HB GE429 GE430⟩
  ·
   rw [if_neg c11] at H
   have c11b0 : decide (t432 < 0) = false := decide_eq_false c11
   clear c11
   obtain ⟨⟨t433, t434, t437, t440, t443⟩, A19, H⟩ := Option.bind_eq_some_iff.mp H
   replace A19 := mA A19
   try dsimp only at H
   obtain ⟨⟨t444, t445, t448, t451, t454⟩, A20, H⟩ := Option.bind_eq_some_iff.mp H
   replace A20 := mA A20
   try dsimp only at H
   obtain ⟨t455, A21, H⟩ := Option.bind_eq_some_iff.mp H
   replace A21 := mA A21
   try dsimp only at H
   obtain ⟨⟨t456, t457, t460, t463, t466⟩, A22, H⟩ := Option.bind_eq_some_iff.mp H
   replace A22 := mA A22
   try dsimp only at H
   obtain ⟨⟨t468, t469, t472, t475, t478⟩, A23, H⟩ := Option.bind_eq_some_iff.mp H
   replace A23 := mA A23
   try dsimp only at H
   obtain ⟨t480, A24, H⟩ := Option.bind_eq_some_iff.mp H
   replace A24 := mA A24
   try dsimp only at H
   by_cases c25 : (t480 != t455) = true
   ·
    rw [if_pos c25] at H
    have c25b0 : (t480 != t455) = true := c25
    (try (have c25b1 : decide (t480 = t455) = false := by simpa using c25))
    (try (have c25b2 : (t480 == t455) = false := by simpa using c25))
    (try (have c25b3 : ¬ (t480 = t455) := by simpa using c25))
    clear c25
    exact absurd ((Option.some.inj H).trans HT.out) (by simp)
   ·
    rw [if_neg c25] at H
    have c25b0 : (t480 != t455) = false := by simpa using c25
    (try (have c25b1 : decide (t480 = t455) = true := by simpa using c25))
    (try (have c25b2 : (t480 == t455) = true := by simpa using c25))
    clear c25
    obtain ⟨⟨t481, t482, t485, t488, t491⟩, A26, H⟩ := Option.bind_eq_some_iff.mp H
    replace A26 := mA A26
    try dsimp only at H
    obtain ⟨t492, A27, H⟩ := Option.bind_eq_some_iff.mp H
    replace A27 := mA A27
    try dsimp only at H
    by_cases c28 : t492 = true
    ·
     subst c28
     rw [if_pos rfl] at H
     obtain ⟨⟨t493, t494, t497, t500, t503⟩, A29, H⟩ := Option.bind_eq_some_iff.mp H
     replace A29 := mA A29
     try dsimp only at H
     obtain ⟨t504, A30, H⟩ := Option.bind_eq_some_iff.mp H
     replace A30 := mA A30
     replace H : (if t504 = true then (some true) else (some false)) = some r := H
     by_cases c31 : t504 = true
     ·
      subst c31
      rw [if_pos rfl] at H
      obtain rfl := Option.some.inj H
      go_enter Try.func7, Try.ntmps7
      try go_wp2_with (first | ((with_reducible refine gate_dst (N := 2) rfl ?_); refine boxT 2 #[.int .i64 a0_0, .slice A0_1 l0_1.length c0_1, .slice A0_2 l0_2.length c0_2, .slice A0_3 l0_3.length c0_3, .int .i64 a0_4] 33 ?_; intro gb429 hg w32 hbox hb; have BK429 := mA (hbox); have GW429 := mA ((by rw [hg]; exact (below_size (bT HB)) : w.heap.size ≤ gb429)); have GE429 := GW429; replace HB := mA (below_step (bT HB) hb); clear hb hbox hg) | ((with_reducible refine gate_dst (N := 3) rfl ?_); refine boxT 3 #[.int .i64 a1_0, .slice A1_1 l1_1.length c1_1, .slice A1_2 l1_2.length c1_2, .slice A1_3 l1_3.length c1_3, .int .i64 a1_4] 33 ?_; intro gb430 hg w33 hbox hb; have BK430 := mA (hbox); have GW430 := mA ((by rw [hg]; exact (below_size (bT1 HB GE429)) : w.heap.size ≤ gb430)); have GE430 := GW430; replace HB := mA (below_step (bT1 HB GE429) hb); have NB429_430 : Aside0 (gb429 ≠ gb430) := nL BK429 hg; have NB430_429 : Aside0 (gb430 ≠ gb429) := nG BK429 hg; replace BK429 := kB BK429 hb; clear hb hbox hg; have hnb34 := NB429_430.out; have hnc34 := NB430_429.out; obtain ⟨hcz35_0, hcz35_1, hcz35_2, hcz35_3, hcz35_4, hfz35_0, hfz35_1, hfz35_2, hfz35_3, hfz35_4⟩ := blk5 BK429.out) | ((with_reducible refine gate_callee (f := 22) rfl ?_); refine goesT (some 12) Try.func22 #[.agg #[.int .i64 a0_0, .slice A0_1 l0_1.length c0_1, .slice A0_2 l0_2.length c0_2, .slice A0_3 l0_3.length c0_3, .int .i64 a0_4], .int .i64 1048576] ?_; (with_reducible refine (laws_szTask.calls a0_0 _ _ l0_1 _ _ l0_2 _ _ l0_3 a0_4 1048576 t431 _ ?side1 ?side2 ?side3 ?side4 ?side5 ?side6 A3.out).mono ?_); (case side1 => exact cT (Kd.C_below HR0_1.out HB.out)); (case side2 => exact HC0_1.out); (case side3 => exact cT (Kd.C_below HR0_2.out HB.out)); (case side4 => exact HC0_2.out); (case side5 => exact cT (Kd.C_below HR0_3.out HB.out)); (case side6 => exact HC0_3.out); rintro e w36 ⟨rfl, hb⟩; refine ⟨_, rfl, ?_⟩; replace BK429 := kB BK429 hb; replace BK430 := kB BK430 hb; replace HB := mA (below_step (bT2 HB GE429 GE430) hb); (try clear hb); obtain ⟨hcz37_0, hcz37_1, hcz37_2, hcz37_3, hcz37_4, hfz37_0, hfz37_1, hfz37_2, hfz37_3, hfz37_4⟩ := blk5 BK430.out) | ((with_reducible refine gate_callee (f := 22) rfl ?_); refine goesT (some 17) Try.func22 #[.agg #[.int .i64 a1_0, .slice A1_1 l1_1.length c1_1, .slice A1_2 l1_2.length c1_2, .slice A1_3 l1_3.length c1_3, .int .i64 a1_4], .int .i64 t431] ?_; (with_reducible refine (laws_szTask.calls a1_0 _ _ l1_1 _ _ l1_2 _ _ l1_3 a1_4 t431 t432 _ ?side1 ?side2 ?side3 ?side4 ?side5 ?side6 A10.out).mono ?_); (case side1 => exact cT (Kd.C_below HR1_1.out HB.out)); (case side2 => exact HC1_1.out); (case side3 => exact cT (Kd.C_below HR1_2.out HB.out)); (case side4 => exact HC1_2.out); (case side5 => exact cT (Kd.C_below HR1_3.out HB.out)); (case side6 => exact HC1_3.out); rintro e w38 ⟨rfl, hb⟩; refine ⟨_, rfl, ?_⟩; replace BK429 := kB BK429 hb; replace BK430 := kB BK430 hb; replace HB := mA (below_step (bT2 HB GE429 GE430) hb); (try clear hb)))
      replace BK429 := mA (blk_drew BK429.out)
      replace BK430 := mA (blk_drew BK430.out)
      replace HB := mA (below_drew1 HB.out)
      refine start_ (n := 6) (S := fun w' => w'.cell? ⟨gb429, 0, none⟩ = some (.int .i64 a0_0) ∧ w'.cell? ⟨gb429, 1, none⟩ = some (.slice A0_1 l0_1.length c0_1) ∧ w'.cell? ⟨gb429, 2, none⟩ = some (.slice A0_2 l0_2.length c0_2) ∧ w'.cell? ⟨gb429, 3, none⟩ = some (.slice A0_3 l0_3.length c0_3) ∧ w'.cell? ⟨gb429, 4, none⟩ = some (.int .i64 a0_4) ∧ w'.cell? ⟨gb430, 0, none⟩ = some (.int .i64 a1_0) ∧ w'.cell? ⟨gb430, 1, none⟩ = some (.slice A1_1 l1_1.length c1_1) ∧ w'.cell? ⟨gb430, 2, none⟩ = some (.slice A1_2 l1_2.length c1_2) ∧ w'.cell? ⟨gb430, 3, none⟩ = some (.slice A1_3 l1_3.length c1_3) ∧ w'.cell? ⟨gb430, 4, none⟩ = some (.int .i64 a1_4)) (ds := []) #[false, false, false, false, false, false] (by kernel_rfl) rfl rfl ⟨(blk_cell BK429.out 0).trans rfl, (blk_cell BK429.out 1).trans rfl, (blk_cell BK429.out 2).trans rfl, (blk_cell BK429.out 3).trans rfl, (blk_cell BK429.out 4).trans rfl, (blk_cell BK430.out 0).trans rfl, (blk_cell BK430.out 1).trans rfl, (blk_cell BK430.out 2).trans rfl, (blk_cell BK430.out 3).trans rfl, (blk_cell BK430.out 4).trans rfl⟩ (fun hHeld => ?_)
      generalize w38.drew = w39 at BK429 BK430 HB hHeld ⊢
      refine take_ (i := 0) (N := some 20) (v := ?_) (a' := ?_) #[true, false, false, false, false, false] rfl rfl (by kernel_rfl) (fun _ _ _ h => h) (Or.inl ⟨by rfl, ?_⟩) hHeld ?_ ?_
      rotate_left
      ·
       rintro w' ⟨s0, s1, s2, s3, s4, s5, s6, s7, s8, s9⟩
       go_simp
       with_reducible rfl
      rotate_left
      ·
       simp only [Act.put, List.setIfInBounds_toArray, List.set_cons_zero, List.set_cons_succ, i64_w, i32_w]
       rfl
      refine take_ (i := 2) (N := some 22) (v := ?_) (a' := ?_) #[true, false, true, false, false, false] rfl rfl (by kernel_rfl) (fun _ _ _ h => h) (Or.inl ⟨by rfl, ?_⟩) hHeld ?_ ?_
      rotate_left
      ·
       rintro w' ⟨s0, s1, s2, s3, s4, s5, s6, s7, s8, s9⟩
       go_simp
       with_reducible rfl
      rotate_left
      ·
       simp only [Act.put, List.setIfInBounds_toArray, List.set_cons_zero, List.set_cons_succ, i64_w, i32_w]
       rfl
      refine one_ (i := 1) (N := some 21) #[true, true, true, false, false, false] rfl rfl (by kernel_rfl) (by decide) (fun K hK => ?_)
      refine goes_ Try.func24 (by kernel_rfl) rfl #[.agg #[.int .i64 a0_0, .slice A0_1 l0_1.length c0_1, .slice A0_2 l0_2.length c0_2, .slice A0_3 l0_3.length c0_3, .int .i64 a0_4]] (by rfl) rfl rfl mT ?_
      with_reducible refine (laws_toTask.calls k a0_0 _ _ l0_1 _ _ l0_2 _ _ l0_3 a0_4 t433 t434 t437 t440 t443 _ ?side1 ?side2 ?side3 ?side4 ?side5 ?side6 A19.out).mono ?_
      (case side1 => exact cT (Kd.C_below HR0_1.out HB.out))
      (case side2 => exact HC0_1.out)
      (case side3 => exact cT (Kd.C_below HR0_2.out HB.out))
      (case side4 => exact HC0_2.out)
      (case side5 => exact cT (Kd.C_below HR0_3.out HB.out))
      (case side6 => exact HC0_3.out)
      rintro e w40 ⟨v435, v438, v441, rfl, ho0, ho1, ho2, hb⟩
      refine ⟨_, rfl, ?_⟩
      have HO436 := mA (Kd.R_lower ho0 (below_size (bT2 HB GE429 GE430)))
      have HO439 := mA (Kd.R_lower ho1 (below_size (bT2 HB GE429 GE430)))
      have HO442 := mA (Kd.R_lower ho2 (below_size (bT2 HB GE429 GE430)))
      replace BK429 := kB BK429 hb
      replace BK430 := kB BK430 hb
      replace HB := mA (below_step (bT2 HB GE429 GE430) hb)
      (try clear hb)
      (try clear hb2)
      (try clear hk)
      (try clear hi)
      (try clear ho0)
      (try clear ho1)
      (try clear ho2)
      refine hK.out _ _ ⟨(blk_cell BK429.out 0).trans rfl, (blk_cell BK429.out 1).trans rfl, (blk_cell BK429.out 2).trans rfl, (blk_cell BK429.out 3).trans rfl, (blk_cell BK429.out 4).trans rfl, (blk_cell BK430.out 0).trans rfl, (blk_cell BK430.out 1).trans rfl, (blk_cell BK430.out 2).trans rfl, (blk_cell BK430.out 3).trans rfl, (blk_cell BK430.out 4).trans rfl⟩ (fun hHeld => ?_)
      clear hK K
      refine norm_ (a' := ?_) ?_ ?_
      rotate_left
      ·
       show Act.put _ (some 21) _ = _
       simp only [Act.put, List.setIfInBounds_toArray, List.set_cons_zero, List.set_cons_succ, i64_w, i32_w]
       rfl
      refine one_ (i := 3) (N := some 23) #[true, true, true, true, false, false] rfl rfl (by kernel_rfl) (by decide) (fun K hK => ?_)
      refine goes_ Try.func24 (by kernel_rfl) rfl #[.agg #[.int .i64 a1_0, .slice A1_1 l1_1.length c1_1, .slice A1_2 l1_2.length c1_2, .slice A1_3 l1_3.length c1_3, .int .i64 a1_4]] (by rfl) rfl rfl mT ?_
      with_reducible refine (laws_toTask.calls k a1_0 _ _ l1_1 _ _ l1_2 _ _ l1_3 a1_4 t444 t445 t448 t451 t454 _ ?side1 ?side2 ?side3 ?side4 ?side5 ?side6 A20.out).mono ?_
      (case side1 => exact cT (Kd.C_below HR1_1.out HB.out))
      (case side2 => exact HC1_1.out)
      (case side3 => exact cT (Kd.C_below HR1_2.out HB.out))
      (case side4 => exact HC1_2.out)
      (case side5 => exact cT (Kd.C_below HR1_3.out HB.out))
      (case side6 => exact HC1_3.out)
      rintro e w41 ⟨v446, v449, v452, rfl, ho0, ho1, ho2, hb⟩
      refine ⟨_, rfl, ?_⟩
      have HO447 := mA (Kd.R_lower (Kd.R_new' (Kd.R_new' ho0 (Kd.R_lt (rTR HO436))) (Kd.R_lt (rTR HO439))) (below_size (bT2 HB GE429 GE430)))
      have HO450 := mA (Kd.R_lower (Kd.R_new' (Kd.R_new' ho1 (Kd.R_lt (rTR HO436))) (Kd.R_lt (rTR HO439))) (below_size (bT2 HB GE429 GE430)))
      replace HO436 := mA (Kd.R_mono (Kd.R_told (Kd.R_told (Kd.R_old (rTR HO436) hb) (Kd.R_base ho0)) (Kd.R_base ho1)) (fun _ h_ => h_.1))
      replace HO439 := mA (Kd.R_mono (Kd.R_told (Kd.R_told (Kd.R_old (rTR HO439) hb) (Kd.R_base ho0)) (Kd.R_base ho1)) (fun _ h_ => h_.1))
      have HO453 := mA (Kd.R_lower (Kd.R_new' ho2 (Kd.R_lt (rTR HO442))) (below_size (bT2 HB GE429 GE430)))
      replace HO442 := mA (Kd.R_elder' (rTR HO442) (Kd.R_base ho2) hb)
      replace BK429 := kB BK429 hb
      replace BK430 := kB BK430 hb
      replace HB := mA (below_step (bT2 HB GE429 GE430) hb)
      (try clear hb)
      (try clear hb2)
      (try clear hk)
      (try clear hi)
      (try clear ho0)
      (try clear ho1)
      (try clear ho2)
      obtain ⟨Ao42, co42, eo42⟩ := Kd.R_slice HO436.out
      (first | subst eo42 | (injection eo42 with f1_ f2_ f3_; have f4_ := f1_.symm; have f5_ := f3_.symm; clear f1_ f2_ f3_; subst f4_; subst f5_))
      obtain ⟨Ao43, co43, eo43⟩ := Kd.R_slice HO439.out
      (first | subst eo43 | (injection eo43 with f1_ f2_ f3_; have f4_ := f1_.symm; have f5_ := f3_.symm; clear f1_ f2_ f3_; subst f4_; subst f5_))
      obtain ⟨Ao44, co44, eo44⟩ := Kd.R_slice HO442.out
      (first | subst eo44 | (injection eo44 with f1_ f2_ f3_; have f4_ := f1_.symm; have f5_ := f3_.symm; clear f1_ f2_ f3_; subst f4_; subst f5_))
      obtain ⟨Ao45, co45, eo45⟩ := Kd.R_slice HO447.out
      (first | subst eo45 | (injection eo45 with f1_ f2_ f3_; have f4_ := f1_.symm; have f5_ := f3_.symm; clear f1_ f2_ f3_; subst f4_; subst f5_))
      obtain ⟨Ao46, co46, eo46⟩ := Kd.R_slice HO450.out
      (first | subst eo46 | (injection eo46 with f1_ f2_ f3_; have f4_ := f1_.symm; have f5_ := f3_.symm; clear f1_ f2_ f3_; subst f4_; subst f5_))
      obtain ⟨Ao47, co47, eo47⟩ := Kd.R_slice HO453.out
      (first | subst eo47 | (injection eo47 with f1_ f2_ f3_; have f4_ := f1_.symm; have f5_ := f3_.symm; clear f1_ f2_ f3_; subst f4_; subst f5_))
      refine hK.out _ _ ⟨(blk_cell BK429.out 0).trans rfl, (blk_cell BK429.out 1).trans rfl, (blk_cell BK429.out 2).trans rfl, (blk_cell BK429.out 3).trans rfl, (blk_cell BK429.out 4).trans rfl, (blk_cell BK430.out 0).trans rfl, (blk_cell BK430.out 1).trans rfl, (blk_cell BK430.out 2).trans rfl, (blk_cell BK430.out 3).trans rfl, (blk_cell BK430.out 4).trans rfl⟩ (fun hHeld => ?_)
      clear hK K
      refine norm_ (a' := ?_) ?_ ?_
      rotate_left
      ·
       show Act.put _ (some 23) _ = _
       simp only [Act.put, List.setIfInBounds_toArray, List.set_cons_zero, List.set_cons_succ, i64_w, i32_w]
       rfl
      refine one_ (i := 4) (N := some 24) #[true, true, true, true, true, false] rfl rfl (by kernel_rfl) (by decide) (fun K hK => ?_)
      refine goes_ Try.func31 (by kernel_rfl) rfl #[.agg #[.int .i64 t433, .slice Ao42 t434.length co42, .slice Ao43 t437.length co43, .slice Ao44 t440.length co44, .int .i64 t443], .agg #[.int .i64 t444, .slice Ao45 t445.length co45, .slice Ao46 t448.length co46, .slice Ao47 t451.length co47, .int .i64 t454]] (by rfl) rfl rfl mT ?_
      with_reducible refine (spec_EqualTasks.calls k t433 _ _ t434 _ _ t437 _ _ t440 t443 t444 _ _ t445 _ _ t448 _ _ t451 t454 t455 _ ?side1 ?side2 ?side3 ?side4 ?side5 ?side6 ?side7 ?side8 ?side9 ?side10 ?side11 ?side12 A21.out).mono ?_
      (case side1 => exact cT ((Kd.R_reads' HO436.out).2.2))
      (case side2 => exact (Kd.R_reads' HO436.out).2.1)
      (case side3 => exact cT ((Kd.R_reads' HO439.out).2.2))
      (case side4 => exact (Kd.R_reads' HO439.out).2.1)
      (case side5 => exact cT ((Kd.R_reads' HO442.out).2.2))
      (case side6 => exact (Kd.R_reads' HO442.out).2.1)
      (case side7 => exact cT ((Kd.R_reads' HO447.out).2.2))
      (case side8 => exact (Kd.R_reads' HO447.out).2.1)
      (case side9 => exact cT ((Kd.R_reads' HO450.out).2.2))
      (case side10 => exact (Kd.R_reads' HO450.out).2.1)
      (case side11 => exact cT ((Kd.R_reads' HO453.out).2.2))
      (case side12 => exact (Kd.R_reads' HO453.out).2.1)
      rintro e w48 ⟨rfl, hb⟩
      refine ⟨_, rfl, ?_⟩
      replace HO436 := rBR HO436 hb
      replace HO439 := rBR HO439 hb
      replace HO442 := rBR HO442 hb
      replace HO447 := rBR HO447 hb
      replace HO450 := rBR HO450 hb
      replace HO453 := rBR HO453 hb
      replace BK429 := kB BK429 hb
      replace BK430 := kB BK430 hb
      replace HB := mA (below_step (bT2 HB GE429 GE430) hb)
      (try clear hb)
      (try clear hb2)
      (try clear hk)
      (try clear hi)
      refine hK.out _ _ ⟨(blk_cell BK429.out 0).trans rfl, (blk_cell BK429.out 1).trans rfl, (blk_cell BK429.out 2).trans rfl, (blk_cell BK429.out 3).trans rfl, (blk_cell BK429.out 4).trans rfl, (blk_cell BK430.out 0).trans rfl, (blk_cell BK430.out 1).trans rfl, (blk_cell BK430.out 2).trans rfl, (blk_cell BK430.out 3).trans rfl, (blk_cell BK430.out 4).trans rfl⟩ (fun hHeld => ?_)
      clear hK K
      refine norm_ (a' := ?_) ?_ ?_
      rotate_left
      ·
       show Act.put _ (some 24) _ = _
       simp only [Act.put, List.setIfInBounds_toArray, List.set_cons_zero, List.set_cons_succ, i64_w, i32_w]
       rfl
      refine pureT (i := 5) (N := some 6) #[true, true, true, true, true, true] (by kernel_rfl) ?_
      refine done_ (by kernel_rfl) ?_
      have hcz49_0 : w48.cell? ⟨gb429, 0, none⟩ = some (.int .i64 a0_0) := (blk_cell BK429.out 0).trans rfl
      have hcz49_1 : w48.cell? ⟨gb429, 1, none⟩ = some (.slice A0_1 l0_1.length c0_1) := (blk_cell BK429.out 1).trans rfl
      have hcz49_2 : w48.cell? ⟨gb429, 2, none⟩ = some (.slice A0_2 l0_2.length c0_2) := (blk_cell BK429.out 2).trans rfl
      have hcz49_3 : w48.cell? ⟨gb429, 3, none⟩ = some (.slice A0_3 l0_3.length c0_3) := (blk_cell BK429.out 3).trans rfl
      have hcz49_4 : w48.cell? ⟨gb429, 4, none⟩ = some (.int .i64 a0_4) := (blk_cell BK429.out 4).trans rfl
      have hfz49_0 := blk_frozen BK429.out 0
      have hfz49_1 := blk_frozen BK429.out 1
      have hfz49_2 := blk_frozen BK429.out 2
      have hfz49_3 := blk_frozen BK429.out 3
      have hfz49_4 := blk_frozen BK429.out 4
      try go_wp2_with (first | ((with_reducible refine gate_callee (f := 24) rfl ?_); refine goesT (some 26) Try.func24 #[.agg #[.int .i64 a0_0, .slice A0_1 l0_1.length c0_1, .slice A0_2 l0_2.length c0_2, .slice A0_3 l0_3.length c0_3, .int .i64 a0_4]] ?_; (with_reducible refine (laws_toTask.calls k a0_0 _ _ l0_1 _ _ l0_2 _ _ l0_3 a0_4 t456 t457 t460 t463 t466 _ ?side1 ?side2 ?side3 ?side4 ?side5 ?side6 A22.out).mono ?_); (case side1 => exact cT (Kd.C_below HR0_1.out HB.out)); (case side2 => exact HC0_1.out); (case side3 => exact cT (Kd.C_below HR0_2.out HB.out)); (case side4 => exact HC0_2.out); (case side5 => exact cT (Kd.C_below HR0_3.out HB.out)); (case side6 => exact HC0_3.out); rintro e w50 ⟨v458, v461, v464, rfl, ho0, ho1, ho2, hb⟩; refine ⟨_, rfl, ?_⟩; have HO459 := mA (Kd.R_lower (Kd.R_new' (Kd.R_new' (Kd.R_new' (Kd.R_new' ho0 (Kd.R_lt (rTR HO436))) (Kd.R_lt (rTR HO439))) (Kd.R_lt (rTR HO447))) (Kd.R_lt (rTR HO450))) (below_size (bT2 HB GE429 GE430))); have HO462 := mA (Kd.R_lower (Kd.R_new' (Kd.R_new' (Kd.R_new' (Kd.R_new' ho1 (Kd.R_lt (rTR HO436))) (Kd.R_lt (rTR HO439))) (Kd.R_lt (rTR HO447))) (Kd.R_lt (rTR HO450))) (below_size (bT2 HB GE429 GE430))); replace HO436 := mA (Kd.R_mono (Kd.R_told (Kd.R_told (Kd.R_old (rTR HO436) hb) (Kd.R_base ho0)) (Kd.R_base ho1)) (fun _ h_ => h_.1)); replace HO439 := mA (Kd.R_mono (Kd.R_told (Kd.R_told (Kd.R_old (rTR HO439) hb) (Kd.R_base ho0)) (Kd.R_base ho1)) (fun _ h_ => h_.1)); replace HO447 := mA (Kd.R_mono (Kd.R_told (Kd.R_told (Kd.R_old (rTR HO447) hb) (Kd.R_base ho0)) (Kd.R_base ho1)) (fun _ h_ => h_.1)); replace HO450 := mA (Kd.R_mono (Kd.R_told (Kd.R_told (Kd.R_old (rTR HO450) hb) (Kd.R_base ho0)) (Kd.R_base ho1)) (fun _ h_ => h_.1)); have HO465 := mA (Kd.R_lower (Kd.R_new' (Kd.R_new' ho2 (Kd.R_lt (rTR HO442))) (Kd.R_lt (rTR HO453))) (below_size (bT2 HB GE429 GE430))); replace HO442 := mA (Kd.R_elder' (rTR HO442) (Kd.R_base ho2) hb); replace HO453 := mA (Kd.R_elder' (rTR HO453) (Kd.R_base ho2) hb); replace BK429 := kB BK429 hb; replace BK430 := kB BK430 hb; replace HB := mA (below_step (bT2 HB GE429 GE430) hb); (try clear hb); (try clear hk); (try clear ho0); (try clear ho1); (try clear ho2)) | ((with_reducible refine gate_dst (N := 7) rfl ?_); refine boxT 7 #[.int .i64 0, .slice none 0 0, .slice none 0 0, .slice none 0 0, .int .i64 0] 37 ?_; intro gb467 hg w51 hbox hb; replace HO436 := rBR HO436 hb; replace HO439 := rBR HO439 hb; replace HO442 := rBR HO442 hb; replace HO447 := rBR HO447 hb; replace HO450 := rBR HO450 hb; replace HO453 := rBR HO453 hb; replace HO459 := rBR HO459 hb; replace HO462 := rBR HO462 hb; replace HO465 := rBR HO465 hb; have BK467 := mA (hbox); have GW467 := mA ((by rw [hg]; exact (below_size (bT2 HB GE429 GE430)) : w.heap.size ≤ gb467)); have GE467 := GW467; replace HB := mA (below_step (bT2 HB GE429 GE430) hb); have NB429_467 : Aside0 (gb429 ≠ gb467) := nL BK429 hg; have NB467_429 : Aside0 (gb467 ≠ gb429) := nG BK429 hg; replace BK429 := kB BK429 hb; have NB430_467 : Aside0 (gb430 ≠ gb467) := nL BK430 hg; have NB467_430 : Aside0 (gb467 ≠ gb430) := nG BK430 hg; replace BK430 := kB BK430 hb; clear hb hbox hg; have hnb52 := NB467_429.out; have hnc52 := NB429_467.out; have hnb53 := NB467_430.out; have hnc53 := NB430_467.out; obtain ⟨hcz54_0, hcz54_1, hcz54_2, hcz54_3, hcz54_4, hfz54_0, hfz54_1, hfz54_2, hfz54_3, hfz54_4⟩ := blk5 BK467.out; obtain ⟨Ao55, co55, eo55⟩ := Kd.R_slice HO459.out; subst eo55; obtain ⟨Ao56, co56, eo56⟩ := Kd.R_slice HO462.out; subst eo56; obtain ⟨Ao57, co57, eo57⟩ := Kd.R_slice HO465.out; subst eo57; obtain ⟨hcz58_0, hcz58_1, hcz58_2, hcz58_3, hcz58_4, hfz58_0, hfz58_1, hfz58_2, hfz58_3, hfz58_4⟩ := blk5 BK430.out) | ((with_reducible refine gate_callee (f := 24) rfl ?_); refine goesT (some 28) Try.func24 #[.agg #[.int .i64 a1_0, .slice A1_1 l1_1.length c1_1, .slice A1_2 l1_2.length c1_2, .slice A1_3 l1_3.length c1_3, .int .i64 a1_4]] ?_; (with_reducible refine (laws_toTask.calls k a1_0 _ _ l1_1 _ _ l1_2 _ _ l1_3 a1_4 t468 t469 t472 t475 t478 _ ?side1 ?side2 ?side3 ?side4 ?side5 ?side6 A23.out).mono ?_); (case side1 => exact Kd.C_below HR1_1.out (bT3 HB GE429 GE430 GE467)); (case side2 => exact HC1_1.out); (case side3 => exact Kd.C_below HR1_2.out (bT3 HB GE429 GE430 GE467)); (case side4 => exact HC1_2.out); (case side5 => exact Kd.C_below HR1_3.out (bT3 HB GE429 GE430 GE467)); (case side6 => exact HC1_3.out); rintro e w59 ⟨v470, v473, v476, rfl, ho0, ho1, ho2, hb⟩; refine ⟨_, rfl, ?_⟩; have HO471 := mA (Kd.R_lower (Kd.R_new' (Kd.R_new' (Kd.R_new' (Kd.R_new' (Kd.R_new' (Kd.R_new' ho0 (Kd.R_lt (by (with_reducible repeat (first | apply Kd.R_alloc | apply Kd.R_drewN | apply Kd.R_drew)); exact (Kd.R_mono (Kd.R_far (p := ⟨gb467, 4, none⟩) (Kd.R_far (p := ⟨gb467, 3, none⟩) (Kd.R_far (p := ⟨gb467, 2, none⟩) (Kd.R_far (p := ⟨gb467, 1, none⟩) (Kd.R_far (p := ⟨gb467, 0, none⟩) (Kd.R_types HO436.out BK467.out (by decide)) (fun _ hk => hk.2) (.int .i64 t456)) (fun _ hk => hk.2) (.slice Ao55 t457.length co55)) (fun _ hk => hk.2) (.slice Ao56 t460.length co56)) (fun _ hk => hk.2) (.slice Ao57 t463.length co57)) (fun _ hk => hk.2) (.int .i64 t466)) (fun _ h_ => h_.1))))) (Kd.R_lt (by (with_reducible repeat (first | apply Kd.R_alloc | apply Kd.R_drewN | apply Kd.R_drew)); exact (Kd.R_mono (Kd.R_far (p := ⟨gb467, 4, none⟩) (Kd.R_far (p := ⟨gb467, 3, none⟩) (Kd.R_far (p := ⟨gb467, 2, none⟩) (Kd.R_far (p := ⟨gb467, 1, none⟩) (Kd.R_far (p := ⟨gb467, 0, none⟩) (Kd.R_types HO439.out BK467.out (by decide)) (fun _ hk => hk.2) (.int .i64 t456)) (fun _ hk => hk.2) (.slice Ao55 t457.length co55)) (fun _ hk => hk.2) (.slice Ao56 t460.length co56)) (fun _ hk => hk.2) (.slice Ao57 t463.length co57)) (fun _ hk => hk.2) (.int .i64 t466)) (fun _ h_ => h_.1))))) (Kd.R_lt (by (with_reducible repeat (first | apply Kd.R_alloc | apply Kd.R_drewN | apply Kd.R_drew)); exact (Kd.R_mono (Kd.R_far (p := ⟨gb467, 4, none⟩) (Kd.R_far (p := ⟨gb467, 3, none⟩) (Kd.R_far (p := ⟨gb467, 2, none⟩) (Kd.R_far (p := ⟨gb467, 1, none⟩) (Kd.R_far (p := ⟨gb467, 0, none⟩) (Kd.R_types HO447.out BK467.out (by decide)) (fun _ hk => hk.2) (.int .i64 t456)) (fun _ hk => hk.2) (.slice Ao55 t457.length co55)) (fun _ hk => hk.2) (.slice Ao56 t460.length co56)) (fun _ hk => hk.2) (.slice Ao57 t463.length co57)) (fun _ hk => hk.2) (.int .i64 t466)) (fun _ h_ => h_.1))))) (Kd.R_lt (by (with_reducible repeat (first | apply Kd.R_alloc | apply Kd.R_drewN | apply Kd.R_drew)); exact (Kd.R_mono (Kd.R_far (p := ⟨gb467, 4, none⟩) (Kd.R_far (p := ⟨gb467, 3, none⟩) (Kd.R_far (p := ⟨gb467, 2, none⟩) (Kd.R_far (p := ⟨gb467, 1, none⟩) (Kd.R_far (p := ⟨gb467, 0, none⟩) (Kd.R_types HO450.out BK467.out (by decide)) (fun _ hk => hk.2) (.int .i64 t456)) (fun _ hk => hk.2) (.slice Ao55 t457.length co55)) (fun _ hk => hk.2) (.slice Ao56 t460.length co56)) (fun _ hk => hk.2) (.slice Ao57 t463.length co57)) (fun _ hk => hk.2) (.int .i64 t466)) (fun _ h_ => h_.1))))) (Kd.R_lt (by (with_reducible repeat (first | apply Kd.R_alloc | apply Kd.R_drewN | apply Kd.R_drew)); exact (Kd.R_mono (Kd.R_far (p := ⟨gb467, 4, none⟩) (Kd.R_far (p := ⟨gb467, 3, none⟩) (Kd.R_far (p := ⟨gb467, 2, none⟩) (Kd.R_far (p := ⟨gb467, 1, none⟩) (Kd.R_far (p := ⟨gb467, 0, none⟩) (Kd.R_types HO459.out BK467.out (by decide)) (fun _ hk => hk.2) (.int .i64 t456)) (fun _ hk => hk.2) (.slice Ao55 t457.length co55)) (fun _ hk => hk.2) (.slice Ao56 t460.length co56)) (fun _ hk => hk.2) (.slice Ao57 t463.length co57)) (fun _ hk => hk.2) (.int .i64 t466)) (fun _ h_ => h_.1))))) (Kd.R_lt (by (with_reducible repeat (first | apply Kd.R_alloc | apply Kd.R_drewN | apply Kd.R_drew)); exact (Kd.R_mono (Kd.R_far (p := ⟨gb467, 4, none⟩) (Kd.R_far (p := ⟨gb467, 3, none⟩) (Kd.R_far (p := ⟨gb467, 2, none⟩) (Kd.R_far (p := ⟨gb467, 1, none⟩) (Kd.R_far (p := ⟨gb467, 0, none⟩) (Kd.R_types HO462.out BK467.out (by decide)) (fun _ hk => hk.2) (.int .i64 t456)) (fun _ hk => hk.2) (.slice Ao55 t457.length co55)) (fun _ hk => hk.2) (.slice Ao56 t460.length co56)) (fun _ hk => hk.2) (.slice Ao57 t463.length co57)) (fun _ hk => hk.2) (.int .i64 t466)) (fun _ h_ => h_.1))))) (below_size (bT3 HB GE429 GE430 GE467))); have HO474 := mA (Kd.R_lower (Kd.R_new' (Kd.R_new' (Kd.R_new' (Kd.R_new' (Kd.R_new' (Kd.R_new' ho1 (Kd.R_lt (by (with_reducible repeat (first | apply Kd.R_alloc | apply Kd.R_drewN | apply Kd.R_drew)); exact (Kd.R_mono (Kd.R_far (p := ⟨gb467, 4, none⟩) (Kd.R_far (p := ⟨gb467, 3, none⟩) (Kd.R_far (p := ⟨gb467, 2, none⟩) (Kd.R_far (p := ⟨gb467, 1, none⟩) (Kd.R_far (p := ⟨gb467, 0, none⟩) (Kd.R_types HO436.out BK467.out (by decide)) (fun _ hk => hk.2) (.int .i64 t456)) (fun _ hk => hk.2) (.slice Ao55 t457.length co55)) (fun _ hk => hk.2) (.slice Ao56 t460.length co56)) (fun _ hk => hk.2) (.slice Ao57 t463.length co57)) (fun _ hk => hk.2) (.int .i64 t466)) (fun _ h_ => h_.1))))) (Kd.R_lt (by (with_reducible repeat (first | apply Kd.R_alloc | apply Kd.R_drewN | apply Kd.R_drew)); exact (Kd.R_mono (Kd.R_far (p := ⟨gb467, 4, none⟩) (Kd.R_far (p := ⟨gb467, 3, none⟩) (Kd.R_far (p := ⟨gb467, 2, none⟩) (Kd.R_far (p := ⟨gb467, 1, none⟩) (Kd.R_far (p := ⟨gb467, 0, none⟩) (Kd.R_types HO439.out BK467.out (by decide)) (fun _ hk => hk.2) (.int .i64 t456)) (fun _ hk => hk.2) (.slice Ao55 t457.length co55)) (fun _ hk => hk.2) (.slice Ao56 t460.length co56)) (fun _ hk => hk.2) (.slice Ao57 t463.length co57)) (fun _ hk => hk.2) (.int .i64 t466)) (fun _ h_ => h_.1))))) (Kd.R_lt (by (with_reducible repeat (first | apply Kd.R_alloc | apply Kd.R_drewN | apply Kd.R_drew)); exact (Kd.R_mono (Kd.R_far (p := ⟨gb467, 4, none⟩) (Kd.R_far (p := ⟨gb467, 3, none⟩) (Kd.R_far (p := ⟨gb467, 2, none⟩) (Kd.R_far (p := ⟨gb467, 1, none⟩) (Kd.R_far (p := ⟨gb467, 0, none⟩) (Kd.R_types HO447.out BK467.out (by decide)) (fun _ hk => hk.2) (.int .i64 t456)) (fun _ hk => hk.2) (.slice Ao55 t457.length co55)) (fun _ hk => hk.2) (.slice Ao56 t460.length co56)) (fun _ hk => hk.2) (.slice Ao57 t463.length co57)) (fun _ hk => hk.2) (.int .i64 t466)) (fun _ h_ => h_.1))))) (Kd.R_lt (by (with_reducible repeat (first | apply Kd.R_alloc | apply Kd.R_drewN | apply Kd.R_drew)); exact (Kd.R_mono (Kd.R_far (p := ⟨gb467, 4, none⟩) (Kd.R_far (p := ⟨gb467, 3, none⟩) (Kd.R_far (p := ⟨gb467, 2, none⟩) (Kd.R_far (p := ⟨gb467, 1, none⟩) (Kd.R_far (p := ⟨gb467, 0, none⟩) (Kd.R_types HO450.out BK467.out (by decide)) (fun _ hk => hk.2) (.int .i64 t456)) (fun _ hk => hk.2) (.slice Ao55 t457.length co55)) (fun _ hk => hk.2) (.slice Ao56 t460.length co56)) (fun _ hk => hk.2) (.slice Ao57 t463.length co57)) (fun _ hk => hk.2) (.int .i64 t466)) (fun _ h_ => h_.1))))) (Kd.R_lt (by (with_reducible repeat (first | apply Kd.R_alloc | apply Kd.R_drewN | apply Kd.R_drew)); exact (Kd.R_mono (Kd.R_far (p := ⟨gb467, 4, none⟩) (Kd.R_far (p := ⟨gb467, 3, none⟩) (Kd.R_far (p := ⟨gb467, 2, none⟩) (Kd.R_far (p := ⟨gb467, 1, none⟩) (Kd.R_far (p := ⟨gb467, 0, none⟩) (Kd.R_types HO459.out BK467.out (by decide)) (fun _ hk => hk.2) (.int .i64 t456)) (fun _ hk => hk.2) (.slice Ao55 t457.length co55)) (fun _ hk => hk.2) (.slice Ao56 t460.length co56)) (fun _ hk => hk.2) (.slice Ao57 t463.length co57)) (fun _ hk => hk.2) (.int .i64 t466)) (fun _ h_ => h_.1))))) (Kd.R_lt (by (with_reducible repeat (first | apply Kd.R_alloc | apply Kd.R_drewN | apply Kd.R_drew)); exact (Kd.R_mono (Kd.R_far (p := ⟨gb467, 4, none⟩) (Kd.R_far (p := ⟨gb467, 3, none⟩) (Kd.R_far (p := ⟨gb467, 2, none⟩) (Kd.R_far (p := ⟨gb467, 1, none⟩) (Kd.R_far (p := ⟨gb467, 0, none⟩) (Kd.R_types HO462.out BK467.out (by decide)) (fun _ hk => hk.2) (.int .i64 t456)) (fun _ hk => hk.2) (.slice Ao55 t457.length co55)) (fun _ hk => hk.2) (.slice Ao56 t460.length co56)) (fun _ hk => hk.2) (.slice Ao57 t463.length co57)) (fun _ hk => hk.2) (.int .i64 t466)) (fun _ h_ => h_.1))))) (below_size (bT3 HB GE429 GE430 GE467))); replace HO436 := mA (Kd.R_mono (Kd.R_told (Kd.R_told (Kd.R_old (by (with_reducible repeat (first | apply Kd.R_alloc | apply Kd.R_drewN | apply Kd.R_drew)); exact (Kd.R_mono (Kd.R_far (p := ⟨gb467, 4, none⟩) (Kd.R_far (p := ⟨gb467, 3, none⟩) (Kd.R_far (p := ⟨gb467, 2, none⟩) (Kd.R_far (p := ⟨gb467, 1, none⟩) (Kd.R_far (p := ⟨gb467, 0, none⟩) (Kd.R_types HO436.out BK467.out (by decide)) (fun _ hk => hk.2) (.int .i64 t456)) (fun _ hk => hk.2) (.slice Ao55 t457.length co55)) (fun _ hk => hk.2) (.slice Ao56 t460.length co56)) (fun _ hk => hk.2) (.slice Ao57 t463.length co57)) (fun _ hk => hk.2) (.int .i64 t466)) (fun _ h_ => h_.1))) hb) (Kd.R_base ho0)) (Kd.R_base ho1)) (fun _ h_ => h_.1)); replace HO439 := mA (Kd.R_mono (Kd.R_told (Kd.R_told (Kd.R_old (by (with_reducible repeat (first | apply Kd.R_alloc | apply Kd.R_drewN | apply Kd.R_drew)); exact (Kd.R_mono (Kd.R_far (p := ⟨gb467, 4, none⟩) (Kd.R_far (p := ⟨gb467, 3, none⟩) (Kd.R_far (p := ⟨gb467, 2, none⟩) (Kd.R_far (p := ⟨gb467, 1, none⟩) (Kd.R_far (p := ⟨gb467, 0, none⟩) (Kd.R_types HO439.out BK467.out (by decide)) (fun _ hk => hk.2) (.int .i64 t456)) (fun _ hk => hk.2) (.slice Ao55 t457.length co55)) (fun _ hk => hk.2) (.slice Ao56 t460.length co56)) (fun _ hk => hk.2) (.slice Ao57 t463.length co57)) (fun _ hk => hk.2) (.int .i64 t466)) (fun _ h_ => h_.1))) hb) (Kd.R_base ho0)) (Kd.R_base ho1)) (fun _ h_ => h_.1)); replace HO447 := mA (Kd.R_mono (Kd.R_told (Kd.R_told (Kd.R_old (by (with_reducible repeat (first | apply Kd.R_alloc | apply Kd.R_drewN | apply Kd.R_drew)); exact (Kd.R_mono (Kd.R_far (p := ⟨gb467, 4, none⟩) (Kd.R_far (p := ⟨gb467, 3, none⟩) (Kd.R_far (p := ⟨gb467, 2, none⟩) (Kd.R_far (p := ⟨gb467, 1, none⟩) (Kd.R_far (p := ⟨gb467, 0, none⟩) (Kd.R_types HO447.out BK467.out (by decide)) (fun _ hk => hk.2) (.int .i64 t456)) (fun _ hk => hk.2) (.slice Ao55 t457.length co55)) (fun _ hk => hk.2) (.slice Ao56 t460.length co56)) (fun _ hk => hk.2) (.slice Ao57 t463.length co57)) (fun _ hk => hk.2) (.int .i64 t466)) (fun _ h_ => h_.1))) hb) (Kd.R_base ho0)) (Kd.R_base ho1)) (fun _ h_ => h_.1)); replace HO450 := mA (Kd.R_mono (Kd.R_told (Kd.R_told (Kd.R_old (by (with_reducible repeat (first | apply Kd.R_alloc | apply Kd.R_drewN | apply Kd.R_drew)); exact (Kd.R_mono (Kd.R_far (p := ⟨gb467, 4, none⟩) (Kd.R_far (p := ⟨gb467, 3, none⟩) (Kd.R_far (p := ⟨gb467, 2, none⟩) (Kd.R_far (p := ⟨gb467, 1, none⟩) (Kd.R_far (p := ⟨gb467, 0, none⟩) (Kd.R_types HO450.out BK467.out (by decide)) (fun _ hk => hk.2) (.int .i64 t456)) (fun _ hk => hk.2) (.slice Ao55 t457.length co55)) (fun _ hk => hk.2) (.slice Ao56 t460.length co56)) (fun _ hk => hk.2) (.slice Ao57 t463.length co57)) (fun _ hk => hk.2) (.int .i64 t466)) (fun _ h_ => h_.1))) hb) (Kd.R_base ho0)) (Kd.R_base ho1)) (fun _ h_ => h_.1)); replace HO459 := mA (Kd.R_mono (Kd.R_told (Kd.R_told (Kd.R_old (by (with_reducible repeat (first | apply Kd.R_alloc | apply Kd.R_drewN | apply Kd.R_drew)); exact (Kd.R_mono (Kd.R_far (p := ⟨gb467, 4, none⟩) (Kd.R_far (p := ⟨gb467, 3, none⟩) (Kd.R_far (p := ⟨gb467, 2, none⟩) (Kd.R_far (p := ⟨gb467, 1, none⟩) (Kd.R_far (p := ⟨gb467, 0, none⟩) (Kd.R_types HO459.out BK467.out (by decide)) (fun _ hk => hk.2) (.int .i64 t456)) (fun _ hk => hk.2) (.slice Ao55 t457.length co55)) (fun _ hk => hk.2) (.slice Ao56 t460.length co56)) (fun _ hk => hk.2) (.slice Ao57 t463.length co57)) (fun _ hk => hk.2) (.int .i64 t466)) (fun _ h_ => h_.1))) hb) (Kd.R_base ho0)) (Kd.R_base ho1)) (fun _ h_ => h_.1)); replace HO462 := mA (Kd.R_mono (Kd.R_told (Kd.R_told (Kd.R_old (by (with_reducible repeat (first | apply Kd.R_alloc | apply Kd.R_drewN | apply Kd.R_drew)); exact (Kd.R_mono (Kd.R_far (p := ⟨gb467, 4, none⟩) (Kd.R_far (p := ⟨gb467, 3, none⟩) (Kd.R_far (p := ⟨gb467, 2, none⟩) (Kd.R_far (p := ⟨gb467, 1, none⟩) (Kd.R_far (p := ⟨gb467, 0, none⟩) (Kd.R_types HO462.out BK467.out (by decide)) (fun _ hk => hk.2) (.int .i64 t456)) (fun _ hk => hk.2) (.slice Ao55 t457.length co55)) (fun _ hk => hk.2) (.slice Ao56 t460.length co56)) (fun _ hk => hk.2) (.slice Ao57 t463.length co57)) (fun _ hk => hk.2) (.int .i64 t466)) (fun _ h_ => h_.1))) hb) (Kd.R_base ho0)) (Kd.R_base ho1)) (fun _ h_ => h_.1)); have HO477 := mA (Kd.R_lower (Kd.R_new' (Kd.R_new' (Kd.R_new' ho2 (Kd.R_lt (by (with_reducible repeat (first | apply Kd.R_alloc | apply Kd.R_drewN | apply Kd.R_drew)); exact (Kd.R_mono (Kd.R_far (p := ⟨gb467, 4, none⟩) (Kd.R_far (p := ⟨gb467, 3, none⟩) (Kd.R_far (p := ⟨gb467, 2, none⟩) (Kd.R_far (p := ⟨gb467, 1, none⟩) (Kd.R_far (p := ⟨gb467, 0, none⟩) (Kd.R_types HO442.out BK467.out (by decide)) (fun _ hk => hk.2) (.int .i64 t456)) (fun _ hk => hk.2) (.slice Ao55 t457.length co55)) (fun _ hk => hk.2) (.slice Ao56 t460.length co56)) (fun _ hk => hk.2) (.slice Ao57 t463.length co57)) (fun _ hk => hk.2) (.int .i64 t466)) (fun _ h_ => h_.1))))) (Kd.R_lt (by (with_reducible repeat (first | apply Kd.R_alloc | apply Kd.R_drewN | apply Kd.R_drew)); exact (Kd.R_mono (Kd.R_far (p := ⟨gb467, 4, none⟩) (Kd.R_far (p := ⟨gb467, 3, none⟩) (Kd.R_far (p := ⟨gb467, 2, none⟩) (Kd.R_far (p := ⟨gb467, 1, none⟩) (Kd.R_far (p := ⟨gb467, 0, none⟩) (Kd.R_types HO453.out BK467.out (by decide)) (fun _ hk => hk.2) (.int .i64 t456)) (fun _ hk => hk.2) (.slice Ao55 t457.length co55)) (fun _ hk => hk.2) (.slice Ao56 t460.length co56)) (fun _ hk => hk.2) (.slice Ao57 t463.length co57)) (fun _ hk => hk.2) (.int .i64 t466)) (fun _ h_ => h_.1))))) (Kd.R_lt (by (with_reducible repeat (first | apply Kd.R_alloc | apply Kd.R_drewN | apply Kd.R_drew)); exact (Kd.R_mono (Kd.R_far (p := ⟨gb467, 4, none⟩) (Kd.R_far (p := ⟨gb467, 3, none⟩) (Kd.R_far (p := ⟨gb467, 2, none⟩) (Kd.R_far (p := ⟨gb467, 1, none⟩) (Kd.R_far (p := ⟨gb467, 0, none⟩) (Kd.R_types HO465.out BK467.out (by decide)) (fun _ hk => hk.2) (.int .i64 t456)) (fun _ hk => hk.2) (.slice Ao55 t457.length co55)) (fun _ hk => hk.2) (.slice Ao56 t460.length co56)) (fun _ hk => hk.2) (.slice Ao57 t463.length co57)) (fun _ hk => hk.2) (.int .i64 t466)) (fun _ h_ => h_.1))))) (below_size (bT3 HB GE429 GE430 GE467))); replace HO442 := mA (Kd.R_elder' (by (with_reducible repeat (first | apply Kd.R_alloc | apply Kd.R_drewN | apply Kd.R_drew)); exact (Kd.R_mono (Kd.R_far (p := ⟨gb467, 4, none⟩) (Kd.R_far (p := ⟨gb467, 3, none⟩) (Kd.R_far (p := ⟨gb467, 2, none⟩) (Kd.R_far (p := ⟨gb467, 1, none⟩) (Kd.R_far (p := ⟨gb467, 0, none⟩) (Kd.R_types HO442.out BK467.out (by decide)) (fun _ hk => hk.2) (.int .i64 t456)) (fun _ hk => hk.2) (.slice Ao55 t457.length co55)) (fun _ hk => hk.2) (.slice Ao56 t460.length co56)) (fun _ hk => hk.2) (.slice Ao57 t463.length co57)) (fun _ hk => hk.2) (.int .i64 t466)) (fun _ h_ => h_.1))) (Kd.R_base ho2) hb); replace HO453 := mA (Kd.R_elder' (by (with_reducible repeat (first | apply Kd.R_alloc | apply Kd.R_drewN | apply Kd.R_drew)); exact (Kd.R_mono (Kd.R_far (p := ⟨gb467, 4, none⟩) (Kd.R_far (p := ⟨gb467, 3, none⟩) (Kd.R_far (p := ⟨gb467, 2, none⟩) (Kd.R_far (p := ⟨gb467, 1, none⟩) (Kd.R_far (p := ⟨gb467, 0, none⟩) (Kd.R_types HO453.out BK467.out (by decide)) (fun _ hk => hk.2) (.int .i64 t456)) (fun _ hk => hk.2) (.slice Ao55 t457.length co55)) (fun _ hk => hk.2) (.slice Ao56 t460.length co56)) (fun _ hk => hk.2) (.slice Ao57 t463.length co57)) (fun _ hk => hk.2) (.int .i64 t466)) (fun _ h_ => h_.1))) (Kd.R_base ho2) hb); replace HO465 := mA (Kd.R_elder' (by (with_reducible repeat (first | apply Kd.R_alloc | apply Kd.R_drewN | apply Kd.R_drew)); exact (Kd.R_mono (Kd.R_far (p := ⟨gb467, 4, none⟩) (Kd.R_far (p := ⟨gb467, 3, none⟩) (Kd.R_far (p := ⟨gb467, 2, none⟩) (Kd.R_far (p := ⟨gb467, 1, none⟩) (Kd.R_far (p := ⟨gb467, 0, none⟩) (Kd.R_types HO465.out BK467.out (by decide)) (fun _ hk => hk.2) (.int .i64 t456)) (fun _ hk => hk.2) (.slice Ao55 t457.length co55)) (fun _ hk => hk.2) (.slice Ao56 t460.length co56)) (fun _ hk => hk.2) (.slice Ao57 t463.length co57)) (fun _ hk => hk.2) (.int .i64 t466)) (fun _ h_ => h_.1))) (Kd.R_base ho2) hb); replace BK429 := mA (blk_below (g := gb429) (o := .cells #[.int .i64 a0_0, .slice A0_1 l0_1.length c0_1, .slice A0_2 l0_2.length c0_2, .slice A0_3 l0_3.length c0_3, .int .i64 a0_4] 33 (0, 0)) (by (with_reducible repeat (first | refine blk_drewN ?_ _ | refine blk_drew ?_ | refine blk_alloc ?_ _)); refine blk_far ?_ NB429_467.out _; (with_reducible repeat (first | refine blk_drewN ?_ _ | refine blk_drew ?_ | refine blk_alloc ?_ _)); refine blk_far ?_ NB429_467.out _; (with_reducible repeat (first | refine blk_drewN ?_ _ | refine blk_drew ?_ | refine blk_alloc ?_ _)); refine blk_far ?_ NB429_467.out _; (with_reducible repeat (first | refine blk_drewN ?_ _ | refine blk_drew ?_ | refine blk_alloc ?_ _)); refine blk_far ?_ NB429_467.out _; (with_reducible repeat (first | refine blk_drewN ?_ _ | refine blk_drew ?_ | refine blk_alloc ?_ _)); refine blk_far ?_ NB429_467.out _; (with_reducible repeat (first | refine blk_drewN ?_ _ | refine blk_drew ?_ | refine blk_alloc ?_ _)); exact BK429.out) hb); replace BK430 := mA (blk_below (g := gb430) (o := .cells #[.int .i64 a1_0, .slice A1_1 l1_1.length c1_1, .slice A1_2 l1_2.length c1_2, .slice A1_3 l1_3.length c1_3, .int .i64 a1_4] 33 (0, 0)) (by (with_reducible repeat (first | refine blk_drewN ?_ _ | refine blk_drew ?_ | refine blk_alloc ?_ _)); refine blk_far ?_ NB430_467.out _; (with_reducible repeat (first | refine blk_drewN ?_ _ | refine blk_drew ?_ | refine blk_alloc ?_ _)); refine blk_far ?_ NB430_467.out _; (with_reducible repeat (first | refine blk_drewN ?_ _ | refine blk_drew ?_ | refine blk_alloc ?_ _)); refine blk_far ?_ NB430_467.out _; (with_reducible repeat (first | refine blk_drewN ?_ _ | refine blk_drew ?_ | refine blk_alloc ?_ _)); refine blk_far ?_ NB430_467.out _; (with_reducible repeat (first | refine blk_drewN ?_ _ | refine blk_drew ?_ | refine blk_alloc ?_ _)); refine blk_far ?_ NB430_467.out _; (with_reducible repeat (first | refine blk_drewN ?_ _ | refine blk_drew ?_ | refine blk_alloc ?_ _)); exact BK430.out) hb); replace BK467 := mA (blk_below (g := gb467) (o := .cells #[.int .i64 t456, .slice Ao55 t457.length co55, .slice Ao56 t460.length co56, .slice Ao57 t463.length co57, .int .i64 t466] 37 (0, 0)) (by (with_reducible repeat (first | refine blk_drewN ?_ _ | refine blk_drew ?_ | refine blk_alloc ?_ _)); refine blk_put (cs := #[.int .i64 t456, .slice Ao55 t457.length co55, .slice Ao56 t460.length co56, .slice Ao57 t463.length co57, .int .i64 0]) ?_ 4 _ rfl; (with_reducible repeat (first | refine blk_drewN ?_ _ | refine blk_drew ?_ | refine blk_alloc ?_ _)); refine blk_put (cs := #[.int .i64 t456, .slice Ao55 t457.length co55, .slice Ao56 t460.length co56, .slice none 0 0, .int .i64 0]) ?_ 3 _ rfl; (with_reducible repeat (first | refine blk_drewN ?_ _ | refine blk_drew ?_ | refine blk_alloc ?_ _)); refine blk_put (cs := #[.int .i64 t456, .slice Ao55 t457.length co55, .slice none 0 0, .slice none 0 0, .int .i64 0]) ?_ 2 _ rfl; (with_reducible repeat (first | refine blk_drewN ?_ _ | refine blk_drew ?_ | refine blk_alloc ?_ _)); refine blk_put (cs := #[.int .i64 t456, .slice none 0 0, .slice none 0 0, .slice none 0 0, .int .i64 0]) ?_ 1 _ rfl; (with_reducible repeat (first | refine blk_drewN ?_ _ | refine blk_drew ?_ | refine blk_alloc ?_ _)); refine blk_put (cs := #[.int .i64 0, .slice none 0 0, .slice none 0 0, .slice none 0 0, .int .i64 0]) ?_ 0 _ rfl; (with_reducible repeat (first | refine blk_drewN ?_ _ | refine blk_drew ?_ | refine blk_alloc ?_ _)); exact BK467.out) hb); replace HB := mA (below_step (bT3 HB GE429 GE430 GE467) hb); (try clear hb); (try clear hk); (try clear ho0); (try clear ho1); (try clear ho2)) | ((with_reducible refine gate_dst (N := 8) rfl ?_); refine boxT 8 #[.int .i64 0, .slice none 0 0, .slice none 0 0, .slice none 0 0, .int .i64 0] 37 ?_; intro gb479 hg w60 hbox hb; replace HO436 := rBR HO436 hb; replace HO439 := rBR HO439 hb; replace HO442 := rBR HO442 hb; replace HO447 := rBR HO447 hb; replace HO450 := rBR HO450 hb; replace HO453 := rBR HO453 hb; replace HO459 := rBR HO459 hb; replace HO462 := rBR HO462 hb; replace HO465 := rBR HO465 hb; replace HO471 := rBR HO471 hb; replace HO474 := rBR HO474 hb; replace HO477 := rBR HO477 hb; have BK479 := mA (hbox); have GW479 := mA ((by rw [hg]; exact (below_size (bT3 HB GE429 GE430 GE467)) : w.heap.size ≤ gb479)); have GE479 := GW479; replace HB := mA (below_step (bT3 HB GE429 GE430 GE467) hb); have NB429_479 : Aside0 (gb429 ≠ gb479) := nL BK429 hg; have NB479_429 : Aside0 (gb479 ≠ gb429) := nG BK429 hg; replace BK429 := kB BK429 hb; have NB430_479 : Aside0 (gb430 ≠ gb479) := nL BK430 hg; have NB479_430 : Aside0 (gb479 ≠ gb430) := nG BK430 hg; replace BK430 := kB BK430 hb; have NB467_479 : Aside0 (gb467 ≠ gb479) := nL BK467 hg; have NB479_467 : Aside0 (gb479 ≠ gb467) := nG BK467 hg; replace BK467 := kB BK467 hb; clear hb hbox hg; have hnb61 := NB479_429.out; have hnc61 := NB429_479.out; have hnb62 := NB479_430.out; have hnc62 := NB430_479.out; have hnb63 := NB479_467.out; have hnc63 := NB467_479.out; obtain ⟨hcz64_0, hcz64_1, hcz64_2, hcz64_3, hcz64_4, hfz64_0, hfz64_1, hfz64_2, hfz64_3, hfz64_4⟩ := blk5 BK479.out; obtain ⟨Ao65, co65, eo65⟩ := Kd.R_slice HO471.out; subst eo65; obtain ⟨Ao66, co66, eo66⟩ := Kd.R_slice HO474.out; subst eo66; obtain ⟨Ao67, co67, eo67⟩ := Kd.R_slice HO477.out; subst eo67; obtain ⟨hcz68_0, hcz68_1, hcz68_2, hcz68_3, hcz68_4, hfz68_0, hfz68_1, hfz68_2, hfz68_3, hfz68_4⟩ := blk5 BK467.out) | ((with_reducible refine gate_callee (f := 32) rfl ?_); refine goesT (some 31) Try.func32 #[.agg #[.int .i64 t456, .slice Ao55 t457.length co55, .slice Ao56 t460.length co56, .slice Ao57 t463.length co57, .int .i64 t466], .agg #[.int .i64 t468, .slice Ao65 t469.length co65, .slice Ao66 t472.length co66, .slice Ao67 t475.length co67, .int .i64 t478]] ?_; (with_reducible refine (impl_EqualTasks.calls k t456 _ _ t457 _ _ t460 _ _ t463 t466 t468 _ _ t469 _ _ t472 _ _ t475 t478 t480 _ ?side1 ?side2 ?side3 ?side4 ?side5 ?side6 ?side7 ?side8 ?side9 ?side10 ?side11 ?side12 A24.out).mono ?_); (case side1 => refine (Kd.R_reads' (e := 62) (base := w.heap.size) (ok := fun k_ => ((((((some k_ ≠ (.slice Ao56 t460.length co56 : Value).ownBlock ∧ some k_ ≠ (.slice Ao42 t434.length co42 : Value).ownBlock) ∧ some k_ ≠ (.slice Ao43 t437.length co43 : Value).ownBlock) ∧ some k_ ≠ (.slice Ao45 t445.length co45 : Value).ownBlock) ∧ some k_ ≠ (.slice Ao46 t448.length co46 : Value).ownBlock) ∧ some k_ ≠ (.slice Ao65 t469.length co65 : Value).ownBlock) ∧ some k_ ≠ (.slice Ao66 t472.length co66 : Value).ownBlock)) (n := t457.length) (c := co55) ?_).2.2; exact (by (with_reducible repeat (first | apply Kd.R_alloc | apply Kd.R_drewN | apply Kd.R_drew)); exact (Kd.R_mono (Kd.R_far (p := ⟨gb479, 4, none⟩) (Kd.R_far (p := ⟨gb479, 3, none⟩) (Kd.R_far (p := ⟨gb479, 2, none⟩) (Kd.R_far (p := ⟨gb479, 1, none⟩) (Kd.R_far (p := ⟨gb479, 0, none⟩) (Kd.R_types HO459.out BK479.out (by decide)) (fun _ hk => hk.2) (.int .i64 t468)) (fun _ hk => hk.2) (.slice Ao65 t469.length co65)) (fun _ hk => hk.2) (.slice Ao66 t472.length co66)) (fun _ hk => hk.2) (.slice Ao67 t475.length co67)) (fun _ hk => hk.2) (.int .i64 t478)) (fun _ h_ => h_.1)))); (case side2 => exact (Kd.R_reads' HO459.out).2.1); (case side3 => refine (Kd.R_reads' (e := 62) (base := w.heap.size) (ok := fun k_ => ((((((some k_ ≠ (.slice Ao55 t457.length co55 : Value).ownBlock ∧ some k_ ≠ (.slice Ao42 t434.length co42 : Value).ownBlock) ∧ some k_ ≠ (.slice Ao43 t437.length co43 : Value).ownBlock) ∧ some k_ ≠ (.slice Ao45 t445.length co45 : Value).ownBlock) ∧ some k_ ≠ (.slice Ao46 t448.length co46 : Value).ownBlock) ∧ some k_ ≠ (.slice Ao65 t469.length co65 : Value).ownBlock) ∧ some k_ ≠ (.slice Ao66 t472.length co66 : Value).ownBlock)) (n := t460.length) (c := co56) ?_).2.2; exact (by (with_reducible repeat (first | apply Kd.R_alloc | apply Kd.R_drewN | apply Kd.R_drew)); exact (Kd.R_mono (Kd.R_far (p := ⟨gb479, 4, none⟩) (Kd.R_far (p := ⟨gb479, 3, none⟩) (Kd.R_far (p := ⟨gb479, 2, none⟩) (Kd.R_far (p := ⟨gb479, 1, none⟩) (Kd.R_far (p := ⟨gb479, 0, none⟩) (Kd.R_types HO462.out BK479.out (by decide)) (fun _ hk => hk.2) (.int .i64 t468)) (fun _ hk => hk.2) (.slice Ao65 t469.length co65)) (fun _ hk => hk.2) (.slice Ao66 t472.length co66)) (fun _ hk => hk.2) (.slice Ao67 t475.length co67)) (fun _ hk => hk.2) (.int .i64 t478)) (fun _ h_ => h_.1)))); (case side4 => exact (Kd.R_reads' HO462.out).2.1); (case side5 => refine (Kd.R_reads' (e := 4) (base := w.heap.size) (ok := fun k_ => (((True ∧ some k_ ≠ (.slice Ao44 t440.length co44 : Value).ownBlock) ∧ some k_ ≠ (.slice Ao47 t451.length co47 : Value).ownBlock) ∧ some k_ ≠ (.slice Ao67 t475.length co67 : Value).ownBlock)) (n := t463.length) (c := co57) ?_).2.2; exact (by (with_reducible repeat (first | apply Kd.R_alloc | apply Kd.R_drewN | apply Kd.R_drew)); exact (Kd.R_mono (Kd.R_far (p := ⟨gb479, 4, none⟩) (Kd.R_far (p := ⟨gb479, 3, none⟩) (Kd.R_far (p := ⟨gb479, 2, none⟩) (Kd.R_far (p := ⟨gb479, 1, none⟩) (Kd.R_far (p := ⟨gb479, 0, none⟩) (Kd.R_types HO465.out BK479.out (by decide)) (fun _ hk => hk.2) (.int .i64 t468)) (fun _ hk => hk.2) (.slice Ao65 t469.length co65)) (fun _ hk => hk.2) (.slice Ao66 t472.length co66)) (fun _ hk => hk.2) (.slice Ao67 t475.length co67)) (fun _ hk => hk.2) (.int .i64 t478)) (fun _ h_ => h_.1)))); (case side6 => exact (Kd.R_reads' HO465.out).2.1); (case side7 => refine (Kd.R_reads' (e := 62) (base := w.heap.size) (ok := fun k_ => ((((((some k_ ≠ (.slice Ao66 t472.length co66 : Value).ownBlock ∧ some k_ ≠ (.slice Ao42 t434.length co42 : Value).ownBlock) ∧ some k_ ≠ (.slice Ao43 t437.length co43 : Value).ownBlock) ∧ some k_ ≠ (.slice Ao45 t445.length co45 : Value).ownBlock) ∧ some k_ ≠ (.slice Ao46 t448.length co46 : Value).ownBlock) ∧ some k_ ≠ (.slice Ao55 t457.length co55 : Value).ownBlock) ∧ some k_ ≠ (.slice Ao56 t460.length co56 : Value).ownBlock)) (n := t469.length) (c := co65) ?_).2.2; exact (by (with_reducible repeat (first | apply Kd.R_alloc | apply Kd.R_drewN | apply Kd.R_drew)); exact (Kd.R_mono (Kd.R_far (p := ⟨gb479, 4, none⟩) (Kd.R_far (p := ⟨gb479, 3, none⟩) (Kd.R_far (p := ⟨gb479, 2, none⟩) (Kd.R_far (p := ⟨gb479, 1, none⟩) (Kd.R_far (p := ⟨gb479, 0, none⟩) (Kd.R_types HO471.out BK479.out (by decide)) (fun _ hk => hk.2) (.int .i64 t468)) (fun _ hk => hk.2) (.slice Ao65 t469.length co65)) (fun _ hk => hk.2) (.slice Ao66 t472.length co66)) (fun _ hk => hk.2) (.slice Ao67 t475.length co67)) (fun _ hk => hk.2) (.int .i64 t478)) (fun _ h_ => h_.1)))); (case side8 => exact (Kd.R_reads' HO471.out).2.1); (case side9 => refine (Kd.R_reads' (e := 62) (base := w.heap.size) (ok := fun k_ => ((((((some k_ ≠ (.slice Ao65 t469.length co65 : Value).ownBlock ∧ some k_ ≠ (.slice Ao42 t434.length co42 : Value).ownBlock) ∧ some k_ ≠ (.slice Ao43 t437.length co43 : Value).ownBlock) ∧ some k_ ≠ (.slice Ao45 t445.length co45 : Value).ownBlock) ∧ some k_ ≠ (.slice Ao46 t448.length co46 : Value).ownBlock) ∧ some k_ ≠ (.slice Ao55 t457.length co55 : Value).ownBlock) ∧ some k_ ≠ (.slice Ao56 t460.length co56 : Value).ownBlock)) (n := t472.length) (c := co66) ?_).2.2; exact (by (with_reducible repeat (first | apply Kd.R_alloc | apply Kd.R_drewN | apply Kd.R_drew)); exact (Kd.R_mono (Kd.R_far (p := ⟨gb479, 4, none⟩) (Kd.R_far (p := ⟨gb479, 3, none⟩) (Kd.R_far (p := ⟨gb479, 2, none⟩) (Kd.R_far (p := ⟨gb479, 1, none⟩) (Kd.R_far (p := ⟨gb479, 0, none⟩) (Kd.R_types HO474.out BK479.out (by decide)) (fun _ hk => hk.2) (.int .i64 t468)) (fun _ hk => hk.2) (.slice Ao65 t469.length co65)) (fun _ hk => hk.2) (.slice Ao66 t472.length co66)) (fun _ hk => hk.2) (.slice Ao67 t475.length co67)) (fun _ hk => hk.2) (.int .i64 t478)) (fun _ h_ => h_.1)))); (case side10 => exact (Kd.R_reads' HO474.out).2.1); (case side11 => refine (Kd.R_reads' (e := 4) (base := w.heap.size) (ok := fun k_ => (((True ∧ some k_ ≠ (.slice Ao44 t440.length co44 : Value).ownBlock) ∧ some k_ ≠ (.slice Ao47 t451.length co47 : Value).ownBlock) ∧ some k_ ≠ (.slice Ao57 t463.length co57 : Value).ownBlock)) (n := t475.length) (c := co67) ?_).2.2; exact (by (with_reducible repeat (first | apply Kd.R_alloc | apply Kd.R_drewN | apply Kd.R_drew)); exact (Kd.R_mono (Kd.R_far (p := ⟨gb479, 4, none⟩) (Kd.R_far (p := ⟨gb479, 3, none⟩) (Kd.R_far (p := ⟨gb479, 2, none⟩) (Kd.R_far (p := ⟨gb479, 1, none⟩) (Kd.R_far (p := ⟨gb479, 0, none⟩) (Kd.R_types HO477.out BK479.out (by decide)) (fun _ hk => hk.2) (.int .i64 t468)) (fun _ hk => hk.2) (.slice Ao65 t469.length co65)) (fun _ hk => hk.2) (.slice Ao66 t472.length co66)) (fun _ hk => hk.2) (.slice Ao67 t475.length co67)) (fun _ hk => hk.2) (.int .i64 t478)) (fun _ h_ => h_.1)))); (case side12 => exact (Kd.R_reads' HO477.out).2.1); rintro e w69 ⟨rfl, hb⟩; refine ⟨_, rfl, ?_⟩; replace HO436 := mA (Kd.R_below (by (with_reducible repeat (first | apply Kd.R_alloc | apply Kd.R_drewN | apply Kd.R_drew)); exact (Kd.R_mono (Kd.R_far (p := ⟨gb479, 4, none⟩) (Kd.R_far (p := ⟨gb479, 3, none⟩) (Kd.R_far (p := ⟨gb479, 2, none⟩) (Kd.R_far (p := ⟨gb479, 1, none⟩) (Kd.R_far (p := ⟨gb479, 0, none⟩) (Kd.R_types HO436.out BK479.out (by decide)) (fun _ hk => hk.2) (.int .i64 t468)) (fun _ hk => hk.2) (.slice Ao65 t469.length co65)) (fun _ hk => hk.2) (.slice Ao66 t472.length co66)) (fun _ hk => hk.2) (.slice Ao67 t475.length co67)) (fun _ hk => hk.2) (.int .i64 t478)) (fun _ h_ => h_.1))) hb); replace HO439 := mA (Kd.R_below (by (with_reducible repeat (first | apply Kd.R_alloc | apply Kd.R_drewN | apply Kd.R_drew)); exact (Kd.R_mono (Kd.R_far (p := ⟨gb479, 4, none⟩) (Kd.R_far (p := ⟨gb479, 3, none⟩) (Kd.R_far (p := ⟨gb479, 2, none⟩) (Kd.R_far (p := ⟨gb479, 1, none⟩) (Kd.R_far (p := ⟨gb479, 0, none⟩) (Kd.R_types HO439.out BK479.out (by decide)) (fun _ hk => hk.2) (.int .i64 t468)) (fun _ hk => hk.2) (.slice Ao65 t469.length co65)) (fun _ hk => hk.2) (.slice Ao66 t472.length co66)) (fun _ hk => hk.2) (.slice Ao67 t475.length co67)) (fun _ hk => hk.2) (.int .i64 t478)) (fun _ h_ => h_.1))) hb); replace HO442 := mA (Kd.R_below (by (with_reducible repeat (first | apply Kd.R_alloc | apply Kd.R_drewN | apply Kd.R_drew)); exact (Kd.R_mono (Kd.R_far (p := ⟨gb479, 4, none⟩) (Kd.R_far (p := ⟨gb479, 3, none⟩) (Kd.R_far (p := ⟨gb479, 2, none⟩) (Kd.R_far (p := ⟨gb479, 1, none⟩) (Kd.R_far (p := ⟨gb479, 0, none⟩) (Kd.R_types HO442.out BK479.out (by decide)) (fun _ hk => hk.2) (.int .i64 t468)) (fun _ hk => hk.2) (.slice Ao65 t469.length co65)) (fun _ hk => hk.2) (.slice Ao66 t472.length co66)) (fun _ hk => hk.2) (.slice Ao67 t475.length co67)) (fun _ hk => hk.2) (.int .i64 t478)) (fun _ h_ => h_.1))) hb); replace HO447 := mA (Kd.R_below (by (with_reducible repeat (first | apply Kd.R_alloc | apply Kd.R_drewN | apply Kd.R_drew)); exact (Kd.R_mono (Kd.R_far (p := ⟨gb479, 4, none⟩) (Kd.R_far (p := ⟨gb479, 3, none⟩) (Kd.R_far (p := ⟨gb479, 2, none⟩) (Kd.R_far (p := ⟨gb479, 1, none⟩) (Kd.R_far (p := ⟨gb479, 0, none⟩) (Kd.R_types HO447.out BK479.out (by decide)) (fun _ hk => hk.2) (.int .i64 t468)) (fun _ hk => hk.2) (.slice Ao65 t469.length co65)) (fun _ hk => hk.2) (.slice Ao66 t472.length co66)) (fun _ hk => hk.2) (.slice Ao67 t475.length co67)) (fun _ hk => hk.2) (.int .i64 t478)) (fun _ h_ => h_.1))) hb); replace HO450 := mA (Kd.R_below (by (with_reducible repeat (first | apply Kd.R_alloc | apply Kd.R_drewN | apply Kd.R_drew)); exact (Kd.R_mono (Kd.R_far (p := ⟨gb479, 4, none⟩) (Kd.R_far (p := ⟨gb479, 3, none⟩) (Kd.R_far (p := ⟨gb479, 2, none⟩) (Kd.R_far (p := ⟨gb479, 1, none⟩) (Kd.R_far (p := ⟨gb479, 0, none⟩) (Kd.R_types HO450.out BK479.out (by decide)) (fun _ hk => hk.2) (.int .i64 t468)) (fun _ hk => hk.2) (.slice Ao65 t469.length co65)) (fun _ hk => hk.2) (.slice Ao66 t472.length co66)) (fun _ hk => hk.2) (.slice Ao67 t475.length co67)) (fun _ hk => hk.2) (.int .i64 t478)) (fun _ h_ => h_.1))) hb); replace HO453 := mA (Kd.R_below (by (with_reducible repeat (first | apply Kd.R_alloc | apply Kd.R_drewN | apply Kd.R_drew)); exact (Kd.R_mono (Kd.R_far (p := ⟨gb479, 4, none⟩) (Kd.R_far (p := ⟨gb479, 3, none⟩) (Kd.R_far (p := ⟨gb479, 2, none⟩) (Kd.R_far (p := ⟨gb479, 1, none⟩) (Kd.R_far (p := ⟨gb479, 0, none⟩) (Kd.R_types HO453.out BK479.out (by decide)) (fun _ hk => hk.2) (.int .i64 t468)) (fun _ hk => hk.2) (.slice Ao65 t469.length co65)) (fun _ hk => hk.2) (.slice Ao66 t472.length co66)) (fun _ hk => hk.2) (.slice Ao67 t475.length co67)) (fun _ hk => hk.2) (.int .i64 t478)) (fun _ h_ => h_.1))) hb); replace HO459 := mA (Kd.R_below (by (with_reducible repeat (first | apply Kd.R_alloc | apply Kd.R_drewN | apply Kd.R_drew)); exact (Kd.R_mono (Kd.R_far (p := ⟨gb479, 4, none⟩) (Kd.R_far (p := ⟨gb479, 3, none⟩) (Kd.R_far (p := ⟨gb479, 2, none⟩) (Kd.R_far (p := ⟨gb479, 1, none⟩) (Kd.R_far (p := ⟨gb479, 0, none⟩) (Kd.R_types HO459.out BK479.out (by decide)) (fun _ hk => hk.2) (.int .i64 t468)) (fun _ hk => hk.2) (.slice Ao65 t469.length co65)) (fun _ hk => hk.2) (.slice Ao66 t472.length co66)) (fun _ hk => hk.2) (.slice Ao67 t475.length co67)) (fun _ hk => hk.2) (.int .i64 t478)) (fun _ h_ => h_.1))) hb); replace HO462 := mA (Kd.R_below (by (with_reducible repeat (first | apply Kd.R_alloc | apply Kd.R_drewN | apply Kd.R_drew)); exact (Kd.R_mono (Kd.R_far (p := ⟨gb479, 4, none⟩) (Kd.R_far (p := ⟨gb479, 3, none⟩) (Kd.R_far (p := ⟨gb479, 2, none⟩) (Kd.R_far (p := ⟨gb479, 1, none⟩) (Kd.R_far (p := ⟨gb479, 0, none⟩) (Kd.R_types HO462.out BK479.out (by decide)) (fun _ hk => hk.2) (.int .i64 t468)) (fun _ hk => hk.2) (.slice Ao65 t469.length co65)) (fun _ hk => hk.2) (.slice Ao66 t472.length co66)) (fun _ hk => hk.2) (.slice Ao67 t475.length co67)) (fun _ hk => hk.2) (.int .i64 t478)) (fun _ h_ => h_.1))) hb); replace HO465 := mA (Kd.R_below (by (with_reducible repeat (first | apply Kd.R_alloc | apply Kd.R_drewN | apply Kd.R_drew)); exact (Kd.R_mono (Kd.R_far (p := ⟨gb479, 4, none⟩) (Kd.R_far (p := ⟨gb479, 3, none⟩) (Kd.R_far (p := ⟨gb479, 2, none⟩) (Kd.R_far (p := ⟨gb479, 1, none⟩) (Kd.R_far (p := ⟨gb479, 0, none⟩) (Kd.R_types HO465.out BK479.out (by decide)) (fun _ hk => hk.2) (.int .i64 t468)) (fun _ hk => hk.2) (.slice Ao65 t469.length co65)) (fun _ hk => hk.2) (.slice Ao66 t472.length co66)) (fun _ hk => hk.2) (.slice Ao67 t475.length co67)) (fun _ hk => hk.2) (.int .i64 t478)) (fun _ h_ => h_.1))) hb); replace HO471 := mA (Kd.R_below (by (with_reducible repeat (first | apply Kd.R_alloc | apply Kd.R_drewN | apply Kd.R_drew)); exact (Kd.R_mono (Kd.R_far (p := ⟨gb479, 4, none⟩) (Kd.R_far (p := ⟨gb479, 3, none⟩) (Kd.R_far (p := ⟨gb479, 2, none⟩) (Kd.R_far (p := ⟨gb479, 1, none⟩) (Kd.R_far (p := ⟨gb479, 0, none⟩) (Kd.R_types HO471.out BK479.out (by decide)) (fun _ hk => hk.2) (.int .i64 t468)) (fun _ hk => hk.2) (.slice Ao65 t469.length co65)) (fun _ hk => hk.2) (.slice Ao66 t472.length co66)) (fun _ hk => hk.2) (.slice Ao67 t475.length co67)) (fun _ hk => hk.2) (.int .i64 t478)) (fun _ h_ => h_.1))) hb); replace HO474 := mA (Kd.R_below (by (with_reducible repeat (first | apply Kd.R_alloc | apply Kd.R_drewN | apply Kd.R_drew)); exact (Kd.R_mono (Kd.R_far (p := ⟨gb479, 4, none⟩) (Kd.R_far (p := ⟨gb479, 3, none⟩) (Kd.R_far (p := ⟨gb479, 2, none⟩) (Kd.R_far (p := ⟨gb479, 1, none⟩) (Kd.R_far (p := ⟨gb479, 0, none⟩) (Kd.R_types HO474.out BK479.out (by decide)) (fun _ hk => hk.2) (.int .i64 t468)) (fun _ hk => hk.2) (.slice Ao65 t469.length co65)) (fun _ hk => hk.2) (.slice Ao66 t472.length co66)) (fun _ hk => hk.2) (.slice Ao67 t475.length co67)) (fun _ hk => hk.2) (.int .i64 t478)) (fun _ h_ => h_.1))) hb); replace HO477 := mA (Kd.R_below (by (with_reducible repeat (first | apply Kd.R_alloc | apply Kd.R_drewN | apply Kd.R_drew)); exact (Kd.R_mono (Kd.R_far (p := ⟨gb479, 4, none⟩) (Kd.R_far (p := ⟨gb479, 3, none⟩) (Kd.R_far (p := ⟨gb479, 2, none⟩) (Kd.R_far (p := ⟨gb479, 1, none⟩) (Kd.R_far (p := ⟨gb479, 0, none⟩) (Kd.R_types HO477.out BK479.out (by decide)) (fun _ hk => hk.2) (.int .i64 t468)) (fun _ hk => hk.2) (.slice Ao65 t469.length co65)) (fun _ hk => hk.2) (.slice Ao66 t472.length co66)) (fun _ hk => hk.2) (.slice Ao67 t475.length co67)) (fun _ hk => hk.2) (.int .i64 t478)) (fun _ h_ => h_.1))) hb); replace BK429 := mA (blk_below (g := gb429) (o := .cells #[.int .i64 a0_0, .slice A0_1 l0_1.length c0_1, .slice A0_2 l0_2.length c0_2, .slice A0_3 l0_3.length c0_3, .int .i64 a0_4] 33 (0, 0)) (by (with_reducible repeat (first | refine blk_drewN ?_ _ | refine blk_drew ?_ | refine blk_alloc ?_ _)); refine blk_far ?_ NB429_479.out _; (with_reducible repeat (first | refine blk_drewN ?_ _ | refine blk_drew ?_ | refine blk_alloc ?_ _)); refine blk_far ?_ NB429_479.out _; (with_reducible repeat (first | refine blk_drewN ?_ _ | refine blk_drew ?_ | refine blk_alloc ?_ _)); refine blk_far ?_ NB429_479.out _; (with_reducible repeat (first | refine blk_drewN ?_ _ | refine blk_drew ?_ | refine blk_alloc ?_ _)); refine blk_far ?_ NB429_479.out _; (with_reducible repeat (first | refine blk_drewN ?_ _ | refine blk_drew ?_ | refine blk_alloc ?_ _)); refine blk_far ?_ NB429_479.out _; (with_reducible repeat (first | refine blk_drewN ?_ _ | refine blk_drew ?_ | refine blk_alloc ?_ _)); exact BK429.out) hb); replace BK430 := mA (blk_below (g := gb430) (o := .cells #[.int .i64 a1_0, .slice A1_1 l1_1.length c1_1, .slice A1_2 l1_2.length c1_2, .slice A1_3 l1_3.length c1_3, .int .i64 a1_4] 33 (0, 0)) (by (with_reducible repeat (first | refine blk_drewN ?_ _ | refine blk_drew ?_ | refine blk_alloc ?_ _)); refine blk_far ?_ NB430_479.out _; (with_reducible repeat (first | refine blk_drewN ?_ _ | refine blk_drew ?_ | refine blk_alloc ?_ _)); refine blk_far ?_ NB430_479.out _; (with_reducible repeat (first | refine blk_drewN ?_ _ | refine blk_drew ?_ | refine blk_alloc ?_ _)); refine blk_far ?_ NB430_479.out _; (with_reducible repeat (first | refine blk_drewN ?_ _ | refine blk_drew ?_ | refine blk_alloc ?_ _)); refine blk_far ?_ NB430_479.out _; (with_reducible repeat (first | refine blk_drewN ?_ _ | refine blk_drew ?_ | refine blk_alloc ?_ _)); refine blk_far ?_ NB430_479.out _; (with_reducible repeat (first | refine blk_drewN ?_ _ | refine blk_drew ?_ | refine blk_alloc ?_ _)); exact BK430.out) hb); replace BK467 := mA (blk_below (g := gb467) (o := .cells #[.int .i64 t456, .slice Ao55 t457.length co55, .slice Ao56 t460.length co56, .slice Ao57 t463.length co57, .int .i64 t466] 37 (0, 0)) (by (with_reducible repeat (first | refine blk_drewN ?_ _ | refine blk_drew ?_ | refine blk_alloc ?_ _)); refine blk_far ?_ NB467_479.out _; (with_reducible repeat (first | refine blk_drewN ?_ _ | refine blk_drew ?_ | refine blk_alloc ?_ _)); refine blk_far ?_ NB467_479.out _; (with_reducible repeat (first | refine blk_drewN ?_ _ | refine blk_drew ?_ | refine blk_alloc ?_ _)); refine blk_far ?_ NB467_479.out _; (with_reducible repeat (first | refine blk_drewN ?_ _ | refine blk_drew ?_ | refine blk_alloc ?_ _)); refine blk_far ?_ NB467_479.out _; (with_reducible repeat (first | refine blk_drewN ?_ _ | refine blk_drew ?_ | refine blk_alloc ?_ _)); refine blk_far ?_ NB467_479.out _; (with_reducible repeat (first | refine blk_drewN ?_ _ | refine blk_drew ?_ | refine blk_alloc ?_ _)); exact BK467.out) hb); replace BK479 := mA (blk_below (g := gb479) (o := .cells #[.int .i64 t468, .slice Ao65 t469.length co65, .slice Ao66 t472.length co66, .slice Ao67 t475.length co67, .int .i64 t478] 37 (0, 0)) (by (with_reducible repeat (first | refine blk_drewN ?_ _ | refine blk_drew ?_ | refine blk_alloc ?_ _)); refine blk_put (cs := #[.int .i64 t468, .slice Ao65 t469.length co65, .slice Ao66 t472.length co66, .slice Ao67 t475.length co67, .int .i64 0]) ?_ 4 _ rfl; (with_reducible repeat (first | refine blk_drewN ?_ _ | refine blk_drew ?_ | refine blk_alloc ?_ _)); refine blk_put (cs := #[.int .i64 t468, .slice Ao65 t469.length co65, .slice Ao66 t472.length co66, .slice none 0 0, .int .i64 0]) ?_ 3 _ rfl; (with_reducible repeat (first | refine blk_drewN ?_ _ | refine blk_drew ?_ | refine blk_alloc ?_ _)); refine blk_put (cs := #[.int .i64 t468, .slice Ao65 t469.length co65, .slice none 0 0, .slice none 0 0, .int .i64 0]) ?_ 2 _ rfl; (with_reducible repeat (first | refine blk_drewN ?_ _ | refine blk_drew ?_ | refine blk_alloc ?_ _)); refine blk_put (cs := #[.int .i64 t468, .slice none 0 0, .slice none 0 0, .slice none 0 0, .int .i64 0]) ?_ 1 _ rfl; (with_reducible repeat (first | refine blk_drewN ?_ _ | refine blk_drew ?_ | refine blk_alloc ?_ _)); refine blk_put (cs := #[.int .i64 0, .slice none 0 0, .slice none 0 0, .slice none 0 0, .int .i64 0]) ?_ 0 _ rfl; (with_reducible repeat (first | refine blk_drewN ?_ _ | refine blk_drew ?_ | refine blk_alloc ?_ _)); exact BK479.out) hb); replace HB := mA (below_step (bT4 HB GE429 GE430 GE467 GE479) hb); (try clear hb); (try clear hk)))
      replace HO436 := mA (Kd.R_drew HO436.out)
      replace HO439 := mA (Kd.R_drew HO439.out)
      replace HO442 := mA (Kd.R_drew HO442.out)
      replace HO447 := mA (Kd.R_drew HO447.out)
      replace HO450 := mA (Kd.R_drew HO450.out)
      replace HO453 := mA (Kd.R_drew HO453.out)
      replace HO459 := mA (Kd.R_drew HO459.out)
      replace HO462 := mA (Kd.R_drew HO462.out)
      replace HO465 := mA (Kd.R_drew HO465.out)
      replace HO471 := mA (Kd.R_drew HO471.out)
      replace HO474 := mA (Kd.R_drew HO474.out)
      replace HO477 := mA (Kd.R_drew HO477.out)
      replace BK429 := mA (blk_drew BK429.out)
      replace BK430 := mA (blk_drew BK430.out)
      replace BK467 := mA (blk_drew BK467.out)
      replace BK479 := mA (blk_drew BK479.out)
      replace HB := mA (below_drew1 HB.out)
      refine start_ (n := 5) (S := fun w' => w'.cell? ⟨gb467, 0, none⟩ = some (.int .i64 t456) ∧ w'.cell? ⟨gb467, 1, none⟩ = some (.slice Ao55 t457.length co55) ∧ w'.cell? ⟨gb467, 2, none⟩ = some (.slice Ao56 t460.length co56) ∧ w'.cell? ⟨gb467, 3, none⟩ = some (.slice Ao57 t463.length co57) ∧ w'.cell? ⟨gb467, 4, none⟩ = some (.int .i64 t466) ∧ w'.cell? ⟨gb429, 0, none⟩ = some (.int .i64 a0_0) ∧ w'.cell? ⟨gb429, 1, none⟩ = some (.slice A0_1 l0_1.length c0_1) ∧ w'.cell? ⟨gb429, 2, none⟩ = some (.slice A0_2 l0_2.length c0_2) ∧ w'.cell? ⟨gb429, 3, none⟩ = some (.slice A0_3 l0_3.length c0_3) ∧ w'.cell? ⟨gb429, 4, none⟩ = some (.int .i64 a0_4)) (ds := []) #[false, false, false, false, false] (by kernel_rfl) rfl rfl ⟨(blk_cell BK467.out 0).trans rfl, (blk_cell BK467.out 1).trans rfl, (blk_cell BK467.out 2).trans rfl, (blk_cell BK467.out 3).trans rfl, (blk_cell BK467.out 4).trans rfl, (blk_cell BK429.out 0).trans rfl, (blk_cell BK429.out 1).trans rfl, (blk_cell BK429.out 2).trans rfl, (blk_cell BK429.out 3).trans rfl, (blk_cell BK429.out 4).trans rfl⟩ (fun hHeld => ?_)
      generalize w69.drew = w70 at HO436 HO439 HO442 HO447 HO450 HO453 HO459 HO462 HO465 HO471 HO474 HO477 BK429 BK430 BK467 BK479 HB hHeld ⊢
      refine take_ (i := 0) (N := some 35) (v := ?_) (a' := ?_) #[true, false, false, false, false] rfl rfl (by kernel_rfl) (fun _ _ _ h => h) (Or.inl ⟨by rfl, ?_⟩) hHeld ?_ ?_
      rotate_left
      ·
       rintro w' ⟨s0, s1, s2, s3, s4, s5, s6, s7, s8, s9⟩
       go_simp
       with_reducible rfl
      rotate_left
      ·
       simp only [Act.put, List.setIfInBounds_toArray, List.set_cons_zero, List.set_cons_succ, i64_w, i32_w]
       rfl
      refine take_ (i := 1) (N := some 36) (v := ?_) (a' := ?_) #[true, true, false, false, false] rfl rfl (by kernel_rfl) (fun _ _ _ h => h) (Or.inl ⟨by rfl, ?_⟩) hHeld ?_ ?_
      rotate_left
      ·
       rintro w' ⟨s0, s1, s2, s3, s4, s5, s6, s7, s8, s9⟩
       go_simp
       with_reducible rfl
      rotate_left
      ·
       simp only [Act.put, List.setIfInBounds_toArray, List.set_cons_zero, List.set_cons_succ, i64_w, i32_w]
       rfl
      refine one_ (i := 2) (N := some 37) #[true, true, true, false, false] rfl rfl (by kernel_rfl) (by decide) (fun K hK => ?_)
      refine goes_ Try.func24 (by kernel_rfl) rfl #[.agg #[.int .i64 a0_0, .slice A0_1 l0_1.length c0_1, .slice A0_2 l0_2.length c0_2, .slice A0_3 l0_3.length c0_3, .int .i64 a0_4]] (by rfl) rfl rfl mT ?_
      with_reducible refine (laws_toTask.calls k a0_0 _ _ l0_1 _ _ l0_2 _ _ l0_3 a0_4 t481 t482 t485 t488 t491 _ ?side1 ?side2 ?side3 ?side4 ?side5 ?side6 A26.out).mono ?_
      (case side1 => exact cT (Kd.C_below HR0_1.out HB.out))
      (case side2 => exact HC0_1.out)
      (case side3 => exact cT (Kd.C_below HR0_2.out HB.out))
      (case side4 => exact HC0_2.out)
      (case side5 => exact cT (Kd.C_below HR0_3.out HB.out))
      (case side6 => exact HC0_3.out)
      rintro e w71 ⟨v483, v486, v489, rfl, ho0, ho1, ho2, hb⟩
      refine ⟨_, rfl, ?_⟩
      have HO484 := mA (Kd.R_lower (Kd.R_new' (Kd.R_new' (Kd.R_new' (Kd.R_new' (Kd.R_new' (Kd.R_new' (Kd.R_new' (Kd.R_new' ho0 (Kd.R_lt (rTR HO436))) (Kd.R_lt (rTR HO439))) (Kd.R_lt (rTR HO447))) (Kd.R_lt (rTR HO450))) (Kd.R_lt (rTR HO459))) (Kd.R_lt (rTR HO462))) (Kd.R_lt (rTR HO471))) (Kd.R_lt (rTR HO474))) (below_size (bT4 HB GE429 GE430 GE467 GE479)))
      have HO487 := mA (Kd.R_lower (Kd.R_new' (Kd.R_new' (Kd.R_new' (Kd.R_new' (Kd.R_new' (Kd.R_new' (Kd.R_new' (Kd.R_new' ho1 (Kd.R_lt (rTR HO436))) (Kd.R_lt (rTR HO439))) (Kd.R_lt (rTR HO447))) (Kd.R_lt (rTR HO450))) (Kd.R_lt (rTR HO459))) (Kd.R_lt (rTR HO462))) (Kd.R_lt (rTR HO471))) (Kd.R_lt (rTR HO474))) (below_size (bT4 HB GE429 GE430 GE467 GE479)))
      replace HO436 := mA (Kd.R_mono (Kd.R_told (Kd.R_told (Kd.R_old (rTR HO436) hb) (Kd.R_base ho0)) (Kd.R_base ho1)) (fun _ h_ => h_.1))
      replace HO439 := mA (Kd.R_mono (Kd.R_told (Kd.R_told (Kd.R_old (rTR HO439) hb) (Kd.R_base ho0)) (Kd.R_base ho1)) (fun _ h_ => h_.1))
      replace HO447 := mA (Kd.R_mono (Kd.R_told (Kd.R_told (Kd.R_old (rTR HO447) hb) (Kd.R_base ho0)) (Kd.R_base ho1)) (fun _ h_ => h_.1))
      replace HO450 := mA (Kd.R_mono (Kd.R_told (Kd.R_told (Kd.R_old (rTR HO450) hb) (Kd.R_base ho0)) (Kd.R_base ho1)) (fun _ h_ => h_.1))
      replace HO459 := mA (Kd.R_mono (Kd.R_told (Kd.R_told (Kd.R_old (rTR HO459) hb) (Kd.R_base ho0)) (Kd.R_base ho1)) (fun _ h_ => h_.1))
      replace HO462 := mA (Kd.R_mono (Kd.R_told (Kd.R_told (Kd.R_old (rTR HO462) hb) (Kd.R_base ho0)) (Kd.R_base ho1)) (fun _ h_ => h_.1))
      replace HO471 := mA (Kd.R_mono (Kd.R_told (Kd.R_told (Kd.R_old (rTR HO471) hb) (Kd.R_base ho0)) (Kd.R_base ho1)) (fun _ h_ => h_.1))
      replace HO474 := mA (Kd.R_mono (Kd.R_told (Kd.R_told (Kd.R_old (rTR HO474) hb) (Kd.R_base ho0)) (Kd.R_base ho1)) (fun _ h_ => h_.1))
      have HO490 := mA (Kd.R_lower (Kd.R_new' (Kd.R_new' (Kd.R_new' (Kd.R_new' ho2 (Kd.R_lt (rTR HO442))) (Kd.R_lt (rTR HO453))) (Kd.R_lt (rTR HO465))) (Kd.R_lt (rTR HO477))) (below_size (bT4 HB GE429 GE430 GE467 GE479)))
      replace HO442 := mA (Kd.R_elder' (rTR HO442) (Kd.R_base ho2) hb)
      replace HO453 := mA (Kd.R_elder' (rTR HO453) (Kd.R_base ho2) hb)
      replace HO465 := mA (Kd.R_elder' (rTR HO465) (Kd.R_base ho2) hb)
      replace HO477 := mA (Kd.R_elder' (rTR HO477) (Kd.R_base ho2) hb)
      replace BK429 := kB BK429 hb
      replace BK430 := kB BK430 hb
      replace BK467 := kB BK467 hb
      replace BK479 := kB BK479 hb
      replace HB := mA (below_step (bT4 HB GE429 GE430 GE467 GE479) hb)
      (try clear hb)
      (try clear hb2)
      (try clear hk)
      (try clear hi)
      (try clear ho0)
      (try clear ho1)
      (try clear ho2)
      obtain ⟨Ao72, co72, eo72⟩ := Kd.R_slice HO484.out
      (first | subst eo72 | (injection eo72 with f1_ f2_ f3_; have f4_ := f1_.symm; have f5_ := f3_.symm; clear f1_ f2_ f3_; subst f4_; subst f5_))
      obtain ⟨Ao73, co73, eo73⟩ := Kd.R_slice HO487.out
      (first | subst eo73 | (injection eo73 with f1_ f2_ f3_; have f4_ := f1_.symm; have f5_ := f3_.symm; clear f1_ f2_ f3_; subst f4_; subst f5_))
      obtain ⟨Ao74, co74, eo74⟩ := Kd.R_slice HO490.out
      (first | subst eo74 | (injection eo74 with f1_ f2_ f3_; have f4_ := f1_.symm; have f5_ := f3_.symm; clear f1_ f2_ f3_; subst f4_; subst f5_))
      refine hK.out _ _ ⟨(blk_cell BK467.out 0).trans rfl, (blk_cell BK467.out 1).trans rfl, (blk_cell BK467.out 2).trans rfl, (blk_cell BK467.out 3).trans rfl, (blk_cell BK467.out 4).trans rfl, (blk_cell BK429.out 0).trans rfl, (blk_cell BK429.out 1).trans rfl, (blk_cell BK429.out 2).trans rfl, (blk_cell BK429.out 3).trans rfl, (blk_cell BK429.out 4).trans rfl⟩ (fun hHeld => ?_)
      clear hK K
      refine norm_ (a' := ?_) ?_ ?_
      rotate_left
      ·
       show Act.put _ (some 37) _ = _
       simp only [Act.put, List.setIfInBounds_toArray, List.set_cons_zero, List.set_cons_succ, i64_w, i32_w]
       rfl
      refine one_ (i := 3) (N := some 38) #[true, true, true, true, false] rfl rfl (by kernel_rfl) (by decide) (fun K hK => ?_)
      refine goes_ Try.func26 (by kernel_rfl) rfl #[.agg #[.int .i64 t456, .slice Ao55 t457.length co55, .slice Ao56 t460.length co56, .slice Ao57 t463.length co57, .int .i64 t466], .agg #[.int .i64 t481, .slice Ao72 t482.length co72, .slice Ao73 t485.length co73, .slice Ao74 t488.length co74, .int .i64 t491]] (by rfl) rfl rfl mT ?_
      with_reducible refine (laws_eqTask.calls k t456 _ _ t457 _ _ t460 _ _ t463 t466 t481 _ _ t482 _ _ t485 _ _ t488 t491 true _ ?side1 ?side2 ?side3 ?side4 ?side5 ?side6 ?side7 ?side8 ?side9 ?side10 ?side11 ?side12 A27.out).mono ?_
      (case side1 => exact cT ((Kd.R_reads' HO459.out).2.2))
      (case side2 => exact (Kd.R_reads' HO459.out).2.1)
      (case side3 => exact cT ((Kd.R_reads' HO462.out).2.2))
      (case side4 => exact (Kd.R_reads' HO462.out).2.1)
      (case side5 => exact cT ((Kd.R_reads' HO465.out).2.2))
      (case side6 => exact (Kd.R_reads' HO465.out).2.1)
      (case side7 => exact cT ((Kd.R_reads' HO484.out).2.2))
      (case side8 => exact (Kd.R_reads' HO484.out).2.1)
      (case side9 => exact cT ((Kd.R_reads' HO487.out).2.2))
      (case side10 => exact (Kd.R_reads' HO487.out).2.1)
      (case side11 => exact cT ((Kd.R_reads' HO490.out).2.2))
      (case side12 => exact (Kd.R_reads' HO490.out).2.1)
      rintro e w75 ⟨rfl, hb⟩
      refine ⟨_, rfl, ?_⟩
      replace HO436 := rBR HO436 hb
      replace HO439 := rBR HO439 hb
      replace HO442 := rBR HO442 hb
      replace HO447 := rBR HO447 hb
      replace HO450 := rBR HO450 hb
      replace HO453 := rBR HO453 hb
      replace HO459 := rBR HO459 hb
      replace HO462 := rBR HO462 hb
      replace HO465 := rBR HO465 hb
      replace HO471 := rBR HO471 hb
      replace HO474 := rBR HO474 hb
      replace HO477 := rBR HO477 hb
      replace HO484 := rBR HO484 hb
      replace HO487 := rBR HO487 hb
      replace HO490 := rBR HO490 hb
      replace BK429 := kB BK429 hb
      replace BK430 := kB BK430 hb
      replace BK467 := kB BK467 hb
      replace BK479 := kB BK479 hb
      replace HB := mA (below_step (bT4 HB GE429 GE430 GE467 GE479) hb)
      (try clear hb)
      (try clear hb2)
      (try clear hk)
      (try clear hi)
      refine hK.out _ _ ⟨(blk_cell BK467.out 0).trans rfl, (blk_cell BK467.out 1).trans rfl, (blk_cell BK467.out 2).trans rfl, (blk_cell BK467.out 3).trans rfl, (blk_cell BK467.out 4).trans rfl, (blk_cell BK429.out 0).trans rfl, (blk_cell BK429.out 1).trans rfl, (blk_cell BK429.out 2).trans rfl, (blk_cell BK429.out 3).trans rfl, (blk_cell BK429.out 4).trans rfl⟩ (fun hHeld => ?_)
      clear hK K
      refine norm_ (a' := ?_) ?_ ?_
      rotate_left
      ·
       show Act.put _ (some 38) _ = _
       simp only [Act.put, List.setIfInBounds_toArray, List.set_cons_zero, List.set_cons_succ, i64_w, i32_w]
       rfl
      refine pureT (i := 4) (N := some 39) #[true, true, true, true, true] (by kernel_rfl) ?_
      refine done_ (by kernel_rfl) ?_
      try go_wp2
      replace HO436 := mA (Kd.R_drew HO436.out)
      replace HO439 := mA (Kd.R_drew HO439.out)
      replace HO442 := mA (Kd.R_drew HO442.out)
      replace HO447 := mA (Kd.R_drew HO447.out)
      replace HO450 := mA (Kd.R_drew HO450.out)
      replace HO453 := mA (Kd.R_drew HO453.out)
      replace HO459 := mA (Kd.R_drew HO459.out)
      replace HO462 := mA (Kd.R_drew HO462.out)
      replace HO465 := mA (Kd.R_drew HO465.out)
      replace HO471 := mA (Kd.R_drew HO471.out)
      replace HO474 := mA (Kd.R_drew HO474.out)
      replace HO477 := mA (Kd.R_drew HO477.out)
      replace HO484 := mA (Kd.R_drew HO484.out)
      replace HO487 := mA (Kd.R_drew HO487.out)
      replace HO490 := mA (Kd.R_drew HO490.out)
      replace BK430 := mA (blk_drew BK430.out)
      replace BK479 := mA (blk_drew BK479.out)
      replace HB := mA (below_drew1 HB.out)
      refine start_ (n := 5) (S := fun w' => w'.cell? ⟨gb479, 0, none⟩ = some (.int .i64 t468) ∧ w'.cell? ⟨gb479, 1, none⟩ = some (.slice Ao65 t469.length co65) ∧ w'.cell? ⟨gb479, 2, none⟩ = some (.slice Ao66 t472.length co66) ∧ w'.cell? ⟨gb479, 3, none⟩ = some (.slice Ao67 t475.length co67) ∧ w'.cell? ⟨gb479, 4, none⟩ = some (.int .i64 t478) ∧ w'.cell? ⟨gb430, 0, none⟩ = some (.int .i64 a1_0) ∧ w'.cell? ⟨gb430, 1, none⟩ = some (.slice A1_1 l1_1.length c1_1) ∧ w'.cell? ⟨gb430, 2, none⟩ = some (.slice A1_2 l1_2.length c1_2) ∧ w'.cell? ⟨gb430, 3, none⟩ = some (.slice A1_3 l1_3.length c1_3) ∧ w'.cell? ⟨gb430, 4, none⟩ = some (.int .i64 a1_4)) (ds := []) #[false, false, false, false, false] (by kernel_rfl) rfl rfl ⟨(blk_cell BK479.out 0).trans rfl, (blk_cell BK479.out 1).trans rfl, (blk_cell BK479.out 2).trans rfl, (blk_cell BK479.out 3).trans rfl, (blk_cell BK479.out 4).trans rfl, (blk_cell BK430.out 0).trans rfl, (blk_cell BK430.out 1).trans rfl, (blk_cell BK430.out 2).trans rfl, (blk_cell BK430.out 3).trans rfl, (blk_cell BK430.out 4).trans rfl⟩ (fun hHeld => ?_)
      generalize w75.drew = w76 at HO436 HO439 HO442 HO447 HO450 HO453 HO459 HO462 HO465 HO471 HO474 HO477 HO484 HO487 HO490 BK430 BK479 HB hHeld ⊢
      refine take_ (i := 0) (N := some 40) (v := ?_) (a' := ?_) #[true, false, false, false, false] rfl rfl (by kernel_rfl) (fun _ _ _ h => h) (Or.inl ⟨by rfl, ?_⟩) hHeld ?_ ?_
      rotate_left
      ·
       rintro w' ⟨s0, s1, s2, s3, s4, s5, s6, s7, s8, s9⟩
       go_simp
       with_reducible rfl
      rotate_left
      ·
       simp only [Act.put, List.setIfInBounds_toArray, List.set_cons_zero, List.set_cons_succ, i64_w, i32_w]
       rfl
      refine take_ (i := 1) (N := some 41) (v := ?_) (a' := ?_) #[true, true, false, false, false] rfl rfl (by kernel_rfl) (fun _ _ _ h => h) (Or.inl ⟨by rfl, ?_⟩) hHeld ?_ ?_
      rotate_left
      ·
       rintro w' ⟨s0, s1, s2, s3, s4, s5, s6, s7, s8, s9⟩
       go_simp
       with_reducible rfl
      rotate_left
      ·
       simp only [Act.put, List.setIfInBounds_toArray, List.set_cons_zero, List.set_cons_succ, i64_w, i32_w]
       rfl
      refine one_ (i := 2) (N := some 42) #[true, true, true, false, false] rfl rfl (by kernel_rfl) (by decide) (fun K hK => ?_)
      refine goes_ Try.func24 (by kernel_rfl) rfl #[.agg #[.int .i64 a1_0, .slice A1_1 l1_1.length c1_1, .slice A1_2 l1_2.length c1_2, .slice A1_3 l1_3.length c1_3, .int .i64 a1_4]] (by rfl) rfl rfl mT ?_
      with_reducible refine (laws_toTask.calls k a1_0 _ _ l1_1 _ _ l1_2 _ _ l1_3 a1_4 t493 t494 t497 t500 t503 _ ?side1 ?side2 ?side3 ?side4 ?side5 ?side6 A29.out).mono ?_
      (case side1 => exact cT (Kd.C_below HR1_1.out HB.out))
      (case side2 => exact HC1_1.out)
      (case side3 => exact cT (Kd.C_below HR1_2.out HB.out))
      (case side4 => exact HC1_2.out)
      (case side5 => exact cT (Kd.C_below HR1_3.out HB.out))
      (case side6 => exact HC1_3.out)
      rintro e w77 ⟨v495, v498, v501, rfl, ho0, ho1, ho2, hb⟩
      refine ⟨_, rfl, ?_⟩
      have HO496 := mA (Kd.R_lower (Kd.R_new' (Kd.R_new' (Kd.R_new' (Kd.R_new' (Kd.R_new' (Kd.R_new' (Kd.R_new' (Kd.R_new' (Kd.R_new' (Kd.R_new' ho0 (Kd.R_lt (rTR HO436))) (Kd.R_lt (rTR HO439))) (Kd.R_lt (rTR HO447))) (Kd.R_lt (rTR HO450))) (Kd.R_lt (rTR HO459))) (Kd.R_lt (rTR HO462))) (Kd.R_lt (rTR HO471))) (Kd.R_lt (rTR HO474))) (Kd.R_lt (rTR HO484))) (Kd.R_lt (rTR HO487))) (below_size (bT4 HB GE429 GE430 GE467 GE479)))
      have HO499 := mA (Kd.R_lower (Kd.R_new' (Kd.R_new' (Kd.R_new' (Kd.R_new' (Kd.R_new' (Kd.R_new' (Kd.R_new' (Kd.R_new' (Kd.R_new' (Kd.R_new' ho1 (Kd.R_lt (rTR HO436))) (Kd.R_lt (rTR HO439))) (Kd.R_lt (rTR HO447))) (Kd.R_lt (rTR HO450))) (Kd.R_lt (rTR HO459))) (Kd.R_lt (rTR HO462))) (Kd.R_lt (rTR HO471))) (Kd.R_lt (rTR HO474))) (Kd.R_lt (rTR HO484))) (Kd.R_lt (rTR HO487))) (below_size (bT4 HB GE429 GE430 GE467 GE479)))
      replace HO471 := mA (Kd.R_mono (Kd.R_told (Kd.R_told (Kd.R_old (rTR HO471) hb) (Kd.R_base ho0)) (Kd.R_base ho1)) (fun _ h_ => h_.1))
      replace HO474 := mA (Kd.R_mono (Kd.R_told (Kd.R_told (Kd.R_old (rTR HO474) hb) (Kd.R_base ho0)) (Kd.R_base ho1)) (fun _ h_ => h_.1))
      have HO502 := mA (Kd.R_lower (Kd.R_new' (Kd.R_new' (Kd.R_new' (Kd.R_new' (Kd.R_new' ho2 (Kd.R_lt (rTR HO442))) (Kd.R_lt (rTR HO453))) (Kd.R_lt (rTR HO465))) (Kd.R_lt (rTR HO477))) (Kd.R_lt (rTR HO490))) (below_size (bT4 HB GE429 GE430 GE467 GE479)))
      replace HO477 := mA (Kd.R_elder' (rTR HO477) (Kd.R_base ho2) hb)
      replace BK430 := kB BK430 hb
      replace BK479 := kB BK479 hb
      replace HB := mA (below_step (bT4 HB GE429 GE430 GE467 GE479) hb)
      (try clear hb)
      (try clear hb2)
      (try clear hk)
      (try clear hi)
      (try clear ho0)
      (try clear ho1)
      (try clear ho2)
      obtain ⟨Ao78, co78, eo78⟩ := Kd.R_slice HO496.out
      (first | subst eo78 | (injection eo78 with f1_ f2_ f3_; have f4_ := f1_.symm; have f5_ := f3_.symm; clear f1_ f2_ f3_; subst f4_; subst f5_))
      obtain ⟨Ao79, co79, eo79⟩ := Kd.R_slice HO499.out
      (first | subst eo79 | (injection eo79 with f1_ f2_ f3_; have f4_ := f1_.symm; have f5_ := f3_.symm; clear f1_ f2_ f3_; subst f4_; subst f5_))
      obtain ⟨Ao80, co80, eo80⟩ := Kd.R_slice HO502.out
      (first | subst eo80 | (injection eo80 with f1_ f2_ f3_; have f4_ := f1_.symm; have f5_ := f3_.symm; clear f1_ f2_ f3_; subst f4_; subst f5_))
      refine hK.out _ _ ⟨(blk_cell BK479.out 0).trans rfl, (blk_cell BK479.out 1).trans rfl, (blk_cell BK479.out 2).trans rfl, (blk_cell BK479.out 3).trans rfl, (blk_cell BK479.out 4).trans rfl, (blk_cell BK430.out 0).trans rfl, (blk_cell BK430.out 1).trans rfl, (blk_cell BK430.out 2).trans rfl, (blk_cell BK430.out 3).trans rfl, (blk_cell BK430.out 4).trans rfl⟩ (fun hHeld => ?_)
      clear hK K
      refine norm_ (a' := ?_) ?_ ?_
      rotate_left
      ·
       show Act.put _ (some 42) _ = _
       simp only [Act.put, List.setIfInBounds_toArray, List.set_cons_zero, List.set_cons_succ, i64_w, i32_w]
       rfl
      refine one_ (i := 3) (N := some 43) #[true, true, true, true, false] rfl rfl (by kernel_rfl) (by decide) (fun K hK => ?_)
      refine goes_ Try.func26 (by kernel_rfl) rfl #[.agg #[.int .i64 t468, .slice Ao65 t469.length co65, .slice Ao66 t472.length co66, .slice Ao67 t475.length co67, .int .i64 t478], .agg #[.int .i64 t493, .slice Ao78 t494.length co78, .slice Ao79 t497.length co79, .slice Ao80 t500.length co80, .int .i64 t503]] (by rfl) rfl rfl mT ?_
      with_reducible refine (laws_eqTask.calls k t468 _ _ t469 _ _ t472 _ _ t475 t478 t493 _ _ t494 _ _ t497 _ _ t500 t503 true _ ?side1 ?side2 ?side3 ?side4 ?side5 ?side6 ?side7 ?side8 ?side9 ?side10 ?side11 ?side12 A30.out).mono ?_
      (case side1 => exact cT ((Kd.R_reads' HO471.out).2.2))
      (case side2 => exact (Kd.R_reads' HO471.out).2.1)
      (case side3 => exact cT ((Kd.R_reads' HO474.out).2.2))
      (case side4 => exact (Kd.R_reads' HO474.out).2.1)
      (case side5 => exact cT ((Kd.R_reads' HO477.out).2.2))
      (case side6 => exact (Kd.R_reads' HO477.out).2.1)
      (case side7 => exact cT ((Kd.R_reads' HO496.out).2.2))
      (case side8 => exact (Kd.R_reads' HO496.out).2.1)
      (case side9 => exact cT ((Kd.R_reads' HO499.out).2.2))
      (case side10 => exact (Kd.R_reads' HO499.out).2.1)
      (case side11 => exact cT ((Kd.R_reads' HO502.out).2.2))
      (case side12 => exact (Kd.R_reads' HO502.out).2.1)
      rintro e w81 ⟨rfl, hb⟩
      refine ⟨_, rfl, ?_⟩
      replace BK430 := kB BK430 hb
      replace BK479 := kB BK479 hb
      replace HB := mA (below_step (bT4 HB GE429 GE430 GE467 GE479) hb)
      (try clear hb)
      (try clear hb2)
      (try clear hk)
      (try clear hi)
      refine hK.out _ _ ⟨(blk_cell BK479.out 0).trans rfl, (blk_cell BK479.out 1).trans rfl, (blk_cell BK479.out 2).trans rfl, (blk_cell BK479.out 3).trans rfl, (blk_cell BK479.out 4).trans rfl, (blk_cell BK430.out 0).trans rfl, (blk_cell BK430.out 1).trans rfl, (blk_cell BK430.out 2).trans rfl, (blk_cell BK430.out 3).trans rfl, (blk_cell BK430.out 4).trans rfl⟩ (fun hHeld => ?_)
      clear hK K
      refine norm_ (a' := ?_) ?_ ?_
      rotate_left
      ·
       show Act.put _ (some 43) _ = _
       simp only [Act.put, List.setIfInBounds_toArray, List.set_cons_zero, List.set_cons_succ, i64_w, i32_w]
       rfl
      refine pureT (i := 4) (N := some 44) #[true, true, true, true, true] (by kernel_rfl) ?_
      refine done_ (by kernel_rfl) ?_
      try go_wp2
      go_ret
      exact ⟨eT, bT4 HB GE429 GE430 GE467 GE479⟩
     ·
      replace c31 := Bool.eq_false_iff.mpr c31
      subst c31
      rw [if_neg (show ¬ (false = true) by decide)] at H
      exact absurd ((Option.some.inj H).trans HT.out) (by simp)
    ·
     replace c28 := Bool.eq_false_iff.mpr c28
     subst c28
     rw [if_neg (show ¬ (false = true) by decide)] at H
     exact absurd ((Option.some.inj H).trans HT.out) (by simp)

end Go.Proofs.Ythciieopabndcaa.P
