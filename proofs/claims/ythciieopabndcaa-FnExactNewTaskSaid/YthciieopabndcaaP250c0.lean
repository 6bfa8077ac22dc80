/- Written by tools/seatprint.py over the translation. Lean checks it. -/
import Derived.Test.YthciieopabndcaaP0
import Derived.Test.YthciieopabndcaaP2d0c0
namespace Go.Proofs.Ythciieopabndcaa.P
open Go.RowKit Go.Proofs.YthciieopabndcaaW.PrintWords Go.Proofs.YthciieopabndcaaW.PrintLast Go.Proofs.YthciieopabndcaaW.PrintMore
attribute [local go_sem] max2_int min2_int max_two min_two max_three min_three max_four min_four
set_option linter.unusedVariables false
set_option linter.unusedSimpArgs false

/-! ### laws_heldBoolS: function 73 -/
def laws_heldBoolS.l0 : Nat → List Bool → Int → Int → Option (Int)
 | 0, _, _, _ => none
 | k + 1, x0, x1, x5 => if x5 < (x0.length : Int) then (if 0 ≤ x5 then (if ((rdOf false x0 x5) != ((Int.tmod x1 3) == 0)) = true then (some (-1)) else (laws_heldBoolS.l0 k x0 (wrap64 (x1 + 1)) (wrap64 (x5 + 1)))) else (none)) else (some x1)
def laws_heldBoolS.f (k : Nat) (l0 : List Bool) (a1 : Int) : Option (Int) := laws_heldBoolS.l0 k l0 a1 0
theorem laws_heldBoolS.mono_l : ∀ k, (∀ y0 y1 y2, LeO (laws_heldBoolS.l0 k y0 y1 y2) (laws_heldBoolS.l0 (k + 1) y0 y1 y2))
 | 0 => fun _ _ _ r h => by simp [laws_heldBoolS.l0] at h
 | k + 1 => by
  have ih0 := laws_heldBoolS.mono_l k
  ·
   intro y0 y1 y2
   unfold laws_heldBoolS.l0
   repeat' first
   | (with_reducible exact ih0 _ _ _)
   | (with_reducible exact LeO.refl _)
   | (with_reducible exact LeO.none _)
   | (with_reducible refine LeO.ite ?_ ?_)
   | (with_reducible refine LeO.bind ?_ (fun _ => ?_))
   | exact ih0 _ _ _
   | exact LeO.none _
   | refine LeO.ite ?_ ?_
   | refine LeO.bind ?_ (fun _ => ?_)
theorem laws_heldBoolS.mono : ∀ a0 a1 k, LeO (laws_heldBoolS.f k a0 a1) (laws_heldBoolS.f (k + 1) a0 a1) := by
 intro a0 a1 k
 have ih0 := laws_heldBoolS.mono_l k
 unfold laws_heldBoolS.f
 repeat' first
   | (with_reducible exact ih0 _ _ _)
   | (with_reducible exact LeO.refl _)
   | (with_reducible exact LeO.none _)
   | (with_reducible refine LeO.ite ?_ ?_)
   | (with_reducible refine LeO.bind ?_ (fun _ => ?_))
   | exact ih0 _ _ _
   | exact LeO.none _
   | refine LeO.ite ?_ ?_
   | refine LeO.bind ?_ (fun _ => ?_)
set_option maxHeartbeats 8000000 in
set_option maxRecDepth 100000 in
theorem laws_heldBoolS.calls (k : Nat) (A0 : Option Addr) (c0 : Nat) (l0 : List Bool) (a1 : Int) (r : Int) (w : World) (hr0 : Kd.C Kd.bool w A0 l0.length l0) (hc0 : l0.length ≤ c0) (h : laws_heldBoolS.f k l0 a1 = some r) :
  Calls Try.prog 73 #[.slice A0 l0.length c0, .int .i64 a1] w fun e w' => e = .returned (.int .i64 r) ∧ Drawn0 w w' := by
 have HR0 := mA hr0
 have HC0 := mA hc0
 clear hr0 hc0
 have H : (laws_heldBoolS.l0 k l0 a1 0) = some r := h
 clear h
 have H' := mA H
 clear H
 go_enter Try.func73, Try.ntmps73
 go_wp2
 go_loopg [1, 5] k (fun kq v1 v5 w' => ∃ (x1_1 : Int) (x5_1 : Int), v1 = .int .i64 x1_1 ∧ v5 = .int .i64 x5_1 ∧ Aside0 (laws_heldBoolS.l0 kq l0 x1_1 x5_1 = some r) ∧ Aside0 (kq ≤ k) ∧ Drawn0 w w')
 case atStart => exact ⟨(a1), (0), sT, sT, H', ⟨Nat.le_refl _⟩, by repeat (first | exact Drawn0.refl _ | apply Drawn0.step)⟩
 case round =>
  clear H'
  try clear p2
  obtain ⟨x1_1, x5_1, rfl, rfl, HA, HK1, ⟨m1, rfl⟩⟩ := hrel
  cases gk with
  | zero => exact absurd HA.out (by simp [laws_heldBoolS.l0])
  | succ k1 =>
   have H := HA.out
   clear HA
   simp only [laws_heldBoolS.l0] at H
   by_cases c3 : x5_1 < (l0.length : Int)
   ·
    rw [if_pos c3] at H
    have c3b0 : decide (x5_1 < (l0.length : Int)) = true := decide_eq_true c3
    clear c3
    by_cases c4 : 0 ≤ x5_1
    ·
     rw [if_pos c4] at H
     have c4b0 : decide (0 ≤ x5_1) = true := decide_eq_true c4
     clear c4
     by_cases c5 : ((rdOf false l0 x5_1) != ((Int.tmod x1_1 3) == 0)) = true
     ·
      rw [if_pos c5] at H
      have c5b0 : ((rdOf false l0 x5_1) != ((Int.tmod x1_1 3) == 0)) = true := c5
      (try (have c5b1 : decide ((rdOf false l0 x5_1) = ((Int.tmod x1_1 3) == 0)) = false := by simpa using c5))
      (try (have c5b2 : ((rdOf false l0 x5_1) == ((Int.tmod x1_1 3) == 0)) = false := by simpa using c5))
      (try (have c5b3 : ¬ ((rdOf false l0 x5_1) = ((Int.tmod x1_1 3) == 0)) := by simpa using c5))
      clear c5
      obtain rfl := Option.some.inj H
      have p545 : 0 ≤ (x5_1 : Int) := of_decide_eq_true aT
      have q545 : x5_1 < (l0.length : Int) := of_decide_eq_true aT
      obtain ⟨ad545, e545, hx545_0⟩ := Kd.at_bool HR0.out x5_1 p545 q545
      cases e545
      replace p545 := eq_true p545
      replace q545 := eq_true q545
      go_wp2
      go_ret
      exact ⟨sT, by repeat (first | exact Drawn0.refl _ | apply Drawn0.step)⟩
     ·
      rw [if_neg c5] at H
      have c5b0 : ((rdOf false l0 x5_1) != ((Int.tmod x1_1 3) == 0)) = false := by simpa using c5
      (try (have c5b1 : decide ((rdOf false l0 x5_1) = ((Int.tmod x1_1 3) == 0)) = true := by simpa using c5))
      (try (have c5b2 : ((rdOf false l0 x5_1) == ((Int.tmod x1_1 3) == 0)) = true := by simpa using c5))
      clear c5
      have H' := mA H
      clear H
      have p545 : 0 ≤ (x5_1 : Int) := of_decide_eq_true aT
      have q545 : x5_1 < (l0.length : Int) := of_decide_eq_true aT
      obtain ⟨ad545, e545, hx545_0⟩ := Kd.at_bool HR0.out x5_1 p545 q545
      cases e545
      replace p545 := eq_true p545
      replace q545 := eq_true q545
      go_wp2
      go_roundg k1
      case measure => have := HK1.out; omega
      case rel => exact ⟨(wrap64 (x1_1 + 1)), (wrap64 (x5_1 + 1)), sT, sT, H', ⟨by have := HK1.out; omega⟩, by repeat (first | exact Drawn0.refl _ | apply Drawn0.step)⟩
    ·
     rw [if_neg c4] at H
     exact absurd H (by simp)
   ·
    rw [if_neg c3] at H
    have c3b0 : decide (x5_1 < (l0.length : Int)) = false := decide_eq_false c3
    clear c3
    obtain rfl := Option.some.inj H
    go_wp2
    go_ret
    exact ⟨sT, by repeat (first | exact Drawn0.refl _ | apply Drawn0.step)⟩

/-! ### laws_heldTask: function 36 -/
def laws_heldTask.f (k : Nat) (a0_0 : Int) (l0_1 : List (S62)) (l0_2 : List (S62)) (l0_3 : List Bool) (a0_4 : Int) (a1 : Int) : Option (Int) := (laws_heldRowS.f k l0_1 a1).bind fun t547 => (if t547 < 0 then (some (-1)) else ((laws_heldRowS.f k l0_2 t547).bind fun t548 => (if t548 < 0 then (some (-1)) else ((laws_heldBoolS.f k l0_3 t548).bind fun t549 => (if t549 < 0 then (some (-1)) else (some t549))))))
theorem laws_heldTask.mono : ∀ a0 a1 a2 a3 a4 a5 k, LeO (laws_heldTask.f k a0 a1 a2 a3 a4 a5) (laws_heldTask.f (k + 1) a0 a1 a2 a3 a4 a5) := by
 intro a0 a1 a2 a3 a4 a5 k
 unfold laws_heldTask.f
 repeat' first
   | (with_reducible exact laws_heldBoolS.mono _ _ _)
   | (with_reducible exact laws_heldRowS.mono _ _ _)
   | (with_reducible exact LeO.refl _)
   | (with_reducible exact LeO.none _)
   | (with_reducible refine LeO.ite ?_ ?_)
   | (with_reducible refine LeO.bind ?_ (fun _ => ?_))
   | exact laws_heldBoolS.mono _ _ _
   | exact laws_heldRowS.mono _ _ _
   | exact LeO.none _
   | refine LeO.ite ?_ ?_
   | refine LeO.bind ?_ (fun _ => ?_)
set_option maxHeartbeats 8000000 in
set_option maxRecDepth 100000 in
theorem laws_heldTask.calls (k : Nat) (a0_0 : Int) (A0_1 : Option Addr) (c0_1 : Nat) (l0_1 : List (S62)) (A0_2 : Option Addr) (c0_2 : Nat) (l0_2 : List (S62)) (A0_3 : Option Addr) (c0_3 : Nat) (l0_3 : List Bool) (a0_4 : Int) (a1 : Int) (r : Int) (w : World) (hr0_1 : Kd.C k62 w A0_1 l0_1.length l0_1) (hc0_1 : l0_1.length ≤ c0_1) (hr0_2 : Kd.C k62 w A0_2 l0_2.length l0_2) (hc0_2 : l0_2.length ≤ c0_2) (hr0_3 : Kd.C Kd.bool w A0_3 l0_3.length l0_3) (hc0_3 : l0_3.length ≤ c0_3) (h : laws_heldTask.f k a0_0 l0_1 l0_2 l0_3 a0_4 a1 = some r) :
  Calls Try.prog 36 #[.agg #[.int .i64 a0_0, .slice A0_1 l0_1.length c0_1, .slice A0_2 l0_2.length c0_2, .slice A0_3 l0_3.length c0_3, .int .i64 a0_4], .int .i64 a1] w fun e w' => e = .returned (.int .i64 r) ∧ Below w.heap.size w w' := by
 have hu37 := Try.underlying37
 have HR0_1 := mA hr0_1
 have HC0_1 := mA hc0_1
 clear hr0_1 hc0_1
 have HR0_2 := mA hr0_2
 have HC0_2 := mA hc0_2
 clear hr0_2 hc0_2
 have HR0_3 := mA hr0_3
 have HC0_3 := mA hc0_3
 clear hr0_3 hc0_3
 have HB := mA (Below.refl w.heap.size w)
 have H : ((laws_heldRowS.f k l0_1 a1).bind fun t547 => (if t547 < 0 then (some (-1)) else ((laws_heldRowS.f k l0_2 t547).bind fun t548 => (if t548 < 0 then (some (-1)) else ((laws_heldBoolS.f k l0_3 t548).bind fun t549 => (if t549 < 0 then (some (-1)) else (some t549))))))) = some r := h
 clear h
 obtain ⟨t547, A3, H⟩ := Option.bind_eq_some_iff.mp H
 replace A3 := mA A3
 try dsimp only at H
 by_cases c4 : t547 < 0
 ·
  rw [if_pos c4] at H
  have c4b0 : decide (t547 < 0) = true := decide_eq_true c4
  clear c4
  obtain rfl := Option.some.inj H
  go_enter Try.func36, Try.ntmps36
  go_wp2_with (first | ((with_reducible refine gate_dst (N := 2) rfl ?_); refine boxT 2 #[.int .i64 a0_0, .slice A0_1 l0_1.length c0_1, .slice A0_2 l0_2.length c0_2, .slice A0_3 l0_3.length c0_3, .int .i64 a0_4] 37 ?_; intro gb546 hg w5 hbox hb; have BK546 := mA (hbox); have GW546 := mA ((by rw [hg]; exact (below_size (bT HB)) : w.heap.size ≤ gb546)); have GE546 := GW546; replace HB := mA (below_step (bT HB) hb); clear hb hbox hg; obtain ⟨hcz6_0, hcz6_1, hcz6_2, hcz6_3, hcz6_4, hfz6_0, hfz6_1, hfz6_2, hfz6_3, hfz6_4⟩ := blk5 BK546.out) | ((with_reducible refine gate_callee (f := 21) rfl ?_); refine goesT (some 8) Try.func21 #[.slice A0_1 l0_1.length c0_1, .int .i64 a1] ?_; (with_reducible refine (laws_heldRowS.calls k _ _ l0_1 a1 t547 _ ?side1 ?side2 A3.out).mono ?_); (case side1 => exact cT (Kd.C_below HR0_1.out HB.out)); (case side2 => exact HC0_1.out); rintro e w' ⟨rfl, ⟨nd, rfl⟩⟩; refine ⟨_, rfl, ?_⟩))
  go_ret
  exact ⟨eT, bT1 HB GE546⟩
 ·
  rw [if_neg c4] at H
  have c4b0 : decide (t547 < 0) = false := decide_eq_false c4
  clear c4
  obtain ⟨t548, A7, H⟩ := Option.bind_eq_some_iff.mp H
  replace A7 := mA A7
  try dsimp only at H
  by_cases c8 : t548 < 0
  ·
   rw [if_pos c8] at H
   have c8b0 : decide (t548 < 0) = true := decide_eq_true c8
   clear c8
   obtain rfl := Option.some.inj H
   go_enter Try.func36, Try.ntmps36
   go_wp2_with (first | ((with_reducible refine gate_dst (N := 2) rfl ?_); refine boxT 2 #[.int .i64 a0_0, .slice A0_1 l0_1.length c0_1, .slice A0_2 l0_2.length c0_2, .slice A0_3 l0_3.length c0_3, .int .i64 a0_4] 37 ?_; intro gb546 hg w9 hbox hb; have BK546 := mA (hbox); have GW546 := mA ((by rw [hg]; exact (below_size (bT HB)) : w.heap.size ≤ gb546)); have GE546 := GW546; replace HB := mA (below_step (bT HB) hb); clear hb hbox hg; obtain ⟨hcz10_0, hcz10_1, hcz10_2, hcz10_3, hcz10_4, hfz10_0, hfz10_1, hfz10_2, hfz10_3, hfz10_4⟩ := blk5 BK546.out) | ((with_reducible refine gate_callee (f := 21) rfl ?_); refine goesT (some 8) Try.func21 #[.slice A0_1 l0_1.length c0_1, .int .i64 a1] ?_; (with_reducible refine (laws_heldRowS.calls k _ _ l0_1 a1 t547 _ ?side1 ?side2 A3.out).mono ?_); (case side1 => exact cT (Kd.C_below HR0_1.out HB.out)); (case side2 => exact HC0_1.out); rintro e w' ⟨rfl, ⟨nd, rfl⟩⟩; refine ⟨_, rfl, ?_⟩) | ((with_reducible refine gate_callee (f := 21) rfl ?_); refine goesT (some 14) Try.func21 #[.slice A0_2 l0_2.length c0_2, .int .i64 t547] ?_; (with_reducible refine (laws_heldRowS.calls k _ _ l0_2 t547 t548 _ ?side1 ?side2 A7.out).mono ?_); (case side1 => exact cT (Kd.C_below HR0_2.out (bT1 HB GE546))); (case side2 => exact HC0_2.out); rintro e w' ⟨rfl, ⟨nd, rfl⟩⟩; refine ⟨_, rfl, ?_⟩))
   go_ret
   exact ⟨eT, bT1 HB GE546⟩
  ·
   rw [if_neg c8] at H
   have c8b0 : decide (t548 < 0) = false := decide_eq_false c8
   clear c8
   obtain ⟨t549, A11, H⟩ := Option.bind_eq_some_iff.mp H
   replace A11 := mA A11
   replace H : (if t549 < 0 then (some (-1)) else (some t549)) = some r := H
   by_cases c12 : t549 < 0
   ·
    rw [if_pos c12] at H
    have c12b0 : decide (t549 < 0) = true := decide_eq_true c12
    clear c12
    obtain rfl := Option.some.inj H
    go_enter Try.func36, Try.ntmps36
    go_wp2_with (first | ((with_reducible refine gate_dst (N := 2) rfl ?_); refine boxT 2 #[.int .i64 a0_0, .slice A0_1 l0_1.length c0_1, .slice A0_2 l0_2.length c0_2, .slice A0_3 l0_3.length c0_3, .int .i64 a0_4] 37 ?_; intro gb546 hg w13 hbox hb; have BK546 := mA (hbox); have GW546 := mA ((by rw [hg]; exact (below_size (bT HB)) : w.heap.size ≤ gb546)); have GE546 := GW546; replace HB := mA (below_step (bT HB) hb); clear hb hbox hg; obtain ⟨hcz14_0, hcz14_1, hcz14_2, hcz14_3, hcz14_4, hfz14_0, hfz14_1, hfz14_2, hfz14_3, hfz14_4⟩ := blk5 BK546.out) | ((with_reducible refine gate_callee (f := 21) rfl ?_); refine goesT (some 8) Try.func21 #[.slice A0_1 l0_1.length c0_1, .int .i64 a1] ?_; (with_reducible refine (laws_heldRowS.calls k _ _ l0_1 a1 t547 _ ?side1 ?side2 A3.out).mono ?_); (case side1 => exact cT (Kd.C_below HR0_1.out HB.out)); (case side2 => exact HC0_1.out); rintro e w' ⟨rfl, ⟨nd, rfl⟩⟩; refine ⟨_, rfl, ?_⟩) | ((with_reducible refine gate_callee (f := 21) rfl ?_); refine goesT (some 14) Try.func21 #[.slice A0_2 l0_2.length c0_2, .int .i64 t547] ?_; (with_reducible refine (laws_heldRowS.calls k _ _ l0_2 t547 t548 _ ?side1 ?side2 A7.out).mono ?_); (case side1 => exact cT (Kd.C_below HR0_2.out (bT1 HB GE546))); (case side2 => exact HC0_2.out); rintro e w' ⟨rfl, ⟨nd, rfl⟩⟩; refine ⟨_, rfl, ?_⟩) | ((with_reducible refine gate_callee (f := 73) rfl ?_); refine goesT (some 20) Try.func73 #[.slice A0_3 l0_3.length c0_3, .int .i64 t548] ?_; (with_reducible refine (laws_heldBoolS.calls k _ _ l0_3 t548 t549 _ ?side1 ?side2 A11.out).mono ?_); (case side1 => exact cT (Kd.C_below HR0_3.out (bT1 HB GE546))); (case side2 => exact HC0_3.out); rintro e w' ⟨rfl, ⟨nd, rfl⟩⟩; refine ⟨_, rfl, ?_⟩))
    go_ret
    exact ⟨eT, bT1 HB GE546⟩
   ·
    rw [if_neg c12] at H
    have c12b0 : decide (t549 < 0) = false := decide_eq_false c12
    clear c12
    obtain rfl := Option.some.inj H
    go_enter Try.func36, Try.ntmps36
    go_wp2_with (first | ((with_reducible refine gate_dst (N := 2) rfl ?_); refine boxT 2 #[.int .i64 a0_0, .slice A0_1 l0_1.length c0_1, .slice A0_2 l0_2.length c0_2, .slice A0_3 l0_3.length c0_3, .int .i64 a0_4] 37 ?_; intro gb546 hg w15 hbox hb; have BK546 := mA (hbox); have GW546 := mA ((by rw [hg]; exact (below_size (bT HB)) : w.heap.size ≤ gb546)); have GE546 := GW546; replace HB := mA (below_step (bT HB) hb); clear hb hbox hg; obtain ⟨hcz16_0, hcz16_1, hcz16_2, hcz16_3, hcz16_4, hfz16_0, hfz16_1, hfz16_2, hfz16_3, hfz16_4⟩ := blk5 BK546.out) | ((with_reducible refine gate_callee (f := 21) rfl ?_); refine goesT (some 8) Try.func21 #[.slice A0_1 l0_1.length c0_1, .int .i64 a1] ?_; (with_reducible refine (laws_heldRowS.calls k _ _ l0_1 a1 t547 _ ?side1 ?side2 A3.out).mono ?_); (case side1 => exact cT (Kd.C_below HR0_1.out HB.out)); (case side2 => exact HC0_1.out); rintro e w' ⟨rfl, ⟨nd, rfl⟩⟩; refine ⟨_, rfl, ?_⟩) | ((with_reducible refine gate_callee (f := 21) rfl ?_); refine goesT (some 14) Try.func21 #[.slice A0_2 l0_2.length c0_2, .int .i64 t547] ?_; (with_reducible refine (laws_heldRowS.calls k _ _ l0_2 t547 t548 _ ?side1 ?side2 A7.out).mono ?_); (case side1 => exact cT (Kd.C_below HR0_2.out (bT1 HB GE546))); (case side2 => exact HC0_2.out); rintro e w' ⟨rfl, ⟨nd, rfl⟩⟩; refine ⟨_, rfl, ?_⟩) | ((with_reducible refine gate_callee (f := 73) rfl ?_); refine goesT (some 20) Try.func73 #[.slice A0_3 l0_3.length c0_3, .int .i64 t548] ?_; (with_reducible refine (laws_heldBoolS.calls k _ _ l0_3 t548 t549 _ ?side1 ?side2 A11.out).mono ?_); (case side1 => exact cT (Kd.C_below HR0_3.out (bT1 HB GE546))); (case side2 => exact HC0_3.out); rintro e w' ⟨rfl, ⟨nd, rfl⟩⟩; refine ⟨_, rfl, ?_⟩))
    go_ret
    exact ⟨eT, bT1 HB GE546⟩

end Go.Proofs.Ythciieopabndcaa.P
