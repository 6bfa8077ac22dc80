/- Written by tools/seatprint.py over the translation. Lean checks it. -/
import Derived.Test.YtnllplklggoabaaP0
import Derived.Test.YtnllplklggoabaaP11c0
import Derived.Test.YtnllplklggoabaaP6bc0
import Derived.Test.YtnllplklggoabaaP7fc0
import Derived.Test.YtnllplklggoabaaPbc0
namespace Go.Proofs.Ytnllplklggoabaa.P
open Go.RowKit Go.Proofs.YtnllplklggoabaaW.PrintWords Go.Proofs.YtnllplklggoabaaW.PrintLast Go.Proofs.YtnllplklggoabaaW.PrintMore
attribute [local go_sem] max2_int min2_int max_two min_two max_three min_three max_four min_four
set_option linter.unusedVariables false
set_option linter.unusedSimpArgs false

/-! ### laws_szGroupTask: function 96 -/
def laws_szGroupTask.f (l0_0 : List (S126)) (a0_1 : Int) (a1 : Int) : Option (Int) := (laws_szRowS.f l0_0 a1).bind fun t356 => (if t356 < 0 then (some (-1)) else (some t356))
set_option maxHeartbeats 8000000 in
set_option maxRecDepth 100000 in
theorem laws_szGroupTask.calls (A0_0 : Option Addr) (c0_0 : Nat) (l0_0 : List (S126)) (a0_1 : Int) (a1 : Int) (r : Int) (w : World) (hr0_0 : Kd.C k126 w A0_0 l0_0.length l0_0) (hc0_0 : l0_0.length ≤ c0_0) (h : laws_szGroupTask.f l0_0 a0_1 a1 = some r) :
  Calls Try.prog 96 #[.agg #[.slice A0_0 l0_0.length c0_0, .int .i64 a0_1], .int .i64 a1] w fun e w' => e = .returned (.int .i64 r) ∧ Below w.heap.size w w' := by
 have hu130 := Try.underlying130
 have HR0_0 := mA hr0_0
 have HC0_0 := mA hc0_0
 clear hr0_0 hc0_0
 have HB := mA (Below.refl w.heap.size w)
 have H : ((laws_szRowS.f l0_0 a1).bind fun t356 => (if t356 < 0 then (some (-1)) else (some t356))) = some r := h
 clear h
 obtain ⟨t356, A3, H⟩ := Option.bind_eq_some_iff.mp H
 replace A3 := mA A3
 replace H : (if t356 < 0 then (some (-1)) else (some t356)) = some r := H
 by_cases c4 : t356 < 0
 ·
  rw [if_pos c4] at H
  have c4b0 : decide (t356 < 0) = true := decide_eq_true c4
  clear c4
  obtain rfl := Option.some.inj H
  go_enter Try.func96, Try.ntmps96
  go_wp2_with (first | ((with_reducible refine gate_dst (N := 2) rfl ?_); refine boxT 2 #[.slice A0_0 l0_0.length c0_0, .int .i64 a0_1] 130 ?_; intro gb355 hg w5 hbox hb; have BK355 := mA (hbox); have GW355 := mA ((by rw [hg]; exact (below_size (bT HB)) : w.heap.size ≤ gb355)); have GE355 := GW355; replace HB := mA (below_step (bT HB) hb); clear hb hbox hg; obtain ⟨hcz6_0, hcz6_1, hfz6_0, hfz6_1⟩ := blk2 BK355.out) | ((with_reducible refine gate_callee (f := 49) rfl ?_); refine goesT (some 8) Try.func49 #[.slice A0_0 l0_0.length c0_0, .int .i64 a1] ?_; (with_reducible refine (laws_szRowS.calls _ _ l0_0 a1 t356 _ ?side1 ?side2 A3.out).mono ?_); (case side1 => exact cT (Kd.C_below HR0_0.out HB.out)); (case side2 => exact HC0_0.out); rintro e w' ⟨rfl, ⟨nd, rfl⟩⟩; refine ⟨_, rfl, ?_⟩))
  go_ret
  exact ⟨eT, bT1 HB GE355⟩
 ·
  rw [if_neg c4] at H
  have c4b0 : decide (t356 < 0) = false := decide_eq_false c4
  clear c4
  obtain rfl := Option.some.inj H
  go_enter Try.func96, Try.ntmps96
  go_wp2_with (first | ((with_reducible refine gate_dst (N := 2) rfl ?_); refine boxT 2 #[.slice A0_0 l0_0.length c0_0, .int .i64 a0_1] 130 ?_; intro gb355 hg w7 hbox hb; have BK355 := mA (hbox); have GW355 := mA ((by rw [hg]; exact (below_size (bT HB)) : w.heap.size ≤ gb355)); have GE355 := GW355; replace HB := mA (below_step (bT HB) hb); clear hb hbox hg; obtain ⟨hcz8_0, hcz8_1, hfz8_0, hfz8_1⟩ := blk2 BK355.out) | ((with_reducible refine gate_callee (f := 49) rfl ?_); refine goesT (some 8) Try.func49 #[.slice A0_0 l0_0.length c0_0, .int .i64 a1] ?_; (with_reducible refine (laws_szRowS.calls _ _ l0_0 a1 t356 _ ?side1 ?side2 A3.out).mono ?_); (case side1 => exact cT (Kd.C_below HR0_0.out HB.out)); (case side2 => exact HC0_0.out); rintro e w' ⟨rfl, ⟨nd, rfl⟩⟩; refine ⟨_, rfl, ?_⟩))
  go_ret
  exact ⟨eT, bT1 HB GE355⟩

/-! ### laws_szGroupTaskS: function 59 -/
def laws_szGroupTaskS.l0 : Nat → List (S130) → Int → Int → Option (Int)
 | 0, _, _, _ => none
 | k + 1, x0, x1, x5 => if x5 < (x0.length : Int) then (if 0 ≤ x5 then ((laws_szGroupTask.f ((rd_T130 x0 x5).f0) ((rd_T130 x0 x5).f1) x1).bind fun t358 => (if t358 < 0 then (some (-1)) else (laws_szGroupTaskS.l0 k x0 t358 (wrap64 (x5 + 1))))) else (none)) else (some x1)
def laws_szGroupTaskS.f (k : Nat) (l0 : List (S130)) (a1 : Int) : Option (Int) := if (wrap64 (a1 - (l0.length : Int))) < 0 then (some (-1)) else (laws_szGroupTaskS.l0 k l0 (wrap64 (a1 - (l0.length : Int))) 0)
theorem laws_szGroupTaskS.mono_l : ∀ k, (∀ y0 y1 y2, LeO (laws_szGroupTaskS.l0 k y0 y1 y2) (laws_szGroupTaskS.l0 (k + 1) y0 y1 y2))
 | 0 => fun _ _ _ r h => by simp [laws_szGroupTaskS.l0] at h
 | k + 1 => by
  have ih0 := laws_szGroupTaskS.mono_l k
  ·
   intro y0 y1 y2
   unfold laws_szGroupTaskS.l0
   repeat' first
   | (with_reducible exact ih0 _ _ _)
   | (with_reducible exact LeO.refl _)
   | (with_reducible exact LeO.none _)
   | (with_reducible refine LeO.ite ?_ ?_)
   | (with_reducible refine LeO.bind ?_ (fun _ => ?_))
   | exact ih0 _ _ _
   | exact LeO.none _
   | refine LeO.ite ?_ ?_
   | refine LeO.bind ?_ (fun _ => ?_)
theorem laws_szGroupTaskS.mono : ∀ a0 a1 k, LeO (laws_szGroupTaskS.f k a0 a1) (laws_szGroupTaskS.f (k + 1) a0 a1) := by
 intro a0 a1 k
 have ih0 := laws_szGroupTaskS.mono_l k
 unfold laws_szGroupTaskS.f
 repeat' first
   | (with_reducible exact ih0 _ _ _)
   | (with_reducible exact LeO.refl _)
   | (with_reducible exact LeO.none _)
   | (with_reducible refine LeO.ite ?_ ?_)
   | (with_reducible refine LeO.bind ?_ (fun _ => ?_))
   | exact ih0 _ _ _
   | exact LeO.none _
   | refine LeO.ite ?_ ?_
   | refine LeO.bind ?_ (fun _ => ?_)
set_option maxHeartbeats 8000000 in
set_option maxRecDepth 100000 in
theorem laws_szGroupTaskS.calls (k : Nat) (A0 : Option Addr) (c0 : Nat) (l0 : List (S130)) (a1 : Int) (r : Int) (w : World) (hr0 : Kd.C k130 w A0 l0.length l0) (hc0 : l0.length ≤ c0) (h : laws_szGroupTaskS.f k l0 a1 = some r) :
  Calls Try.prog 59 #[.slice A0 l0.length c0, .int .i64 a1] w fun e w' => e = .returned (.int .i64 r) ∧ Below w.heap.size w w' := by
 have hu130 := Try.underlying130
 have HR0 := mA hr0
 have HC0 := mA hc0
 clear hr0 hc0
 have HB := mA (Below.refl w.heap.size w)
 have H : (if (wrap64 (a1 - (l0.length : Int))) < 0 then (some (-1)) else (laws_szGroupTaskS.l0 k l0 (wrap64 (a1 - (l0.length : Int))) 0)) = some r := h
 clear h
 by_cases c3 : (wrap64 (a1 - (l0.length : Int))) < 0
 ·
  rw [if_pos c3] at H
  have c3b0 : decide ((wrap64 (a1 - (l0.length : Int))) < 0) = true := decide_eq_true c3
  clear c3
  obtain rfl := Option.some.inj H
  go_enter Try.func59, Try.ntmps59
  go_wp2
  go_ret
  exact ⟨eT, bT HB⟩
 ·
  rw [if_neg c3] at H
  have c3b0 : decide ((wrap64 (a1 - (l0.length : Int))) < 0) = false := decide_eq_false c3
  clear c3
  have H' := mA H
  clear H
  go_enter Try.func59, Try.ntmps59
  go_wp2
  go_loopg [1, 5] k (fun kq v1 v5 w' => ∃ (x1_1 : Int) (x5_1 : Int), v1 = .int .i64 x1_1 ∧ v5 = .int .i64 x5_1 ∧ Aside0 (laws_szGroupTaskS.l0 kq l0 x1_1 x5_1 = some r) ∧ Aside0 (kq ≤ k) ∧ Aside0 (Below w.heap.size w w'))
  case atStart => exact ⟨(wrap64 (a1 - (l0.length : Int))), (0), sT, sT, H', ⟨Nat.le_refl _⟩, ⟨bT HB⟩⟩
  case round =>
   clear H'
   try clear p2
   try clear c3
   try clear c3b0
   obtain ⟨x1_1, x5_1, rfl, rfl, HA, HK1, HB⟩ := hrel
   cases gk with
   | zero => exact absurd HA.out (by simp [laws_szGroupTaskS.l0])
   | succ k1 =>
    have H := HA.out
    clear HA
    simp only [laws_szGroupTaskS.l0] at H
    by_cases c4 : x5_1 < (l0.length : Int)
    ·
     rw [if_pos c4] at H
     have c4b0 : decide (x5_1 < (l0.length : Int)) = true := decide_eq_true c4
     clear c4
     by_cases c5 : 0 ≤ x5_1
     ·
      rw [if_pos c5] at H
      have c5b0 : decide (0 ≤ x5_1) = true := decide_eq_true c5
      clear c5
      obtain ⟨t358, A6, H⟩ := Option.bind_eq_some_iff.mp H
      replace A6 := mA A6
      try dsimp only at H
      by_cases c7 : t358 < 0
      ·
       rw [if_pos c7] at H
       have c7b0 : decide (t358 < 0) = true := decide_eq_true c7
       clear c7
       obtain rfl := Option.some.inj H
       have p357 : 0 ≤ (x5_1 : Int) := of_decide_eq_true aT
       have q357 : x5_1 < (l0.length : Int) := of_decide_eq_true aT
       obtain ⟨ad357, A357_0, c357_0, e357, hx357_0, hx357_1, hl357_0, hi357_0⟩ := at_T130 HR0.out x5_1 p357 q357
       cases e357
       replace hx357_0 := (HB.out.cell (World.block_lt_of_cell? w _ hx357_0)).trans hx357_0
       replace hx357_1 := (HB.out.cell (World.block_lt_of_cell? w _ hx357_1)).trans hx357_1
       have HR357_0 := mA hi357_0
       have HC357_0 := mA hl357_0
       clear hi357_0 hl357_0
       replace p357 := eq_true p357
       replace q357 := eq_true q357
       go_wp2_with (first | ((with_reducible refine gate_callee (f := 96) rfl ?_); refine goesT (some 23) Try.func96 #[.agg #[.slice A357_0 ((rd_T130 l0 x5_1).f0).length c357_0, .int .i64 ((rd_T130 l0 x5_1).f1)], .int .i64 x1_1] ?_; (with_reducible refine (laws_szGroupTask.calls _ _ ((rd_T130 l0 x5_1).f0) ((rd_T130 l0 x5_1).f1) x1_1 t358 _ ?side1 ?side2 A6.out).mono ?_); (case side1 => exact cT (Kd.C_below HR357_0.out HB.out)); (case side2 => exact HC357_0.out); rintro e w8 ⟨rfl, hb⟩; refine ⟨_, rfl, ?_⟩; replace HB := mA (below_step (bT HB) hb); (try clear hb)))
       go_ret
       exact ⟨eT, bT HB⟩
      ·
       rw [if_neg c7] at H
       have c7b0 : decide (t358 < 0) = false := decide_eq_false c7
       clear c7
       have H' := mA H
       clear H
       have p357 : 0 ≤ (x5_1 : Int) := of_decide_eq_true aT
       have q357 : x5_1 < (l0.length : Int) := of_decide_eq_true aT
       obtain ⟨ad357, A357_0, c357_0, e357, hx357_0, hx357_1, hl357_0, hi357_0⟩ := at_T130 HR0.out x5_1 p357 q357
       cases e357
       replace hx357_0 := (HB.out.cell (World.block_lt_of_cell? w _ hx357_0)).trans hx357_0
       replace hx357_1 := (HB.out.cell (World.block_lt_of_cell? w _ hx357_1)).trans hx357_1
       have HR357_0 := mA hi357_0
       have HC357_0 := mA hl357_0
       clear hi357_0 hl357_0
       replace p357 := eq_true p357
       replace q357 := eq_true q357
       go_wp2_with (first | ((with_reducible refine gate_callee (f := 96) rfl ?_); refine goesT (some 23) Try.func96 #[.agg #[.slice A357_0 ((rd_T130 l0 x5_1).f0).length c357_0, .int .i64 ((rd_T130 l0 x5_1).f1)], .int .i64 x1_1] ?_; (with_reducible refine (laws_szGroupTask.calls _ _ ((rd_T130 l0 x5_1).f0) ((rd_T130 l0 x5_1).f1) x1_1 t358 _ ?side1 ?side2 A6.out).mono ?_); (case side1 => exact cT (Kd.C_below HR357_0.out HB.out)); (case side2 => exact HC357_0.out); rintro e w9 ⟨rfl, hb⟩; refine ⟨_, rfl, ?_⟩; replace HB := mA (below_step (bT HB) hb); (try clear hb)))
       go_roundg k1
       case measure => have := HK1.out; omega
       case rel => exact ⟨(t358), (wrap64 (x5_1 + 1)), sT, sT, H', ⟨by have := HK1.out; omega⟩, ⟨bT HB⟩⟩
     ·
      rw [if_neg c5] at H
      exact absurd H (by simp)
    ·
     rw [if_neg c4] at H
     have c4b0 : decide (x5_1 < (l0.length : Int)) = false := decide_eq_false c4
     clear c4
     obtain rfl := Option.some.inj H
     go_wp2
     go_ret
     exact ⟨eT, bT HB⟩

/-! ### laws_szAggregator: function 20 -/
def laws_szAggregator.f (k : Nat) (l0_0 : List (S130)) (a0_1 : Int) (a0_2 : Bool) (a1 : Int) : Option (Int) := (laws_szGroupTaskS.f k l0_0 a1).bind fun t360 => (if t360 < 0 then (some (-1)) else (some t360))
theorem laws_szAggregator.mono : ∀ a0 a1 a2 a3 k, LeO (laws_szAggregator.f k a0 a1 a2 a3) (laws_szAggregator.f (k + 1) a0 a1 a2 a3) := by
 intro a0 a1 a2 a3 k
 unfold laws_szAggregator.f
 repeat' first
   | (with_reducible exact laws_szGroupTaskS.mono _ _ _)
   | (with_reducible exact LeO.refl _)
   | (with_reducible exact LeO.none _)
   | (with_reducible refine LeO.ite ?_ ?_)
   | (with_reducible refine LeO.bind ?_ (fun _ => ?_))
   | exact laws_szGroupTaskS.mono _ _ _
   | exact LeO.none _
   | refine LeO.ite ?_ ?_
   | refine LeO.bind ?_ (fun _ => ?_)
set_option maxHeartbeats 8000000 in
set_option maxRecDepth 100000 in
theorem laws_szAggregator.calls (k : Nat) (A0_0 : Option Addr) (c0_0 : Nat) (l0_0 : List (S130)) (a0_1 : Int) (a0_2 : Bool) (a1 : Int) (r : Int) (w : World) (hr0_0 : Kd.C k130 w A0_0 l0_0.length l0_0) (hc0_0 : l0_0.length ≤ c0_0) (h : laws_szAggregator.f k l0_0 a0_1 a0_2 a1 = some r) :
  Calls Try.prog 20 #[.agg #[.slice A0_0 l0_0.length c0_0, .int .i64 a0_1, .bool a0_2], .int .i64 a1] w fun e w' => e = .returned (.int .i64 r) ∧ Below w.heap.size w w' := by
 have hu43 := Try.underlying43
 have HR0_0 := mA hr0_0
 have HC0_0 := mA hc0_0
 clear hr0_0 hc0_0
 have HB := mA (Below.refl w.heap.size w)
 have H : ((laws_szGroupTaskS.f k l0_0 a1).bind fun t360 => (if t360 < 0 then (some (-1)) else (some t360))) = some r := h
 clear h
 obtain ⟨t360, A3, H⟩ := Option.bind_eq_some_iff.mp H
 replace A3 := mA A3
 replace H : (if t360 < 0 then (some (-1)) else (some t360)) = some r := H
 by_cases c4 : t360 < 0
 ·
  rw [if_pos c4] at H
  have c4b0 : decide (t360 < 0) = true := decide_eq_true c4
  clear c4
  obtain rfl := Option.some.inj H
  go_enter Try.func20, Try.ntmps20
  go_wp2_with (first | ((with_reducible refine gate_dst (N := 2) rfl ?_); refine boxT 2 #[.slice A0_0 l0_0.length c0_0, .int .i64 a0_1, .bool a0_2] 43 ?_; intro gb359 hg w5 hbox hb; have BK359 := mA (hbox); have GW359 := mA ((by rw [hg]; exact (below_size (bT HB)) : w.heap.size ≤ gb359)); have GE359 := GW359; replace HB := mA (below_step (bT HB) hb); clear hb hbox hg; obtain ⟨hcz6_0, hcz6_1, hcz6_2, hfz6_0, hfz6_1, hfz6_2⟩ := blk3 BK359.out) | ((with_reducible refine gate_callee (f := 59) rfl ?_); refine goesT (some 8) Try.func59 #[.slice A0_0 l0_0.length c0_0, .int .i64 a1] ?_; (with_reducible refine (laws_szGroupTaskS.calls k _ _ l0_0 a1 t360 _ ?side1 ?side2 A3.out).mono ?_); (case side1 => exact cT (Kd.C_below HR0_0.out HB.out)); (case side2 => exact HC0_0.out); rintro e w7 ⟨rfl, hb⟩; refine ⟨_, rfl, ?_⟩; replace HB := mA (below_step (bT1 HB GE359) hb); (try clear hb)))
  go_ret
  exact ⟨eT, bT1 HB GE359⟩
 ·
  rw [if_neg c4] at H
  have c4b0 : decide (t360 < 0) = false := decide_eq_false c4
  clear c4
  obtain rfl := Option.some.inj H
  go_enter Try.func20, Try.ntmps20
  go_wp2_with (first | ((with_reducible refine gate_dst (N := 2) rfl ?_); refine boxT 2 #[.slice A0_0 l0_0.length c0_0, .int .i64 a0_1, .bool a0_2] 43 ?_; intro gb359 hg w8 hbox hb; have BK359 := mA (hbox); have GW359 := mA ((by rw [hg]; exact (below_size (bT HB)) : w.heap.size ≤ gb359)); have GE359 := GW359; replace HB := mA (below_step (bT HB) hb); clear hb hbox hg; obtain ⟨hcz9_0, hcz9_1, hcz9_2, hfz9_0, hfz9_1, hfz9_2⟩ := blk3 BK359.out) | ((with_reducible refine gate_callee (f := 59) rfl ?_); refine goesT (some 8) Try.func59 #[.slice A0_0 l0_0.length c0_0, .int .i64 a1] ?_; (with_reducible refine (laws_szGroupTaskS.calls k _ _ l0_0 a1 t360 _ ?side1 ?side2 A3.out).mono ?_); (case side1 => exact cT (Kd.C_below HR0_0.out HB.out)); (case side2 => exact HC0_0.out); rintro e w10 ⟨rfl, hb⟩; refine ⟨_, rfl, ?_⟩; replace HB := mA (below_step (bT1 HB GE359) hb); (try clear hb)))
  go_ret
  exact ⟨eT, bT1 HB GE359⟩

/-! ### laws_toGroupTask: function 97 -/
def laws_toGroupTask.f (k : Nat) (l0_0 : List (S126)) (a0_1 : Int) : Option ((List (S124)) × Int) := (laws_toRowS.f k l0_0).bind fun t379 => (some (t379, a0_1))
theorem laws_toGroupTask.mono : ∀ a0 a1 k, LeO (laws_toGroupTask.f k a0 a1) (laws_toGroupTask.f (k + 1) a0 a1) := by
 intro a0 a1 k
 unfold laws_toGroupTask.f
 repeat' first
   | (with_reducible exact laws_toRowS.mono _ _)
   | (with_reducible exact LeO.refl _)
   | (with_reducible exact LeO.none _)
   | (with_reducible refine LeO.ite ?_ ?_)
   | (with_reducible refine LeO.bind ?_ (fun _ => ?_))
   | exact laws_toRowS.mono _ _
   | exact LeO.none _
   | refine LeO.ite ?_ ?_
   | refine LeO.bind ?_ (fun _ => ?_)
set_option maxHeartbeats 8000000 in
set_option maxRecDepth 100000 in
theorem laws_toGroupTask.calls (k : Nat) (A0_0 : Option Addr) (c0_0 : Nat) (l0_0 : List (S126)) (a0_1 : Int) (r1 : List (S124)) (r2 : Int) (w : World) (hr0_0 : Kd.C k126 w A0_0 l0_0.length l0_0) (hc0_0 : l0_0.length ≤ c0_0) (h : laws_toGroupTask.f k l0_0 a0_1 = some (r1, r2)) :
  Calls Try.prog 97 #[.agg #[.slice A0_0 l0_0.length c0_0, .int .i64 a0_1]] w fun e w' => ∃ v0_ : Value, e = .returned (.agg #[v0_, .int .i64 r2]) ∧ Kd.R k124 124 w' w.heap.size (fun _ => True) v0_ r1 ∧ Below w.heap.size w w' := by
 have hu130 := Try.underlying130
 have hu99 := Try.underlying99
 have HR0_0 := mA hr0_0
 have HC0_0 := mA hc0_0
 clear hr0_0 hc0_0
 have HB := mA (Below.refl w.heap.size w)
 have H : ((laws_toRowS.f k l0_0).bind fun t379 => (some (t379, a0_1))) = some (r1, r2) := h
 clear h
 obtain ⟨t379, A2, H⟩ := Option.bind_eq_some_iff.mp H
 replace A2 := mA A2
 replace H : (some (t379, a0_1)) = some (r1, r2) := H
 simp only [Option.some.injEq, Prod.mk.injEq] at H
 obtain ⟨rfl, rfl⟩ := H
 go_enter Try.func97, Try.ntmps97
 go_wp2_with (first | ((with_reducible refine gate_dst (N := 1) rfl ?_); refine boxT 1 #[.slice A0_0 l0_0.length c0_0, .int .i64 a0_1] 130 ?_; intro gb376 hg w3 hbox hb; have BK376 := mA (hbox); have GW376 := mA ((by rw [hg]; exact (below_size (bT HB)) : w.heap.size ≤ gb376)); have GE376 := GW376; replace HB := mA (below_step (bT HB) hb); clear hb hbox hg) | ((with_reducible refine gate_dst (N := 2) rfl ?_); refine boxT 2 #[.slice none 0 0, .int .i64 0] 99 ?_; intro gb377 hg w4 hbox hb; have BK377 := mA (hbox); have GW377 := mA ((by rw [hg]; exact (below_size (bT1 HB GE376)) : w.heap.size ≤ gb377)); have GE377 := GW377; replace HB := mA (below_step (bT1 HB GE376) hb); have NB376_377 : Aside0 (gb376 ≠ gb377) := nL BK376 hg; have NB377_376 : Aside0 (gb377 ≠ gb376) := nG BK376 hg; replace BK376 := kB BK376 hb; clear hb hbox hg) | ((with_reducible refine gate_dst (N := 3) rfl ?_); refine boxT 3 #[.slice none 0 0, .int .i64 0] 99 ?_; intro gb378 hg w5 hbox hb; have BK378 := mA (hbox); have GW378 := mA ((by rw [hg]; exact (below_size (bT2 HB GE376 GE377)) : w.heap.size ≤ gb378)); have GE378 := GW378; replace HB := mA (below_step (bT2 HB GE376 GE377) hb); have NB376_378 : Aside0 (gb376 ≠ gb378) := nL BK376 hg; have NB378_376 : Aside0 (gb378 ≠ gb376) := nG BK376 hg; replace BK376 := kB BK376 hb; have NB377_378 : Aside0 (gb377 ≠ gb378) := nL BK377 hg; have NB378_377 : Aside0 (gb378 ≠ gb377) := nG BK377 hg; replace BK377 := kB BK377 hb; clear hb hbox hg; have hnb6 := NB376_377.out; have hnc6 := NB377_376.out; have hnb7 := NB376_378.out; have hnc7 := NB378_376.out; obtain ⟨hcz8_0, hcz8_1, hfz8_0, hfz8_1⟩ := blk2 BK376.out) | ((with_reducible refine gate_callee (f := 53) rfl ?_); refine goesT (some 6) Try.func53 #[.slice A0_0 l0_0.length c0_0] ?_; (with_reducible refine (laws_toRowS.calls k _ _ l0_0 t379 _ ?side1 ?side2 A2.out).mono ?_); (case side1 => exact cT (Kd.C_below HR0_0.out HB.out)); (case side2 => exact HC0_0.out); rintro e w9 ⟨v380, rfl, ho0, hb⟩; refine ⟨_, rfl, ?_⟩; have HO381 := mA (Kd.R_lower ho0 (below_size (bT3 HB GE376 GE377 GE378))); replace BK376 := kB BK376 hb; replace BK377 := kB BK377 hb; replace BK378 := kB BK378 hb; replace HB := mA (below_step (bT3 HB GE376 GE377 GE378) hb); (try clear hb); (try clear ho0); obtain ⟨Ao10, co10, eo10⟩ := Kd.R_slice HO381.out; subst eo10; have hnb11 := NB378_377.out; have hnc11 := NB377_378.out; obtain ⟨hcz12_0, hcz12_1, hfz12_0, hfz12_1⟩ := blk2 BK378.out; obtain ⟨hcz13_0, hcz13_1, hfz13_0, hfz13_1⟩ := blk2 BK376.out; obtain ⟨hcz14_0, hcz14_1, hfz14_0, hfz14_1⟩ := blk2 BK377.out))
 refine bodyPost_ret (results_cell_row rfl _ _ gb377 99 #[.slice Ao10 t379.length co10, .int .i64 a0_1] (0, 0) _ rfl (by (with_reducible repeat (first | refine blk_drewN ?_ _ | refine blk_drew ?_ | refine blk_alloc ?_ _)); refine blk_put (cs := #[.slice Ao10 t379.length co10, .int .i64 0]) ?_ 1 _ rfl; (with_reducible repeat (first | refine blk_drewN ?_ _ | refine blk_drew ?_ | refine blk_alloc ?_ _)); refine blk_put (cs := #[.slice none 0 0, .int .i64 0]) ?_ 0 _ rfl; (with_reducible repeat (first | refine blk_drewN ?_ _ | refine blk_drew ?_ | refine blk_alloc ?_ _)); refine blk_far ?_ NB377_378.out _; (with_reducible repeat (first | refine blk_drewN ?_ _ | refine blk_drew ?_ | refine blk_alloc ?_ _)); refine blk_far ?_ NB377_378.out _; (with_reducible repeat (first | refine blk_drewN ?_ _ | refine blk_drew ?_ | refine blk_alloc ?_ _)); exact BK377.out) Try.underlying99 rfl (by kernel_rfl)) rfl ?_
 exact ⟨_, eT, by (with_reducible repeat (first | apply Kd.R_alloc | apply Kd.R_drewN | apply Kd.R_drew)); exact Kd.R_mono (Kd.R_far (p := ⟨gb377, 1, none⟩) (Kd.R_far (p := ⟨gb377, 0, none⟩) (Kd.R_far (p := ⟨gb378, 1, none⟩) (Kd.R_far (p := ⟨gb378, 0, none⟩) (Kd.R_types (Kd.R_types HO381.out BK378.out (by decide)) BK377.out (by decide)) (fun _ hk => hk.1.2) (.slice Ao10 t379.length co10)) (fun _ hk => hk.1.2) (.int .i64 a0_1)) (fun _ hk => hk.2) (.slice Ao10 t379.length co10)) (fun _ hk => hk.2) (.int .i64 a0_1)) (fun _ hk => trivial), bT3 HB GE376 GE377 GE378⟩

/-! ### laws_toGroupTaskS: function 61 -/
def laws_toGroupTaskS.l0 : Nat → List (S130) → List (S99) → Int → Option ((List (S99)))
 | 0, _, _, _ => none
 | k + 1, x0, x3, x4 => if x4 < (x0.length : Int) then (if 0 ≤ x4 then ((laws_toGroupTask.f k ((rd_T130 x0 x4).f0) ((rd_T130 x0 x4).f1)).bind fun bt386 => (if x4 < (x3.length : Int) then (laws_toGroupTaskS.l0 k x0 (x3.set (x4 : Int).toNat (⟨bt386.1, bt386.2⟩ : S99)) (wrap64 (x4 + 1))) else (none))) else (none)) else (some x3)
def laws_toGroupTaskS.f (k : Nat) (l0 : List (S130)) : Option ((List (S99))) := if 0 ≤ (l0.length : Int) then (if ((l0.length : Int) : Int).toNat ≤ 8796093022208 then (laws_toGroupTaskS.l0 k l0 (List.replicate ((l0.length : Int) : Int).toNat z99) 0) else (none)) else (none)
theorem laws_toGroupTaskS.mono_l : ∀ k, (∀ y0 y1 y2, LeO (laws_toGroupTaskS.l0 k y0 y1 y2) (laws_toGroupTaskS.l0 (k + 1) y0 y1 y2))
 | 0 => fun _ _ _ r h => by simp [laws_toGroupTaskS.l0] at h
 | k + 1 => by
  have ih0 := laws_toGroupTaskS.mono_l k
  ·
   intro y0 y1 y2
   unfold laws_toGroupTaskS.l0
   repeat' first
   | (with_reducible exact ih0 _ _ _)
   | (with_reducible exact laws_toGroupTask.mono _ _ _)
   | (with_reducible exact LeO.refl _)
   | (with_reducible exact LeO.none _)
   | (with_reducible refine LeO.ite ?_ ?_)
   | (with_reducible refine LeO.bind ?_ (fun _ => ?_))
   | exact ih0 _ _ _
   | exact laws_toGroupTask.mono _ _ _
   | exact LeO.none _
   | refine LeO.ite ?_ ?_
   | refine LeO.bind ?_ (fun _ => ?_)
theorem laws_toGroupTaskS.mono : ∀ a0 k, LeO (laws_toGroupTaskS.f k a0) (laws_toGroupTaskS.f (k + 1) a0) := by
 intro a0 k
 have ih0 := laws_toGroupTaskS.mono_l k
 unfold laws_toGroupTaskS.f
 repeat' first
   | (with_reducible exact ih0 _ _ _)
   | (with_reducible exact laws_toGroupTask.mono _ _ _)
   | (with_reducible exact LeO.refl _)
   | (with_reducible exact LeO.none _)
   | (with_reducible refine LeO.ite ?_ ?_)
   | (with_reducible refine LeO.bind ?_ (fun _ => ?_))
   | exact ih0 _ _ _
   | exact laws_toGroupTask.mono _ _ _
   | exact LeO.none _
   | refine LeO.ite ?_ ?_
   | refine LeO.bind ?_ (fun _ => ?_)
set_option maxHeartbeats 8000000 in
set_option maxRecDepth 100000 in
theorem laws_toGroupTaskS.calls (k : Nat) (A0 : Option Addr) (c0 : Nat) (l0 : List (S130)) (r : List (S99)) (w : World) (hr0 : Kd.C k130 w A0 l0.length l0) (hc0 : l0.length ≤ c0) (h : laws_toGroupTaskS.f k l0 = some r) :
  Calls Try.prog 61 #[.slice A0 l0.length c0] w fun e w' => ∃ v0_ : Value, e = .returned (v0_) ∧ Kd.S k99 99 w' w.heap.size (fun _ => True) v0_ r ∧ Below w.heap.size w w' := by
 have hu130 := Try.underlying130
 have hu99 := Try.underlying99
 have HR0 := mA hr0
 have HC0 := mA hc0
 clear hr0 hc0
 have HB := mA (Below.refl w.heap.size w)
 have H : (if 0 ≤ (l0.length : Int) then (if ((l0.length : Int) : Int).toNat ≤ 8796093022208 then (laws_toGroupTaskS.l0 k l0 (List.replicate ((l0.length : Int) : Int).toNat z99) 0) else (none)) else (none)) = some r := h
 clear h
 by_cases c2 : 0 ≤ (l0.length : Int)
 ·
  rw [if_pos c2] at H
  have c2b0 := eq_true c2
  have c2b1 : decide (0 ≤ (l0.length : Int)) = true := decide_eq_true c2
  clear c2
  by_cases c3 : ((l0.length : Int) : Int).toNat ≤ 8796093022208
  ·
   rw [if_pos c3] at H
   have c3b0 := eq_true c3
   have c3b1 : decide (((l0.length : Int) : Int).toNat ≤ 8796093022208) = true := decide_eq_true c3
   clear c3
   obtain ⟨y382, hy382⟩ : ∃ y_ : List (S99), y_ = (List.replicate ((l0.length : Int) : Int).toNat z99) := ⟨_, rfl⟩
   replace H : (laws_toGroupTaskS.l0 k l0 y382 0) = some r := by first | (rw [hy382]; with_reducible exact H) | (have H2_ := (Option.bind_some _ _).symm.trans H; rw [hy382]; with_reducible exact H2_) | (have H2_ := (Option.bind_some _ _).symm.trans H; with_reducible exact H2_) | with_reducible exact H | (rw [hy382]; exact H) | exact H
   have Ny382 := mA hy382
   clear hy382
   have H' := mA H
   clear H
   go_enter Try.func61, Try.ntmps61
   go_wp2_with (first | ((with_reducible refine gate_dst (N := 7) rfl ?_); refine Kd.S_make k99 _ 99 rfl (N := 7) rfl 46 _ _ rfl (l0.length : Int) rfl rfl Try.underlying46 (.agg #[(.slice none 0 0), (.int .i64 0)]) 32 info99 rfl (by decide) (by omega) z99 (ok := fun _ => True) (okp := fun _ => True) (k99_mkM _ _ _ z99 (Kd.R_nil _ _ _ _ _)) (fun _ hk => hk) trivial (of_decide_eq_true aT) (Nat.le_trans (Nat.mul_le_mul_right _ (of_decide_eq_true aT : (l0.length : Int).toNat ≤ 8796093022208)) (by omega)) (Below.refl _ _) (Nat.le_refl _) ?_; intro v383 w4 ho5 hb hg_ hnew_; clear hg_ hnew_; (first | rw [← Ny382.out] at ho5 | (simp only [Int.reduceToNat] at ho5; rw [← Ny382.out] at ho5)); have HO384 := mA (Kd.S_lower ho5 (below_size (bT HB))); replace HB := mA (below_step (bT HB) hb); clear hb ho5))
   go_loopg [4] k (fun kq v4 w' => ∃ (x3_1 : List (S99)) (x4_1 : Int), v4 = .int .i64 x4_1 ∧ Aside0 (laws_toGroupTaskS.l0 kq l0 x3_1 x4_1 = some r) ∧ Aside0 (kq ≤ k) ∧ Aside0 (Kd.S k99 99 w' w.heap.size (fun _ => True) v383 x3_1) ∧ Aside0 (Below w.heap.size w w'))
   case atStart => exact ⟨(y382), (0), sT, H', ⟨Nat.le_refl _⟩, ⟨rTS HO384⟩, ⟨bT HB⟩⟩
   case round =>
    clear H'
    try clear c2
    try clear c2b0
    try clear c2b1
    try clear p2
    try clear c3
    try clear c3b0
    try clear c3b1
    obtain ⟨x3_1, x4_1, rfl, HA, HK1, HO_3, HB⟩ := hrel
    cases gk with
    | zero => exact absurd HA.out (by simp [laws_toGroupTaskS.l0])
    | succ k1 =>
     have H := HA.out
     clear HA
     simp only [laws_toGroupTaskS.l0] at H
     by_cases c6 : x4_1 < (l0.length : Int)
     ·
      rw [if_pos c6] at H
      have c6b0 : decide (x4_1 < (l0.length : Int)) = true := decide_eq_true c6
      clear c6
      by_cases c7 : 0 ≤ x4_1
      ·
       rw [if_pos c7] at H
       have c7b0 : decide (0 ≤ x4_1) = true := decide_eq_true c7
       clear c7
       obtain ⟨⟨t386, t389⟩, A8, H⟩ := Option.bind_eq_some_iff.mp H
       replace A8 := mA A8
       try dsimp only at H
       by_cases c9 : x4_1 < (x3_1.length : Int)
       ·
        rw [if_pos c9] at H
        have c9b0 : decide (x4_1 < (x3_1.length : Int)) = true := decide_eq_true c9
        clear c9
        obtain ⟨y390, hy390⟩ : ∃ y_ : List (S99), y_ = (x3_1.set (x4_1 : Int).toNat (⟨t386, t389⟩ : S99)) := ⟨_, rfl⟩
        replace H : (laws_toGroupTaskS.l0 k1 l0 y390 (wrap64 (x4_1 + 1))) = some r := by first | (rw [hy390]; with_reducible exact H) | (have H2_ := (Option.bind_some _ _).symm.trans H; rw [hy390]; with_reducible exact H2_) | (have H2_ := (Option.bind_some _ _).symm.trans H; with_reducible exact H2_) | with_reducible exact H | (rw [hy390]; exact H) | exact H
        have Ny390 := mA hy390
        clear hy390
        have H' := mA H
        clear H
        have p385 : 0 ≤ (x4_1 : Int) := of_decide_eq_true aT
        have q385 : x4_1 < (l0.length : Int) := of_decide_eq_true aT
        obtain ⟨ad385, A385_0, c385_0, e385, hx385_0, hx385_1, hl385_0, hi385_0⟩ := at_T130 HR0.out x4_1 p385 q385
        cases e385
        replace hx385_0 := (HB.out.cell (World.block_lt_of_cell? w _ hx385_0)).trans hx385_0
        replace hx385_1 := (HB.out.cell (World.block_lt_of_cell? w _ hx385_1)).trans hx385_1
        have HR385_0 := mA hi385_0
        have HC385_0 := mA hl385_0
        clear hi385_0 hl385_0
        replace p385 := eq_true p385
        replace q385 := eq_true q385
        go_wp2_with (first | ((with_reducible refine gate_callee (f := 97) rfl ?_); refine goesT (some 20) Try.func97 #[.agg #[.slice A385_0 ((rd_T130 l0 x4_1).f0).length c385_0, .int .i64 ((rd_T130 l0 x4_1).f1)]] ?_; (with_reducible refine (laws_toGroupTask.calls k1 _ _ ((rd_T130 l0 x4_1).f0) ((rd_T130 l0 x4_1).f1) t386 t389 _ ?side1 ?side2 A8.out).mono ?_); (case side1 => exact cT (Kd.C_below HR385_0.out HB.out)); (case side2 => exact HC385_0.out); rintro e w11 ⟨v387, rfl, ho0, hb⟩; refine ⟨_, rfl, ?_⟩; replace HO_3 := mA (Kd.S_elder' (rTS HO_3) (Kd.R_base ho0) hb); have HO388 := mA (Kd.R_lower ho0 (below_size (bT HB))); replace HB := mA (below_step (bT HB) hb); (try clear hb); (try clear hk); (try clear ho0); have p10 : 0 ≤ (x4_1 : Int) := of_decide_eq_true aT; have q10 : (x4_1 : Int) < ((x3_1.length : Int) : Int) := of_decide_eq_true aT; obtain ⟨go10, co10, eo10, gb10, gl10, cl10, HG10⟩ := Kd.S_form HO_3.out (by omega); (first | cases eo10 | (injection eo10 with ea_ en_ ec_; (first | subst ea_ | (injection ea_ with ea_; subst ea_)); subst ec_; clear en_)); have GB10 := mA gb10; have GG10 := mA HG10; clear gb10 gl10 HG10; obtain ⟨_, ce10, hcl10, hM10, hcc10, hfr10, _, _⟩ := Kd.S_elem HO_3.out z99 (x4_1 : Int) p10 q10; obtain ⟨ve10_0, rfl, ge10_0⟩ := k99_openM hM10; have hx10_0 : w11.cell? ⟨go10, (x4_1 : Int).toNat * 2, none⟩ = some (ve10_0) := hcc10 0 _ rfl; have hx10_1 : w11.cell? ⟨go10, (x4_1 : Int).toNat * 2 + 1, none⟩ = some (.int .i64 ((rd_T99 x3_1 x4_1).f1)) := hcc10 1 _ rfl; have hf10_0 : w11.frozen? ⟨go10, (x4_1 : Int).toNat * 2, none⟩ = false := hfr10 0; have hf10_1 : w11.frozen? ⟨go10, (x4_1 : Int).toNat * 2 + 1, none⟩ = false := hfr10 1; clear hcl10 hcc10 hfr10 hM10; replace p10 := eq_true p10; replace q10 := eq_true q10; have n_ := mA (Kd.S_mono (ok' := (fun k_ => some k_ ≠ (v387 : Value).ownBlock)) HO_3.out (fun k_ hk => hk.2)); clear HO_3; have HO_3 := n_; clear n_; have HX12 := mA (show Kd.S k99 99 w11 w.heap.size (fun k_ => ((fun _ => True)) k_ ∧ ¬ ((fun k_ => some k_ = (v387 : Value).ownBlock)) k_) (.slice (some ⟨go10, 0, none⟩) x3_1.length co10) x3_1 from (by (with_reducible repeat (first | apply Kd.S_alloc | apply Kd.S_drewN | apply Kd.S_drew)); exact Kd.S_mono HO_3.out (fun k_ hk => ⟨trivial, fun e_ => hk e_⟩))); obtain ⟨oki12, ce12, hcl12, hM12, hcc12, hfr12, hoki12, hH12⟩ := Kd.S_elem HX12.out z99 (x4_1 : Int) (of_decide_eq_true aT) (by have h_ : (x4_1 : Int) < ((x3_1.length : Int) : Int) := of_decide_eq_true aT; first | exact h_ | (have e_ := (Kd.S_reads' HO_3.out).1; omega) | simpa using h_); obtain ⟨ve12_0, rfl, ge12_0⟩ := k99_openM hM12; have HP12 := Kd.S_seg hH12 (of_decide_eq_true aT) (by have h_ : (x4_1 : Int) < ((x3_1.length : Int) : Int) := of_decide_eq_true aT; first | exact h_ | (have e_ := (Kd.S_reads' HO_3.out).1; omega) | simpa using h_) (seg := [v387, .int .i64 t389]) (j := 0) (show 2 ≤ 2 from by decide) (x' := (⟨t386, t389⟩ : S99)) (k99_mkM _ _ _ (⟨t386, t389⟩ : S99) (Kd.R_mono (Kd.R_tight rfl (Kd.R_mono (ok' := fun k_ => ((fun _ => True)) k_ ∧ k_ ≠ go10) (Kd.R_apart' (HO388.out) (Kd.S_typed HO_3.out) (by decide)) (fun k_ hk => ⟨trivial, fun e_ => (hk.2) (by rw [e_]; rfl)⟩))) (fun _ h_ => Or.inr (h_)))) (fun _ hk => hk) (fun k_ hk_ => ((Kd.R_mono (ok' := fun k_ => ((fun _ => True)) k_ ∧ k_ ≠ go10) (Kd.R_apart' (HO388.out) (Kd.S_typed HO_3.out) (by decide)) (fun k_ hk => ⟨trivial, fun e_ => (hk.2) (by rw [e_]; rfl)⟩))).1 k_ hk_.symm); have hx12_0 := hcc12 0 _ rfl; (try simp only [show (k99).sz = 2 from rfl, Nat.mul_one, Nat.add_zero] at hx12_0); have hf12_0 := hfr12 0; (try simp only [show (k99).sz = 2 from rfl, Nat.mul_one, Nat.add_zero] at hf12_0); have hx12_1 := hcc12 1 _ rfl; (try simp only [show (k99).sz = 2 from rfl, Nat.mul_one, Nat.add_zero] at hx12_1); have hf12_1 := hfr12 1; (try simp only [show (k99).sz = 2 from rfl, Nat.mul_one, Nat.add_zero] at hf12_1); clear hcl12 hcc12 hfr12 hM12 hoki12 hH12) | ((with_reducible refine gate_store (t := 99) (p := 21) rfl ?_); refine store_event (t := 99) (p := 21) (v := ?vo_w13) (w1 := ((w11.setCell ⟨go10, (x4_1 : Int).toNat * 2, none⟩ (v387)).setCell ⟨go10, (x4_1 : Int).toNat * 2 + 1, none⟩ (.int .i64 t389))) ?hg ?ho ?hn ?hr ?_; (case ho => rfl); (case hg => rfl); (case hn => rfl); (case hr => obtain ⟨A_0, c_0, e_0⟩ := Kd.R_slice (HO388.out); (try rw [e_0]); first | (go_simp; done) | (go_simp; rfl)); intro w13 hw; have hg : w11.grownBy w13 (some go10) := (by rw [hw]; exact HP12.2); have hp_ : Kd.S k99 99 w13 w.heap.size (fun _ => True) (.slice (some ⟨go10, 0, none⟩) x3_1.length co10) y390 := (by rw [hw, Ny390.out]; exact HP12.1); clear HP12; replace HO_3 := mA (hp_); replace HB := mA ((by rw [hw]; exact below_set (below_set (HB.out) GB10.out) GB10.out : Below w.heap.size w w13)); clear HO388; clear hg hw hp_))
        go_roundg k1
        case measure => have := HK1.out; omega
        case rel => exact ⟨(y390), (wrap64 (x4_1 + 1)), sT, H', ⟨by have := HK1.out; omega⟩, ⟨rTS HO_3⟩, ⟨bT HB⟩⟩
       ·
        rw [if_neg c9] at H
        exact absurd H (by simp)
      ·
       rw [if_neg c7] at H
       exact absurd H (by simp)
     ·
      rw [if_neg c6] at H
      have c6b0 : decide (x4_1 < (l0.length : Int)) = false := decide_eq_false c6
      clear c6
      obtain rfl := Option.some.inj H
      go_wp2
      go_ret
      exact ⟨_, eT, rTS HO_3, bT HB⟩
  ·
   rw [if_neg c3] at H
   exact absurd H (by simp)
 ·
  rw [if_neg c2] at H
  exact absurd H (by simp)

/-! ### laws_toAggregator: function 22 -/
def laws_toAggregator.f (k : Nat) (l0_0 : List (S130)) (a0_1 : Int) (a0_2 : Bool) : Option ((List (S99)) × Int × Bool) := (laws_toGroupTaskS.f k l0_0).bind fun t394 => (some (t394, a0_1, a0_2))
theorem laws_toAggregator.mono : ∀ a0 a1 a2 k, LeO (laws_toAggregator.f k a0 a1 a2) (laws_toAggregator.f (k + 1) a0 a1 a2) := by
 intro a0 a1 a2 k
 unfold laws_toAggregator.f
 repeat' first
   | (with_reducible exact laws_toGroupTaskS.mono _ _)
   | (with_reducible exact LeO.refl _)
   | (with_reducible exact LeO.none _)
   | (with_reducible refine LeO.ite ?_ ?_)
   | (with_reducible refine LeO.bind ?_ (fun _ => ?_))
   | exact laws_toGroupTaskS.mono _ _
   | exact LeO.none _
   | refine LeO.ite ?_ ?_
   | refine LeO.bind ?_ (fun _ => ?_)
set_option maxHeartbeats 8000000 in
set_option maxRecDepth 100000 in
theorem laws_toAggregator.calls (k : Nat) (A0_0 : Option Addr) (c0_0 : Nat) (l0_0 : List (S130)) (a0_1 : Int) (a0_2 : Bool) (r1 : List (S99)) (r2 : Int) (r3 : Bool) (w : World) (hr0_0 : Kd.C k130 w A0_0 l0_0.length l0_0) (hc0_0 : l0_0.length ≤ c0_0) (h : laws_toAggregator.f k l0_0 a0_1 a0_2 = some (r1, r2, r3)) :
  Calls Try.prog 22 #[.agg #[.slice A0_0 l0_0.length c0_0, .int .i64 a0_1, .bool a0_2]] w fun e w' => ∃ v0_ : Value, e = .returned (.agg #[v0_, .int .i64 r2, .bool r3]) ∧ Kd.S k99 99 w' w.heap.size (fun _ => True) v0_ r1 ∧ Below w.heap.size w w' := by
 have hu43 := Try.underlying43
 have hu48 := Try.underlying48
 have HR0_0 := mA hr0_0
 have HC0_0 := mA hc0_0
 clear hr0_0 hc0_0
 have HB := mA (Below.refl w.heap.size w)
 have H : ((laws_toGroupTaskS.f k l0_0).bind fun t394 => (some (t394, a0_1, a0_2))) = some (r1, r2, r3) := h
 clear h
 obtain ⟨t394, A2, H⟩ := Option.bind_eq_some_iff.mp H
 replace A2 := mA A2
 replace H : (some (t394, a0_1, a0_2)) = some (r1, r2, r3) := H
 simp only [Option.some.injEq, Prod.mk.injEq] at H
 obtain ⟨rfl, rfl, rfl⟩ := H
 go_enter Try.func22, Try.ntmps22
 go_wp2_with (first | ((with_reducible refine gate_dst (N := 1) rfl ?_); refine boxT 1 #[.slice A0_0 l0_0.length c0_0, .int .i64 a0_1, .bool a0_2] 43 ?_; intro gb391 hg w3 hbox hb; have BK391 := mA (hbox); have GW391 := mA ((by rw [hg]; exact (below_size (bT HB)) : w.heap.size ≤ gb391)); have GE391 := GW391; replace HB := mA (below_step (bT HB) hb); clear hb hbox hg) | ((with_reducible refine gate_dst (N := 2) rfl ?_); refine boxT 2 #[.slice none 0 0, .int .i64 0, .bool false] 48 ?_; intro gb392 hg w4 hbox hb; have BK392 := mA (hbox); have GW392 := mA ((by rw [hg]; exact (below_size (bT1 HB GE391)) : w.heap.size ≤ gb392)); have GE392 := GW392; replace HB := mA (below_step (bT1 HB GE391) hb); have NB391_392 : Aside0 (gb391 ≠ gb392) := nL BK391 hg; have NB392_391 : Aside0 (gb392 ≠ gb391) := nG BK391 hg; replace BK391 := kB BK391 hb; clear hb hbox hg) | ((with_reducible refine gate_dst (N := 3) rfl ?_); refine boxT 3 #[.slice none 0 0, .int .i64 0, .bool false] 48 ?_; intro gb393 hg w5 hbox hb; have BK393 := mA (hbox); have GW393 := mA ((by rw [hg]; exact (below_size (bT2 HB GE391 GE392)) : w.heap.size ≤ gb393)); have GE393 := GW393; replace HB := mA (below_step (bT2 HB GE391 GE392) hb); have NB391_393 : Aside0 (gb391 ≠ gb393) := nL BK391 hg; have NB393_391 : Aside0 (gb393 ≠ gb391) := nG BK391 hg; replace BK391 := kB BK391 hb; have NB392_393 : Aside0 (gb392 ≠ gb393) := nL BK392 hg; have NB393_392 : Aside0 (gb393 ≠ gb392) := nG BK392 hg; replace BK392 := kB BK392 hb; clear hb hbox hg; have hnb6 := NB391_392.out; have hnc6 := NB392_391.out; have hnb7 := NB391_393.out; have hnc7 := NB393_391.out; obtain ⟨hcz8_0, hcz8_1, hcz8_2, hfz8_0, hfz8_1, hfz8_2⟩ := blk3 BK391.out) | ((with_reducible refine gate_callee (f := 61) rfl ?_); refine goesT (some 6) Try.func61 #[.slice A0_0 l0_0.length c0_0] ?_; (with_reducible refine (laws_toGroupTaskS.calls k _ _ l0_0 t394 _ ?side1 ?side2 A2.out).mono ?_); (case side1 => exact cT (Kd.C_below HR0_0.out HB.out)); (case side2 => exact HC0_0.out); rintro e w9 ⟨v395, rfl, ho0, hb⟩; refine ⟨_, rfl, ?_⟩; have HO396 := mA (Kd.S_lower ho0 (below_size (bT3 HB GE391 GE392 GE393))); replace BK391 := kB BK391 hb; replace BK392 := kB BK392 hb; replace BK393 := kB BK393 hb; replace HB := mA (below_step (bT3 HB GE391 GE392 GE393) hb); (try clear hb); (try clear ho0); obtain ⟨Ao10, co10, eo10⟩ := Kd.S_slice HO396.out; subst eo10; have hnb11 := NB393_392.out; have hnc11 := NB392_393.out; obtain ⟨hcz12_0, hcz12_1, hcz12_2, hfz12_0, hfz12_1, hfz12_2⟩ := blk3 BK393.out; obtain ⟨hcz13_0, hcz13_1, hcz13_2, hfz13_0, hfz13_1, hfz13_2⟩ := blk3 BK391.out; obtain ⟨hcz14_0, hcz14_1, hcz14_2, hfz14_0, hfz14_1, hfz14_2⟩ := blk3 BK392.out))
 refine bodyPost_ret (results_cell_row rfl _ _ gb392 48 #[.slice Ao10 t394.length co10, .int .i64 a0_1, .bool a0_2] (0, 0) _ rfl (by (with_reducible repeat (first | refine blk_drewN ?_ _ | refine blk_drew ?_ | refine blk_alloc ?_ _)); refine blk_put (cs := #[.slice Ao10 t394.length co10, .int .i64 a0_1, .bool false]) ?_ 2 _ rfl; (with_reducible repeat (first | refine blk_drewN ?_ _ | refine blk_drew ?_ | refine blk_alloc ?_ _)); refine blk_put (cs := #[.slice Ao10 t394.length co10, .int .i64 0, .bool false]) ?_ 1 _ rfl; (with_reducible repeat (first | refine blk_drewN ?_ _ | refine blk_drew ?_ | refine blk_alloc ?_ _)); refine blk_put (cs := #[.slice none 0 0, .int .i64 0, .bool false]) ?_ 0 _ rfl; (with_reducible repeat (first | refine blk_drewN ?_ _ | refine blk_drew ?_ | refine blk_alloc ?_ _)); refine blk_far ?_ NB392_393.out _; (with_reducible repeat (first | refine blk_drewN ?_ _ | refine blk_drew ?_ | refine blk_alloc ?_ _)); refine blk_far ?_ NB392_393.out _; (with_reducible repeat (first | refine blk_drewN ?_ _ | refine blk_drew ?_ | refine blk_alloc ?_ _)); refine blk_far ?_ NB392_393.out _; (with_reducible repeat (first | refine blk_drewN ?_ _ | refine blk_drew ?_ | refine blk_alloc ?_ _)); exact BK392.out) Try.underlying48 rfl (by kernel_rfl)) rfl ?_
 exact ⟨_, eT, by (with_reducible repeat (first | apply Kd.S_alloc | apply Kd.S_drewN | apply Kd.S_drew)); exact Kd.S_mono (Kd.S_far (p := ⟨gb392, 2, none⟩) (Kd.S_far (p := ⟨gb392, 1, none⟩) (Kd.S_far (p := ⟨gb392, 0, none⟩) (Kd.S_far (p := ⟨gb393, 2, none⟩) (Kd.S_far (p := ⟨gb393, 1, none⟩) (Kd.S_far (p := ⟨gb393, 0, none⟩) (Kd.S_types (Kd.S_types HO396.out BK393.out (by decide)) BK392.out (by decide)) (fun _ hk => hk.1.2) (.slice Ao10 t394.length co10)) (fun _ hk => hk.1.2) (.int .i64 a0_1)) (fun _ hk => hk.1.2) (.bool a0_2)) (fun _ hk => hk.2) (.slice Ao10 t394.length co10)) (fun _ hk => hk.2) (.int .i64 a0_1)) (fun _ hk => hk.2) (.bool a0_2)) (fun _ hk => trivial), bT3 HB GE391 GE392 GE393⟩

/-! ### impl_FormatAggregator: function 23 -/
mutual
def impl_FormatAggregator.j0 : Nat → ByteArray → List (S99) → Int → Bool → Option (ByteArray)
 | 0, _, _, _, _ => none
 | k + 1, x3, x404000, x404001, x404002 => (impl_FormatInt.f k x404001).bind fun t405 => (if t405.size + 1 ≤ 9223372036854775807 then (if (t405 ++ (⟨#[47]⟩ : ByteArray)).size + x3.size ≤ 9223372036854775807 then (impl_FormatAggregator.l0 k ((t405 ++ (⟨#[47]⟩ : ByteArray)) ++ x3) x404000 (x404000.length : Int) 0) else (none)) else (none))
def impl_FormatAggregator.l0 : Nat → ByteArray → List (S99) → Int → Int → Option (ByteArray)
 | 0, _, _, _, _ => none
 | k + 1, x4, x19, x20, x21 => if x21 < x20 then (if 0 ≤ x21 then (if x21 < (x19.length : Int) then ((impl_FormatInt.f k ((rd_T99 x19 x21).f1)).bind fun t408 => (if 1 + t408.size ≤ 9223372036854775807 then (if ((⟨#[47]⟩ : ByteArray) ++ t408).size + 1 ≤ 9223372036854775807 then ((impl_FormatRows.f k ((rd_T99 x19 x21).f0)).bind fun t409 => (if (((⟨#[47]⟩ : ByteArray) ++ t408) ++ (⟨#[59]⟩ : ByteArray)).size + t409.size ≤ 9223372036854775807 then (if x4.size + ((((⟨#[47]⟩ : ByteArray) ++ t408) ++ (⟨#[59]⟩ : ByteArray)) ++ t409).size ≤ 9223372036854775807 then (impl_FormatAggregator.l0 k (x4 ++ ((((⟨#[47]⟩ : ByteArray) ++ t408) ++ (⟨#[59]⟩ : ByteArray)) ++ t409)) x19 x20 (wrap64 (x21 + 1))) else (none)) else (none))) else (none)) else (none))) else (none)) else (none)) else (some x4)
end
def impl_FormatAggregator.f (k : Nat) (l0_0 : List (S99)) (a0_1 : Int) (a0_2 : Bool) : Option (ByteArray) := (impl_IsValidAggregator.f k l0_0 a0_1 a0_2).bind fun t404 => (if t404 = true then (if a0_2 = true then (impl_FormatAggregator.j0 k (⟨#[49]⟩ : ByteArray) l0_0 a0_1 a0_2) else (impl_FormatAggregator.j0 k (⟨#[48]⟩ : ByteArray) l0_0 a0_1 a0_2)) else (some (⟨#[]⟩ : ByteArray)))
theorem impl_FormatAggregator.mono_l : ∀ k, (∀ y0 y1 y2 y3, LeO (impl_FormatAggregator.j0 k y0 y1 y2 y3) (impl_FormatAggregator.j0 (k + 1) y0 y1 y2 y3)) ∧ (∀ y0 y1 y2 y3, LeO (impl_FormatAggregator.l0 k y0 y1 y2 y3) (impl_FormatAggregator.l0 (k + 1) y0 y1 y2 y3))
 | 0 => ⟨fun _ _ _ _ r h => by simp [impl_FormatAggregator.j0] at h, fun _ _ _ _ r h => by simp [impl_FormatAggregator.l0] at h⟩
 | k + 1 => by
  obtain ⟨ih0, ih1⟩ := impl_FormatAggregator.mono_l k
  refine ⟨?_, ?_⟩
  ·
   intro y0 y1 y2 y3
   unfold impl_FormatAggregator.j0
   repeat' first
   | (with_reducible exact ih0 _ _ _ _)
   | (with_reducible exact ih1 _ _ _ _)
   | (with_reducible exact impl_FormatInt.mono _ _)
   | (with_reducible exact impl_FormatRows.mono _ _)
   | (with_reducible exact impl_IsValidAggregator.mono _ _ _ _)
   | (with_reducible exact LeO.refl _)
   | (with_reducible exact LeO.none _)
   | (with_reducible refine LeO.ite ?_ ?_)
   | (with_reducible refine LeO.bind ?_ (fun _ => ?_))
   | exact ih0 _ _ _ _
   | exact ih1 _ _ _ _
   | exact impl_FormatInt.mono _ _
   | exact impl_FormatRows.mono _ _
   | exact impl_IsValidAggregator.mono _ _ _ _
   | exact LeO.none _
   | refine LeO.ite ?_ ?_
   | refine LeO.bind ?_ (fun _ => ?_)
  ·
   intro y0 y1 y2 y3
   unfold impl_FormatAggregator.l0
   repeat' first
   | (with_reducible exact ih0 _ _ _ _)
   | (with_reducible exact ih1 _ _ _ _)
   | (with_reducible exact impl_FormatInt.mono _ _)
   | (with_reducible exact impl_FormatRows.mono _ _)
   | (with_reducible exact impl_IsValidAggregator.mono _ _ _ _)
   | (with_reducible exact LeO.refl _)
   | (with_reducible exact LeO.none _)
   | (with_reducible refine LeO.ite ?_ ?_)
   | (with_reducible refine LeO.bind ?_ (fun _ => ?_))
   | exact ih0 _ _ _ _
   | exact ih1 _ _ _ _
   | exact impl_FormatInt.mono _ _
   | exact impl_FormatRows.mono _ _
   | exact impl_IsValidAggregator.mono _ _ _ _
   | exact LeO.none _
   | refine LeO.ite ?_ ?_
   | refine LeO.bind ?_ (fun _ => ?_)
theorem impl_FormatAggregator.mono : ∀ a0 a1 a2 k, LeO (impl_FormatAggregator.f k a0 a1 a2) (impl_FormatAggregator.f (k + 1) a0 a1 a2) := by
 intro a0 a1 a2 k
 obtain ⟨ih0, ih1⟩ := impl_FormatAggregator.mono_l k
 unfold impl_FormatAggregator.f
 repeat' first
   | (with_reducible exact ih0 _ _ _ _)
   | (with_reducible exact ih1 _ _ _ _)
   | (with_reducible exact impl_FormatInt.mono _ _)
   | (with_reducible exact impl_FormatRows.mono _ _)
   | (with_reducible exact impl_IsValidAggregator.mono _ _ _ _)
   | (with_reducible exact LeO.refl _)
   | (with_reducible exact LeO.none _)
   | (with_reducible refine LeO.ite ?_ ?_)
   | (with_reducible refine LeO.bind ?_ (fun _ => ?_))
   | exact ih0 _ _ _ _
   | exact ih1 _ _ _ _
   | exact impl_FormatInt.mono _ _
   | exact impl_FormatRows.mono _ _
   | exact impl_IsValidAggregator.mono _ _ _ _
   | exact LeO.none _
   | refine LeO.ite ?_ ?_
   | refine LeO.bind ?_ (fun _ => ?_)
def impl_FormatAggregator.T10 : Bool × List (List Nat × List Nat) := (true, [([], []), ([], []), ([1], [1]), ([2], [2]), ([3], [3]), ([4], [4]), ([], []), ([6], [6]), ([7, 3], [7]), ([5, 8], [5, 8]), ([0, 9], [0, 9]), ([10, 8, 0, 1, 2, 3, 4, 5, 6, 7, 8, 9, 10], [0, 10])])
def impl_FormatAggregator.B10 : List Nat := [0, 0, 2, 6, 14, 30, 0, 64, 206, 510, 1023, 2047]
theorem impl_FormatAggregator.tab10 : rtab .any (opsOf Try.f23 10) = impl_FormatAggregator.T10 := by kernel_rfl
theorem impl_FormatAggregator.bits10 : waitsOk impl_FormatAggregator.T10.2 impl_FormatAggregator.B10 = true := by kernel_rfl
set_option maxHeartbeats 8000000 in
set_option maxRecDepth 100000 in
theorem impl_FormatAggregator.calls (k : Nat) (A0_0 : Option Addr) (c0_0 : Nat) (l0_0 : List (S99)) (a0_1 : Int) (a0_2 : Bool) (r : ByteArray) (w : World) (hr0_0 : Kd.C k99 w A0_0 l0_0.length l0_0) (hc0_0 : l0_0.length ≤ c0_0) (h : impl_FormatAggregator.f k l0_0 a0_1 a0_2 = some r) :
  Calls Try.prog 23 #[.agg #[.slice A0_0 l0_0.length c0_0, .int .i64 a0_1, .bool a0_2]] w fun e w' => e = .returned (.string r) ∧ Below w.heap.size w w' := by
 have hu48 := Try.underlying48
 have hu99 := Try.underlying99
 have HR0_0 := mA hr0_0
 have HC0_0 := mA hc0_0
 clear hr0_0 hc0_0
 have HB := mA (Below.refl w.heap.size w)
 have H : ((impl_IsValidAggregator.f k l0_0 a0_1 a0_2).bind fun t404 => (if t404 = true then (if a0_2 = true then (impl_FormatAggregator.j0 k (⟨#[49]⟩ : ByteArray) l0_0 a0_1 a0_2) else (impl_FormatAggregator.j0 k (⟨#[48]⟩ : ByteArray) l0_0 a0_1 a0_2)) else (some (⟨#[]⟩ : ByteArray)))) = some r := h
 clear h
 obtain ⟨t404, A2, H⟩ := Option.bind_eq_some_iff.mp H
 replace A2 := mA A2
 try dsimp only at H
 by_cases c3 : t404 = true
 ·
  subst c3
  rw [if_pos rfl] at H
  have HC4 := mA H
  clear H
  go_enter Try.func23, Try.ntmps23
  go_upto_if 11 with (first | ((with_reducible refine gate_dst (N := 1) rfl ?_); refine boxT 1 #[.slice A0_0 l0_0.length c0_0, .int .i64 a0_1, .bool a0_2] 48 ?_; intro gb403 hg w5 hbox hb; have BK403 := mA (hbox); have GW403 := mA ((by rw [hg]; exact (below_size (bT HB)) : w.heap.size ≤ gb403)); have GE403 := GW403; replace HB := mA (below_step (bT HB) hb); clear hb hbox hg; obtain ⟨hcz6_0, hcz6_1, hcz6_2, hfz6_0, hfz6_1, hfz6_2⟩ := blk3 BK403.out) | ((with_reducible refine gate_callee (f := 62) rfl ?_); refine goesT (some 8) Try.func62 #[.agg #[.slice A0_0 l0_0.length c0_0, .int .i64 a0_1, .bool a0_2]] ?_; (with_reducible refine (impl_IsValidAggregator.calls k _ _ l0_0 a0_1 a0_2 true _ ?side1 ?side2 A2.out).mono ?_); (case side1 => exact cT (Kd.C_below HR0_0.out HB.out)); (case side2 => exact HC0_0.out); rintro e w7 ⟨rfl, hb⟩; refine ⟨_, rfl, ?_⟩; replace BK403 := kB BK403 hb; replace HB := mA (below_step (bT1 HB GE403) hb); (try clear hb); obtain ⟨hcz8_0, hcz8_1, hcz8_2, hfz8_0, hfz8_1, hfz8_2⟩ := blk3 BK403.out))
  (try simp only [Act.put, List.setIfInBounds_toArray, List.set_cons_zero, List.set_cons_succ])
  go_cut [3] (fun v3 wc => ∃ (kq : Nat) (x3_3 : ByteArray), v3 = .string x3_3 ∧ Aside0 (impl_FormatAggregator.j0 kq x3_3 l0_0 a0_1 a0_2 = some r) ∧ Aside0 (kq ≤ k) ∧ Aside0 (wc.heap[gb403]? = some (.cells #[(.slice A0_0 l0_0.length c0_0), .int .i64 a0_1, .bool a0_2] 48 (0, 0))) ∧ Aside0 (Below w.heap.size w wc))
  case first =>
   have H := HC4.out
   clear HC4
   by_cases c9 : a0_2 = true
   ·
    subst c9
    rw [if_pos rfl] at H
    have H' := mA H
    clear H
    go_wp2
    go_meet
    case rel => exact ⟨_, ((⟨#[49]⟩ : ByteArray)), sT, H', ⟨by first | omega | exact Nat.le_refl _⟩, ⟨kT BK403⟩, ⟨bT1 HB GE403⟩⟩
   ·
    replace c9 := Bool.eq_false_iff.mpr c9
    subst c9
    rw [if_neg (show ¬ (false = true) by decide)] at H
    have H' := mA H
    clear H
    go_wp2
    go_meet
    case rel => exact ⟨_, ((⟨#[48]⟩ : ByteArray)), sT, H', ⟨by first | omega | exact Nat.le_refl _⟩, ⟨kT BK403⟩, ⟨bT1 HB GE403⟩⟩
  case rest =>
   clear HC4
   try clear c2
   try clear p2
   try clear c3
   try clear c6
   try clear c9
   try clear hcz6_0
   try clear hcz6_1
   try clear hcz6_2
   try clear hcz8_0
   try clear hcz8_1
   try clear hcz8_2
   try clear hfz6_0
   try clear hfz6_1
   try clear hfz6_2
   try clear hfz8_0
   try clear hfz8_1
   try clear hfz8_2
   obtain ⟨kq, x3_3, rfl, HA, HJ3, BK403, HB⟩ := hcut
   cases kq with
   | zero => exact absurd HA.out (by simp [impl_FormatAggregator.j0])
   | succ kj3 =>
    have H := HA.out
    clear HA
    simp only [impl_FormatAggregator.j0] at H
    obtain ⟨t405, A10, H⟩ := Option.bind_eq_some_iff.mp H
    replace A10 := mA A10
    try dsimp only at H
    by_cases c11 : t405.size + 1 ≤ 9223372036854775807
    ·
     rw [if_pos c11] at H
     have c11b0 := eq_true c11
     have c11b1 : decide (t405.size + 1 ≤ 9223372036854775807) = true := decide_eq_true c11
     try have c11b2 : (9223372036854775807 < t405.size + 1) = False := eq_false (Nat.not_lt.2 c11)
     by_cases c12 : (t405 ++ (⟨#[47]⟩ : ByteArray)).size + x3_3.size ≤ 9223372036854775807
     ·
      rw [if_pos c12] at H
      have c12b0 := eq_true c12
      have c12b1 : decide ((t405 ++ (⟨#[47]⟩ : ByteArray)).size + x3_3.size ≤ 9223372036854775807) = true := decide_eq_true c12
      try have c12b2 : (9223372036854775807 < (t405 ++ (⟨#[47]⟩ : ByteArray)).size + x3_3.size) = False := eq_false (Nat.not_lt.2 c12)
      try have c12b3 : (9223372036854775807 < t405.size + 1 + x3_3.size) = False := szF c12
      have H' := mA H
      clear H
      have hcz13_0 : wc.cell? ⟨gb403, 0, none⟩ = some (.slice A0_0 l0_0.length c0_0) := (blk_cell BK403.out 0).trans rfl
      have hcz13_1 : wc.cell? ⟨gb403, 1, none⟩ = some (.int .i64 a0_1) := (blk_cell BK403.out 1).trans rfl
      have hcz13_2 : wc.cell? ⟨gb403, 2, none⟩ = some (.bool a0_2) := (blk_cell BK403.out 2).trans rfl
      have hfz13_0 := blk_frozen BK403.out 0
      have hfz13_1 := blk_frozen BK403.out 1
      have hfz13_2 := blk_frozen BK403.out 2
      go_wp2_with (first | ((with_reducible refine gate_callee (f := 45) rfl ?_); refine goesT (some 14) Try.func45 #[.int .i64 a0_1] ?_; (with_reducible refine (impl_FormatInt.calls kj3 a0_1 t405 _ A10.out).mono ?_); rintro e w14 ⟨rfl, hb⟩; refine ⟨_, rfl, ?_⟩; replace BK403 := kB BK403 hb; replace HB := mA (below_step (bT1 HB GE403) hb); (try clear hb); obtain ⟨hcz15_0, hcz15_1, hcz15_2, hfz15_0, hfz15_1, hfz15_2⟩ := blk3 BK403.out))
      go_loopg [4, 21] kj3 (fun kq v4 v21 w' => ∃ (x4_2 : ByteArray) (x21_2 : Int), v4 = .string x4_2 ∧ v21 = .int .i64 x21_2 ∧ Aside0 (impl_FormatAggregator.l0 kq x4_2 l0_0 (l0_0.length : Int) x21_2 = some r) ∧ Aside0 (kq ≤ kj3) ∧ Aside0 (w'.heap[gb403]? = some (.cells #[(.slice A0_0 l0_0.length c0_0), .int .i64 a0_1, .bool a0_2] 48 (0, 0))) ∧ Aside0 (Below w.heap.size w w'))
      case atStart => exact ⟨((t405 ++ (⟨#[47]⟩ : ByteArray)) ++ x3_3), (0), sT, sT, H', ⟨Nat.le_refl _⟩, ⟨kT BK403⟩, ⟨bT1 HB GE403⟩⟩
      case round =>
       clear H'
       try clear c1
       try clear c2
       try clear p2
       try clear c3
       try clear c4
       try clear c6
       try clear c9
       try clear c11
       try clear c11b0
       try clear c11b1
       try clear c11b2
       try clear c12
       try clear c12b0
       try clear c12b1
       try clear c12b2
       try clear hcz13_0
       try clear hcz13_1
       try clear hcz13_2
       try clear hcz15_0
       try clear hcz15_1
       try clear hcz15_2
       try clear hcz6_0
       try clear hcz6_1
       try clear hcz6_2
       try clear hcz8_0
       try clear hcz8_1
       try clear hcz8_2
       try clear hfz13_0
       try clear hfz13_1
       try clear hfz13_2
       try clear hfz15_0
       try clear hfz15_1
       try clear hfz15_2
       try clear hfz6_0
       try clear hfz6_1
       try clear hfz6_2
       try clear hfz8_0
       try clear hfz8_1
       try clear hfz8_2
       try clear p2
       obtain ⟨x4_2, x21_2, rfl, rfl, HA, HK2, BK403, HB⟩ := hrel
       cases gk with
       | zero => exact absurd HA.out (by simp [impl_FormatAggregator.l0])
       | succ k2 =>
        have H := HA.out
        clear HA
        simp only [impl_FormatAggregator.l0] at H
        by_cases c16 : x21_2 < (l0_0.length : Int)
        ·
         rw [if_pos c16] at H
         have c16b0 : decide (x21_2 < (l0_0.length : Int)) = true := decide_eq_true c16
         clear c16
         by_cases c17 : 0 ≤ x21_2
         ·
          rw [if_pos c17] at H
          have c17b0 : decide (0 ≤ x21_2) = true := decide_eq_true c17
          clear c17
          by_cases c18 : x21_2 < (l0_0.length : Int)
          ·
           rw [if_pos c18] at H
           have c18b0 : decide (x21_2 < (l0_0.length : Int)) = true := decide_eq_true c18
           clear c18
           obtain ⟨t408, A19, H⟩ := Option.bind_eq_some_iff.mp H
           replace A19 := mA A19
           try dsimp only at H
           by_cases c20 : 1 + t408.size ≤ 9223372036854775807
           ·
            rw [if_pos c20] at H
            have c20b0 := eq_true c20
            have c20b1 : decide (1 + t408.size ≤ 9223372036854775807) = true := decide_eq_true c20
            try have c20b2 : (9223372036854775807 < 1 + t408.size) = False := eq_false (Nat.not_lt.2 c20)
            by_cases c21 : ((⟨#[47]⟩ : ByteArray) ++ t408).size + 1 ≤ 9223372036854775807
            ·
             rw [if_pos c21] at H
             have c21b0 := eq_true c21
             have c21b1 : decide (((⟨#[47]⟩ : ByteArray) ++ t408).size + 1 ≤ 9223372036854775807) = true := decide_eq_true c21
             try have c21b2 : (9223372036854775807 < ((⟨#[47]⟩ : ByteArray) ++ t408).size + 1) = False := eq_false (Nat.not_lt.2 c21)
             try have c21b3 : (9223372036854775807 < 1 + t408.size + 1) = False := szF c21
             obtain ⟨t409, A22, H⟩ := Option.bind_eq_some_iff.mp H
             replace A22 := mA A22
             try dsimp only at H
             by_cases c23 : (((⟨#[47]⟩ : ByteArray) ++ t408) ++ (⟨#[59]⟩ : ByteArray)).size + t409.size ≤ 9223372036854775807
             ·
              rw [if_pos c23] at H
              have c23b0 := eq_true c23
              have c23b1 : decide ((((⟨#[47]⟩ : ByteArray) ++ t408) ++ (⟨#[59]⟩ : ByteArray)).size + t409.size ≤ 9223372036854775807) = true := decide_eq_true c23
              try have c23b2 : (9223372036854775807 < (((⟨#[47]⟩ : ByteArray) ++ t408) ++ (⟨#[59]⟩ : ByteArray)).size + t409.size) = False := eq_false (Nat.not_lt.2 c23)
              try have c23b3 : (9223372036854775807 < 1 + t408.size + 1 + t409.size) = False := szF c23
              by_cases c24 : x4_2.size + ((((⟨#[47]⟩ : ByteArray) ++ t408) ++ (⟨#[59]⟩ : ByteArray)) ++ t409).size ≤ 9223372036854775807
              ·
               rw [if_pos c24] at H
               have c24b0 := eq_true c24
               have c24b1 : decide (x4_2.size + ((((⟨#[47]⟩ : ByteArray) ++ t408) ++ (⟨#[59]⟩ : ByteArray)) ++ t409).size ≤ 9223372036854775807) = true := decide_eq_true c24
               try have c24b2 : (9223372036854775807 < x4_2.size + ((((⟨#[47]⟩ : ByteArray) ++ t408) ++ (⟨#[59]⟩ : ByteArray)) ++ t409).size) = False := eq_false (Nat.not_lt.2 c24)
               try have c24b3 : (9223372036854775807 < x4_2.size + (1 + t408.size + 1 + t409.size)) = False := szF c24
               have H' := mA H
               clear H
               have p406 : 0 ≤ (x21_2 : Int) := of_decide_eq_true aT
               have q406 : x21_2 < (l0_0.length : Int) := of_decide_eq_true aT
               obtain ⟨ad406, A406_0, c406_0, e406, hx406_0, hx406_1, hl406_0, hi406_0⟩ := at_T99 HR0_0.out x21_2 p406 q406
               cases e406
               replace hx406_0 := (HB.out.cell (World.block_lt_of_cell? w _ hx406_0)).trans hx406_0
               replace hx406_1 := (HB.out.cell (World.block_lt_of_cell? w _ hx406_1)).trans hx406_1
               have HR406_0 := mA hi406_0
               have HC406_0 := mA hl406_0
               clear hi406_0 hl406_0
               replace p406 := eq_true p406
               replace q406 := eq_true q406
               try go_wp2_with (first | ((with_reducible refine gate_dst (N := 6) rfl ?_); refine boxT 6 #[.slice none 0 0, .int .i64 0] 99 ?_; intro gb407 hg w25 hbox hb; have BK407 := mA (hbox); have GW407 := mA ((by rw [hg]; exact (below_size (bT1 HB GE403)) : w.heap.size ≤ gb407)); have GE407 := GW407; replace HB := mA (below_step (bT1 HB GE403) hb); have NB403_407 : Aside0 (gb403 ≠ gb407) := nL BK403 hg; have NB407_403 : Aside0 (gb407 ≠ gb403) := nG BK403 hg; replace BK403 := kB BK403 hb; clear hb hbox hg; have hnb26 := NB407_403.out; have hnc26 := NB403_407.out; obtain ⟨hcz27_0, hcz27_1, hfz27_0, hfz27_1⟩ := blk2 BK407.out))
               have n0_ : Aside0 (((w25.setCell ⟨gb407, 0, none⟩ (.slice A406_0 ((rd_T99 l0_0 x21_2).f0).length c406_0)).setCell ⟨gb407, 1, none⟩ (.int .i64 ((rd_T99 l0_0 x21_2).f1))).heap[gb403]? = some (.cells #[.slice (some ad406) l0_0.length c0_0, .int .i64 a0_1, .bool a0_2] 48 (0, 0))) := ⟨by (with_reducible repeat (first | refine blk_drewN ?_ _ | refine blk_drew ?_ | refine blk_alloc ?_ _)); refine blk_far ?_ NB403_407.out _; (with_reducible repeat (first | refine blk_drewN ?_ _ | refine blk_drew ?_ | refine blk_alloc ?_ _)); refine blk_far ?_ NB403_407.out _; (with_reducible repeat (first | refine blk_drewN ?_ _ | refine blk_drew ?_ | refine blk_alloc ?_ _)); exact BK403.out⟩
               have n1_ : Aside0 (((w25.setCell ⟨gb407, 0, none⟩ (.slice A406_0 ((rd_T99 l0_0 x21_2).f0).length c406_0)).setCell ⟨gb407, 1, none⟩ (.int .i64 ((rd_T99 l0_0 x21_2).f1))).heap[gb407]? = some (.cells #[.slice A406_0 ((rd_T99 l0_0 x21_2).f0).length c406_0, .int .i64 ((rd_T99 l0_0 x21_2).f1)] 99 (0, 0))) := ⟨by (with_reducible repeat (first | refine blk_drewN ?_ _ | refine blk_drew ?_ | refine blk_alloc ?_ _)); refine blk_put (cs := #[.slice A406_0 ((rd_T99 l0_0 x21_2).f0).length c406_0, .int .i64 0]) ?_ 1 _ rfl; (with_reducible repeat (first | refine blk_drewN ?_ _ | refine blk_drew ?_ | refine blk_alloc ?_ _)); refine blk_put (cs := #[.slice none 0 0, .int .i64 0]) ?_ 0 _ rfl; (with_reducible repeat (first | refine blk_drewN ?_ _ | refine blk_drew ?_ | refine blk_alloc ?_ _)); exact BK407.out⟩
               have n2_ : Aside0 (Below w.heap.size w ((w25.setCell ⟨gb407, 0, none⟩ (.slice A406_0 ((rd_T99 l0_0 x21_2).f0).length c406_0)).setCell ⟨gb407, 1, none⟩ (.int .i64 ((rd_T99 l0_0 x21_2).f1)))) := ⟨bT2 HB GE403 GE407⟩
               (try clear BK403)
               (try clear BK407)
               (try clear HB)
               generalize ((w25.setCell ⟨gb407, 0, none⟩ (.slice A406_0 ((rd_T99 l0_0 x21_2).f0).length c406_0)).setCell ⟨gb407, 1, none⟩ (.int .i64 ((rd_T99 l0_0 x21_2).f1))) = w28 at n0_ n1_ n2_ ⊢
               have BK403 := n0_
               have BK407 := n1_
               have HB := n2_
               clear n0_ n1_ n2_
               replace BK403 := mA (blk_drew BK403.out)
               replace BK407 := mA (blk_drew BK407.out)
               replace HB := mA (below_drew1 HB.out)
               refine start_ (n := 12) (S := fun w' => w'.cell? ⟨gb407, 0, none⟩ = some (.slice A406_0 ((rd_T99 l0_0 x21_2).f0).length c406_0) ∧ w'.cell? ⟨gb407, 1, none⟩ = some (.int .i64 ((rd_T99 l0_0 x21_2).f1))) (ds := []) #[false, false, false, false, false, false, false, false, false, false, false, false] (by kernel_rfl) rfl rfl ⟨(blk_cell BK407.out 0).trans rfl, (blk_cell BK407.out 1).trans rfl⟩ (fun hHeld => ?_); refine with_tabW impl_FormatAggregator.tab10 impl_FormatAggregator.bits10 (fun HT_ HW_ => ?_)
               generalize w28.drew = w29 at BK403 BK407 HB hHeld ⊢
               refine pureT (i := 0) (N := some 25) #[true, false, false, false, false, false, false, false, false, false, false, false] (any_of HT_.out (by kernel_rfl)) ?_
               refine pureT (i := 1) (N := some 26) #[true, true, false, false, false, false, false, false, false, false, false, false] (any_of HT_.out (by kernel_rfl)) ?_
               refine pureT (i := 6) (N := some 31) #[true, true, false, false, false, false, true, false, false, false, false, false] (any_of HT_.out (by kernel_rfl)) ?_
               refine take_ (i := 2) (N := some 27) (v := ?_) (a' := ?_) #[true, true, true, false, false, false, true, false, false, false, false, false] rfl rfl (take_ofW HT_.out HW_.out (by kernel_rfl)) (fun _ _ _ h => h) (Or.inl ⟨by rfl, ?_⟩) hHeld ?_ ?_
               rotate_left
               ·
                rintro w' ⟨s0, s1⟩
                go_simp
                with_reducible rfl
               rotate_left
               ·
                simp only [Act.put, List.setIfInBounds_toArray, List.set_cons_zero, List.set_cons_succ, i64_w, i32_w]
                rfl
               refine take_ (i := 7) (N := some 32) (v := ?_) (a' := ?_) #[true, true, true, false, false, false, true, true, false, false, false, false] rfl rfl (take_ofW HT_.out HW_.out (by kernel_rfl)) (fun _ _ _ h => h) (Or.inl ⟨by rfl, ?_⟩) hHeld ?_ ?_
               rotate_left
               ·
                rintro w' ⟨s0, s1⟩
                go_simp
                with_reducible rfl
               rotate_left
               ·
                simp only [Act.put, List.setIfInBounds_toArray, List.set_cons_zero, List.set_cons_succ, i64_w, i32_w]
                rfl
               refine one_ (i := 3) (N := some 28) #[true, true, true, true, false, false, true, true, false, false, false, false] rfl rfl (one_of HT_.out (by kernel_rfl)) (by decide) (fun K hK => ?_)
               refine goes_ Try.func45 (by kernel_rfl) rfl #[.int .i64 ((rd_T99 l0_0 x21_2).f1)] (by rfl) rfl rfl mT ?_
               with_reducible refine (impl_FormatInt.calls k2 ((rd_T99 l0_0 x21_2).f1) t408 _ A19.out).mono ?_
               rintro e w30 ⟨rfl, hb⟩
               refine ⟨_, rfl, ?_⟩
               replace BK403 := kB BK403 hb
               replace BK407 := kB BK407 hb
               replace HB := mA (below_step (bT2 HB GE403 GE407) hb)
               (try clear hb)
               (try clear hb2)
               (try clear hk)
               (try clear hi)
               refine hK.out _ _ ⟨(blk_cell BK407.out 0).trans rfl, (blk_cell BK407.out 1).trans rfl⟩ (fun hHeld => ?_)
               clear hK K
               refine norm_ (a' := ?_) ?_ ?_
               rotate_left
               ·
                show Act.put _ (some 28) _ = _
                simp only [Act.put, List.setIfInBounds_toArray, List.set_cons_zero, List.set_cons_succ, i64_w, i32_w]
                rfl
               refine pureT (i := 4) (N := some 29) #[true, true, true, true, true, false, true, true, false, false, false, false] (any_of HT_.out (by kernel_rfl)) ?_
               refine pureT (i := 5) (N := some 30) #[true, true, true, true, true, true, true, true, false, false, false, false] (any_of HT_.out (by kernel_rfl)) ?_
               refine one_ (i := 8) (N := some 33) #[true, true, true, true, true, true, true, true, true, false, false, false] rfl rfl (one_of HT_.out (by kernel_rfl)) (by decide) (fun K hK => ?_)
               refine goes_ Try.func56 (by kernel_rfl) rfl #[.slice A406_0 ((rd_T99 l0_0 x21_2).f0).length c406_0] (by rfl) rfl rfl mT ?_
               with_reducible refine (impl_FormatRows.calls k2 _ _ ((rd_T99 l0_0 x21_2).f0) t409 _ ?side1 ?side2 A22.out).mono ?_
               (case side1 => exact cT (Kd.C_below HR406_0.out HB.out))
               (case side2 => exact HC406_0.out)
               rintro e w31 ⟨rfl, hb⟩
               refine ⟨_, rfl, ?_⟩
               replace BK403 := kB BK403 hb
               replace BK407 := kB BK407 hb
               replace HB := mA (below_step (bT2 HB GE403 GE407) hb)
               (try clear hb)
               (try clear hb2)
               (try clear hk)
               (try clear hi)
               refine hK.out _ _ ⟨(blk_cell BK407.out 0).trans rfl, (blk_cell BK407.out 1).trans rfl⟩ (fun hHeld => ?_)
               clear hK K
               refine norm_ (a' := ?_) ?_ ?_
               rotate_left
               ·
                show Act.put _ (some 33) _ = _
                simp only [Act.put, List.setIfInBounds_toArray, List.set_cons_zero, List.set_cons_succ, i64_w, i32_w]
                rfl
               refine pureT (i := 9) (N := some 34) #[true, true, true, true, true, true, true, true, true, true, false, false] (any_of HT_.out (by kernel_rfl)) ?_
               refine pureT (i := 10) (N := some 35) #[true, true, true, true, true, true, true, true, true, true, true, false] (any_of HT_.out (by kernel_rfl)) ?_
               refine pureT (i := 11) (N := some 4) #[true, true, true, true, true, true, true, true, true, true, true, true] (any_of HT_.out (by kernel_rfl)) ?_
               refine done_ (done_of HT_.out (by kernel_rfl)) ?_
               try go_wp2
               go_roundg k2
               case measure => have := HJ3.out; have := HK2.out; omega
               case rel => exact ⟨(x4_2 ++ ((((⟨#[47]⟩ : ByteArray) ++ t408) ++ (⟨#[59]⟩ : ByteArray)) ++ t409)), (wrap64 (x21_2 + 1)), sT, sT, H', ⟨by have := HJ3.out; have := HK2.out; omega⟩, ⟨kT BK403⟩, ⟨bT2 HB GE403 GE407⟩⟩
              ·
               rw [if_neg c24] at H
               exact absurd H (by simp)
             ·
              rw [if_neg c23] at H
              exact absurd H (by simp)
            ·
             rw [if_neg c21] at H
             exact absurd H (by simp)
           ·
            rw [if_neg c20] at H
            exact absurd H (by simp)
          ·
           rw [if_neg c18] at H
           exact absurd H (by simp)
         ·
          rw [if_neg c17] at H
          exact absurd H (by simp)
        ·
         rw [if_neg c16] at H
         have c16b0 : decide (x21_2 < (l0_0.length : Int)) = false := decide_eq_false c16
         clear c16
         obtain rfl := Option.some.inj H
         go_wp2
         go_ret
         exact ⟨eT, bT1 HB GE403⟩
     ·
      rw [if_neg c12] at H
      exact absurd H (by simp)
    ·
     rw [if_neg c11] at H
     exact absurd H (by simp)
 ·
  replace c3 := Bool.eq_false_iff.mpr c3
  subst c3
  rw [if_neg (show ¬ (false = true) by decide)] at H
  obtain rfl := Option.some.inj H
  go_enter Try.func23, Try.ntmps23
  go_wp2_with (first | ((with_reducible refine gate_dst (N := 1) rfl ?_); refine boxT 1 #[.slice A0_0 l0_0.length c0_0, .int .i64 a0_1, .bool a0_2] 48 ?_; intro gb403 hg w32 hbox hb; have BK403 := mA (hbox); have GW403 := mA ((by rw [hg]; exact (below_size (bT HB)) : w.heap.size ≤ gb403)); have GE403 := GW403; replace HB := mA (below_step (bT HB) hb); clear hb hbox hg; obtain ⟨hcz33_0, hcz33_1, hcz33_2, hfz33_0, hfz33_1, hfz33_2⟩ := blk3 BK403.out) | ((with_reducible refine gate_callee (f := 62) rfl ?_); refine goesT (some 8) Try.func62 #[.agg #[.slice A0_0 l0_0.length c0_0, .int .i64 a0_1, .bool a0_2]] ?_; (with_reducible refine (impl_IsValidAggregator.calls k _ _ l0_0 a0_1 a0_2 false _ ?side1 ?side2 A2.out).mono ?_); (case side1 => exact cT (Kd.C_below HR0_0.out HB.out)); (case side2 => exact HC0_0.out); rintro e w34 ⟨rfl, hb⟩; refine ⟨_, rfl, ?_⟩; replace HB := mA (below_step (bT1 HB GE403) hb); (try clear hb)))
  go_ret
  exact ⟨eT, bT1 HB GE403⟩

/-! ### laws_FnExactFormatAggregator: function 5 -/
def laws_FnExactFormatAggregator.f (k : Nat) (l0_0 : List (S130)) (a0_1 : Int) (a0_2 : Bool) : Option (Bool) := (laws_szAggregator.f k l0_0 a0_1 a0_2 1048576).bind fun t420 => (if t420 < 0 then (some true) else ((laws_toAggregator.f k l0_0 a0_1 a0_2).bind fun bt421 => ((spec_FormatAggregator.f k bt421.1 bt421.2.1 bt421.2.2).bind fun t426 => ((laws_toAggregator.f k l0_0 a0_1 a0_2).bind fun bt427 => ((impl_FormatAggregator.f k bt427.1 bt427.2.1 bt427.2.2).bind fun t433 => (if t433.toList = t426.toList then ((laws_toAggregator.f k l0_0 a0_1 a0_2).bind fun bt434 => ((laws_eqAggregator.f k bt427.1 bt427.2.1 bt427.2.2 bt434.1 bt434.2.1 bt434.2.2).bind fun t439 => (if t439 = true then (some true) else (some false)))) else (some false)))))))
theorem laws_FnExactFormatAggregator.mono : ∀ a0 a1 a2 k, LeO (laws_FnExactFormatAggregator.f k a0 a1 a2) (laws_FnExactFormatAggregator.f (k + 1) a0 a1 a2) := by
 intro a0 a1 a2 k
 unfold laws_FnExactFormatAggregator.f
 repeat' first
   | (with_reducible exact impl_FormatAggregator.mono _ _ _ _)
   | (with_reducible exact laws_eqAggregator.mono _ _ _ _ _ _ _)
   | (with_reducible exact laws_szAggregator.mono _ _ _ _ _)
   | (with_reducible exact laws_toAggregator.mono _ _ _ _)
   | (with_reducible exact spec_FormatAggregator.mono _ _ _ _)
   | (with_reducible exact LeO.refl _)
   | (with_reducible exact LeO.none _)
   | (with_reducible refine LeO.ite ?_ ?_)
   | (with_reducible refine LeO.bind ?_ (fun _ => ?_))
   | exact impl_FormatAggregator.mono _ _ _ _
   | exact laws_eqAggregator.mono _ _ _ _ _ _ _
   | exact laws_szAggregator.mono _ _ _ _ _
   | exact laws_toAggregator.mono _ _ _ _
   | exact spec_FormatAggregator.mono _ _ _ _
   | exact LeO.none _
   | refine LeO.ite ?_ ?_
   | refine LeO.bind ?_ (fun _ => ?_)
set_option maxHeartbeats 8000000 in
set_option maxRecDepth 100000 in
theorem laws_FnExactFormatAggregator.calls (k : Nat) (A0_0 : Option Addr) (c0_0 : Nat) (l0_0 : List (S130)) (a0_1 : Int) (a0_2 : Bool) (r : Bool) (w : World) (hr0_0 : Kd.C k130 w A0_0 l0_0.length l0_0) (hc0_0 : l0_0.length ≤ c0_0) (ht : r = true) (h : laws_FnExactFormatAggregator.f k l0_0 a0_1 a0_2 = some r) :
  Calls Try.prog 5 #[.agg #[.slice A0_0 l0_0.length c0_0, .int .i64 a0_1, .bool a0_2]] w fun e w' => e = .returned (.bool r) ∧ Below w.heap.size w w' := by
 have hu43 := Try.underlying43
 have hu48 := Try.underlying48
 have HR0_0 := mA hr0_0
 have HC0_0 := mA hc0_0
 clear hr0_0 hc0_0
 have HB := mA (Below.refl w.heap.size w)
 have HT := mA ht
 clear ht
 have H : ((laws_szAggregator.f k l0_0 a0_1 a0_2 1048576).bind fun t420 => (if t420 < 0 then (some true) else ((laws_toAggregator.f k l0_0 a0_1 a0_2).bind fun bt421 => ((spec_FormatAggregator.f k bt421.1 bt421.2.1 bt421.2.2).bind fun t426 => ((laws_toAggregator.f k l0_0 a0_1 a0_2).bind fun bt427 => ((impl_FormatAggregator.f k bt427.1 bt427.2.1 bt427.2.2).bind fun t433 => (if t433.toList = t426.toList then ((laws_toAggregator.f k l0_0 a0_1 a0_2).bind fun bt434 => ((laws_eqAggregator.f k bt427.1 bt427.2.1 bt427.2.2 bt434.1 bt434.2.1 bt434.2.2).bind fun t439 => (if t439 = true then (some true) else (some false)))) else (some false)))))))) = some r := h
 clear h
 obtain ⟨t420, A2, H⟩ := Option.bind_eq_some_iff.mp H
 replace A2 := mA A2
 try dsimp only at H
 by_cases c3 : t420 < 0
 ·
  rw [if_pos c3] at H
  have c3b0 : decide (t420 < 0) = true := decide_eq_true c3
  clear c3
  obtain rfl := Option.some.inj H
  go_enter Try.func5, Try.ntmps5
  go_wp2_with (first | ((with_reducible refine gate_dst (N := 1) rfl ?_); refine boxT 1 #[.slice A0_0 l0_0.length c0_0, .int .i64 a0_1, .bool a0_2] 43 ?_; intro gb419 hg w4 hbox hb; have BK419 := mA (hbox); have GW419 := mA ((by rw [hg]; exact (below_size (bT HB)) : w.heap.size ≤ gb419)); have GE419 := GW419; replace HB := mA (below_step (bT HB) hb); clear hb hbox hg; obtain ⟨hcz5_0, hcz5_1, hcz5_2, hfz5_0, hfz5_1, hfz5_2⟩ := blk3 BK419.out) | ((with_reducible refine gate_callee (f := 20) rfl ?_); refine goesT (some 9) Try.func20 #[.agg #[.slice A0_0 l0_0.length c0_0, .int .i64 a0_1, .bool a0_2], .int .i64 1048576] ?_; (with_reducible refine (laws_szAggregator.calls k _ _ l0_0 a0_1 a0_2 1048576 t420 _ ?side1 ?side2 A2.out).mono ?_); (case side1 => exact cT (Kd.C_below HR0_0.out HB.out)); (case side2 => exact HC0_0.out); rintro e w6 ⟨rfl, hb⟩; refine ⟨_, rfl, ?_⟩; replace HB := mA (below_step (bT1 HB GE419) hb); (try clear hb)))
  go_ret
  exact ⟨eT, bT1 HB GE419⟩
 ·
  rw [if_neg c3] at H
  have c3b0 : decide (t420 < 0) = false := decide_eq_false c3
  clear c3
  obtain ⟨⟨t421, t424, t425⟩, A7, H⟩ := Option.bind_eq_some_iff.mp H
  replace A7 := mA A7
  try dsimp only at H
  obtain ⟨t426, A8, H⟩ := Option.bind_eq_some_iff.mp H
  replace A8 := mA A8
  try dsimp only at H
  obtain ⟨⟨t427, t430, t431⟩, A9, H⟩ := Option.bind_eq_some_iff.mp H
  replace A9 := mA A9
  try dsimp only at H
  obtain ⟨t433, A10, H⟩ := Option.bind_eq_some_iff.mp H
  replace A10 := mA A10
  try dsimp only at H
  by_cases c11 : t433.toList = t426.toList
  ·
   rw [if_pos c11] at H
   have c11b0 : (t433.toList == t426.toList) = true := beq_iff_eq.mpr c11
   have c11b1 : (t433.toList != t426.toList) = false := bne_eq_false_iff_eq.mpr c11
   clear c11
   obtain ⟨⟨t434, t437, t438⟩, A12, H⟩ := Option.bind_eq_some_iff.mp H
   replace A12 := mA A12
   try dsimp only at H
   obtain ⟨t439, A13, H⟩ := Option.bind_eq_some_iff.mp H
   replace A13 := mA A13
   replace H : (if t439 = true then (some true) else (some false)) = some r := H
   by_cases c14 : t439 = true
   ·
    subst c14
    rw [if_pos rfl] at H
    obtain rfl := Option.some.inj H
    go_enter Try.func5, Try.ntmps5
    try go_wp2_with (first | ((with_reducible refine gate_dst (N := 1) rfl ?_); refine boxT 1 #[.slice A0_0 l0_0.length c0_0, .int .i64 a0_1, .bool a0_2] 43 ?_; intro gb419 hg w15 hbox hb; have BK419 := mA (hbox); have GW419 := mA ((by rw [hg]; exact (below_size (bT HB)) : w.heap.size ≤ gb419)); have GE419 := GW419; replace HB := mA (below_step (bT HB) hb); clear hb hbox hg; obtain ⟨hcz16_0, hcz16_1, hcz16_2, hfz16_0, hfz16_1, hfz16_2⟩ := blk3 BK419.out) | ((with_reducible refine gate_callee (f := 20) rfl ?_); refine goesT (some 9) Try.func20 #[.agg #[.slice A0_0 l0_0.length c0_0, .int .i64 a0_1, .bool a0_2], .int .i64 1048576] ?_; (with_reducible refine (laws_szAggregator.calls k _ _ l0_0 a0_1 a0_2 1048576 t420 _ ?side1 ?side2 A2.out).mono ?_); (case side1 => exact cT (Kd.C_below HR0_0.out HB.out)); (case side2 => exact HC0_0.out); rintro e w17 ⟨rfl, hb⟩; refine ⟨_, rfl, ?_⟩; replace BK419 := kB BK419 hb; replace HB := mA (below_step (bT1 HB GE419) hb); (try clear hb); (try clear hk); obtain ⟨hcz18_0, hcz18_1, hcz18_2, hfz18_0, hfz18_1, hfz18_2⟩ := blk3 BK419.out) | ((with_reducible refine gate_callee (f := 22) rfl ?_); refine goesT (some 13) Try.func22 #[.agg #[.slice A0_0 l0_0.length c0_0, .int .i64 a0_1, .bool a0_2]] ?_; (with_reducible refine (laws_toAggregator.calls k _ _ l0_0 a0_1 a0_2 t421 t424 t425 _ ?side1 ?side2 A7.out).mono ?_); (case side1 => exact cT (Kd.C_below HR0_0.out HB.out)); (case side2 => exact HC0_0.out); rintro e w19 ⟨v422, rfl, ho0, hb⟩; refine ⟨_, rfl, ?_⟩; have HO423 := mA (Kd.S_lower ho0 (below_size (bT1 HB GE419))); replace BK419 := kB BK419 hb; replace HB := mA (below_step (bT1 HB GE419) hb); (try clear hb); (try clear hk); (try clear ho0); obtain ⟨Ao20, co20, eo20⟩ := Kd.S_slice HO423.out; subst eo20) | ((with_reducible refine gate_callee (f := 21) rfl ?_); refine goesT (some 14) Try.func21 #[.agg #[.slice Ao20 t421.length co20, .int .i64 t424, .bool t425]] ?_; (with_reducible refine (spec_FormatAggregator.calls k _ _ t421 t424 t425 t426 _ ?side1 ?side2 A8.out).mono ?_); (case side1 => exact cT ((Kd.S_reads' HO423.out).2.2)); (case side2 => exact (Kd.S_reads' HO423.out).2.1); rintro e w21 ⟨rfl, hb⟩; refine ⟨_, rfl, ?_⟩; replace HO423 := rBS HO423 hb; replace BK419 := kB BK419 hb; replace HB := mA (below_step (bT1 HB GE419) hb); (try clear hb); (try clear hk); obtain ⟨hcz22_0, hcz22_1, hcz22_2, hfz22_0, hfz22_1, hfz22_2⟩ := blk3 BK419.out) | ((with_reducible refine gate_callee (f := 22) rfl ?_); refine goesT (some 16) Try.func22 #[.agg #[.slice A0_0 l0_0.length c0_0, .int .i64 a0_1, .bool a0_2]] ?_; (with_reducible refine (laws_toAggregator.calls k _ _ l0_0 a0_1 a0_2 t427 t430 t431 _ ?side1 ?side2 A9.out).mono ?_); (case side1 => exact cT (Kd.C_below HR0_0.out HB.out)); (case side2 => exact HC0_0.out); rintro e w23 ⟨v428, rfl, ho0, hb⟩; refine ⟨_, rfl, ?_⟩; have HO429 := mA (Kd.S_lower (Kd.S_new' ho0 (Kd.S_lt (rTS HO423))) (below_size (bT1 HB GE419))); replace HO423 := mA (Kd.S_elder' (rTS HO423) (Kd.S_base ho0) hb); replace BK419 := kB BK419 hb; replace HB := mA (below_step (bT1 HB GE419) hb); (try clear hb); (try clear hk); (try clear ho0)) | ((with_reducible refine gate_dst (N := 5) rfl ?_); refine boxT 5 #[.slice none 0 0, .int .i64 0, .bool false] 48 ?_; intro gb432 hg w24 hbox hb; replace HO423 := rBS HO423 hb; replace HO429 := rBS HO429 hb; have BK432 := mA (hbox); have GW432 := mA ((by rw [hg]; exact (below_size (bT1 HB GE419)) : w.heap.size ≤ gb432)); have GE432 := GW432; replace HB := mA (below_step (bT1 HB GE419) hb); have NB419_432 : Aside0 (gb419 ≠ gb432) := nL BK419 hg; have NB432_419 : Aside0 (gb432 ≠ gb419) := nG BK419 hg; replace BK419 := kB BK419 hb; clear hb hbox hg; obtain ⟨Ao25, co25, eo25⟩ := Kd.S_slice HO429.out; subst eo25; have hnb26 := NB432_419.out; have hnc26 := NB419_432.out; obtain ⟨hcz27_0, hcz27_1, hcz27_2, hfz27_0, hfz27_1, hfz27_2⟩ := blk3 BK432.out) | ((with_reducible refine gate_callee (f := 23) rfl ?_); refine goesT (some 18) Try.func23 #[.agg #[.slice Ao25 t427.length co25, .int .i64 t430, .bool t431]] ?_; (with_reducible refine (impl_FormatAggregator.calls k _ _ t427 t430 t431 t433 _ ?side1 ?side2 A10.out).mono ?_); (case side1 => refine (Kd.S_reads' (e := 99) (base := w.heap.size) (ok := fun k_ => (True ∧ some k_ ≠ (.slice Ao20 t421.length co20 : Value).ownBlock)) (n := t427.length) (c := co25) ?_).2.2; exact (by (with_reducible repeat (first | apply Kd.S_alloc | apply Kd.S_drewN | apply Kd.S_drew)); exact (Kd.S_mono (Kd.S_far (p := ⟨gb432, 2, none⟩) (Kd.S_far (p := ⟨gb432, 1, none⟩) (Kd.S_far (p := ⟨gb432, 0, none⟩) (Kd.S_types HO429.out BK432.out (by decide)) (fun _ hk => hk.2) (.slice Ao25 t427.length co25)) (fun _ hk => hk.2) (.int .i64 t430)) (fun _ hk => hk.2) (.bool t431)) (fun _ h_ => h_.1)))); (case side2 => exact (Kd.S_reads' HO429.out).2.1); rintro e w28 ⟨rfl, hb⟩; refine ⟨_, rfl, ?_⟩; replace HO423 := mA (Kd.S_below (by (with_reducible repeat (first | apply Kd.S_alloc | apply Kd.S_drewN | apply Kd.S_drew)); exact (Kd.S_mono (Kd.S_far (p := ⟨gb432, 2, none⟩) (Kd.S_far (p := ⟨gb432, 1, none⟩) (Kd.S_far (p := ⟨gb432, 0, none⟩) (Kd.S_types HO423.out BK432.out (by decide)) (fun _ hk => hk.2) (.slice Ao25 t427.length co25)) (fun _ hk => hk.2) (.int .i64 t430)) (fun _ hk => hk.2) (.bool t431)) (fun _ h_ => h_.1))) hb); replace HO429 := mA (Kd.S_below (by (with_reducible repeat (first | apply Kd.S_alloc | apply Kd.S_drewN | apply Kd.S_drew)); exact (Kd.S_mono (Kd.S_far (p := ⟨gb432, 2, none⟩) (Kd.S_far (p := ⟨gb432, 1, none⟩) (Kd.S_far (p := ⟨gb432, 0, none⟩) (Kd.S_types HO429.out BK432.out (by decide)) (fun _ hk => hk.2) (.slice Ao25 t427.length co25)) (fun _ hk => hk.2) (.int .i64 t430)) (fun _ hk => hk.2) (.bool t431)) (fun _ h_ => h_.1))) hb); replace BK419 := mA (blk_below (g := gb419) (o := .cells #[.slice A0_0 l0_0.length c0_0, .int .i64 a0_1, .bool a0_2] 43 (0, 0)) (by (with_reducible repeat (first | refine blk_drewN ?_ _ | refine blk_drew ?_ | refine blk_alloc ?_ _)); refine blk_far ?_ NB419_432.out _; (with_reducible repeat (first | refine blk_drewN ?_ _ | refine blk_drew ?_ | refine blk_alloc ?_ _)); refine blk_far ?_ NB419_432.out _; (with_reducible repeat (first | refine blk_drewN ?_ _ | refine blk_drew ?_ | refine blk_alloc ?_ _)); refine blk_far ?_ NB419_432.out _; (with_reducible repeat (first | refine blk_drewN ?_ _ | refine blk_drew ?_ | refine blk_alloc ?_ _)); exact BK419.out) hb); replace BK432 := mA (blk_below (g := gb432) (o := .cells #[.slice Ao25 t427.length co25, .int .i64 t430, .bool t431] 48 (0, 0)) (by (with_reducible repeat (first | refine blk_drewN ?_ _ | refine blk_drew ?_ | refine blk_alloc ?_ _)); refine blk_put (cs := #[.slice Ao25 t427.length co25, .int .i64 t430, .bool false]) ?_ 2 _ rfl; (with_reducible repeat (first | refine blk_drewN ?_ _ | refine blk_drew ?_ | refine blk_alloc ?_ _)); refine blk_put (cs := #[.slice Ao25 t427.length co25, .int .i64 0, .bool false]) ?_ 1 _ rfl; (with_reducible repeat (first | refine blk_drewN ?_ _ | refine blk_drew ?_ | refine blk_alloc ?_ _)); refine blk_put (cs := #[.slice none 0 0, .int .i64 0, .bool false]) ?_ 0 _ rfl; (with_reducible repeat (first | refine blk_drewN ?_ _ | refine blk_drew ?_ | refine blk_alloc ?_ _)); exact BK432.out) hb); replace HB := mA (below_step (bT2 HB GE419 GE432) hb); (try clear hb); (try clear hk)))
    replace HO423 := mA (Kd.S_drew HO423.out)
    replace HO429 := mA (Kd.S_drew HO429.out)
    replace BK419 := mA (blk_drew BK419.out)
    replace BK432 := mA (blk_drew BK432.out)
    replace HB := mA (below_drew1 HB.out)
    refine start_ (n := 5) (S := fun w' => w'.cell? ⟨gb432, 0, none⟩ = some (.slice Ao25 t427.length co25) ∧ w'.cell? ⟨gb432, 1, none⟩ = some (.int .i64 t430) ∧ w'.cell? ⟨gb432, 2, none⟩ = some (.bool t431) ∧ w'.cell? ⟨gb419, 0, none⟩ = some (.slice A0_0 l0_0.length c0_0) ∧ w'.cell? ⟨gb419, 1, none⟩ = some (.int .i64 a0_1) ∧ w'.cell? ⟨gb419, 2, none⟩ = some (.bool a0_2)) (ds := []) #[false, false, false, false, false] (by kernel_rfl) rfl rfl ⟨(blk_cell BK432.out 0).trans rfl, (blk_cell BK432.out 1).trans rfl, (blk_cell BK432.out 2).trans rfl, (blk_cell BK419.out 0).trans rfl, (blk_cell BK419.out 1).trans rfl, (blk_cell BK419.out 2).trans rfl⟩ (fun hHeld => ?_)
    generalize w28.drew = w29 at HO423 HO429 BK419 BK432 HB hHeld ⊢
    refine take_ (i := 0) (N := some 22) (v := ?_) (a' := ?_) #[true, false, false, false, false] rfl rfl (by kernel_rfl) (fun _ _ _ h => h) (Or.inl ⟨by rfl, ?_⟩) hHeld ?_ ?_
    rotate_left
    ·
     rintro w' ⟨s0, s1, s2, s3, s4, s5⟩
     go_simp
     with_reducible rfl
    rotate_left
    ·
     simp only [Act.put, List.setIfInBounds_toArray, List.set_cons_zero, List.set_cons_succ, i64_w, i32_w]
     rfl
    refine take_ (i := 1) (N := some 23) (v := ?_) (a' := ?_) #[true, true, false, false, false] rfl rfl (by kernel_rfl) (fun _ _ _ h => h) (Or.inl ⟨by rfl, ?_⟩) hHeld ?_ ?_
    rotate_left
    ·
     rintro w' ⟨s0, s1, s2, s3, s4, s5⟩
     go_simp
     with_reducible rfl
    rotate_left
    ·
     simp only [Act.put, List.setIfInBounds_toArray, List.set_cons_zero, List.set_cons_succ, i64_w, i32_w]
     rfl
    refine one_ (i := 2) (N := some 24) #[true, true, true, false, false] rfl rfl (by kernel_rfl) (by decide) (fun K hK => ?_)
    refine goes_ Try.func22 (by kernel_rfl) rfl #[.agg #[.slice A0_0 l0_0.length c0_0, .int .i64 a0_1, .bool a0_2]] (by rfl) rfl rfl mT ?_
    with_reducible refine (laws_toAggregator.calls k _ _ l0_0 a0_1 a0_2 t434 t437 t438 _ ?side1 ?side2 A12.out).mono ?_
    (case side1 => exact cT (Kd.C_below HR0_0.out HB.out))
    (case side2 => exact HC0_0.out)
    rintro e w30 ⟨v435, rfl, ho0, hb⟩
    refine ⟨_, rfl, ?_⟩
    have HO436 := mA (Kd.S_lower (Kd.S_new' (Kd.S_new' ho0 (Kd.S_lt (rTS HO423))) (Kd.S_lt (rTS HO429))) (below_size (bT2 HB GE419 GE432)))
    replace HO429 := mA (Kd.S_elder' (rTS HO429) (Kd.S_base ho0) hb)
    replace BK419 := kB BK419 hb
    replace BK432 := kB BK432 hb
    replace HB := mA (below_step (bT2 HB GE419 GE432) hb)
    (try clear hb)
    (try clear hb2)
    (try clear hk)
    (try clear hi)
    (try clear ho0)
    obtain ⟨Ao31, co31, eo31⟩ := Kd.S_slice HO436.out
    (first | subst eo31 | (injection eo31 with f1_ f2_ f3_; have f4_ := f1_.symm; have f5_ := f3_.symm; clear f1_ f2_ f3_; subst f4_; subst f5_))
    refine hK.out _ _ ⟨(blk_cell BK432.out 0).trans rfl, (blk_cell BK432.out 1).trans rfl, (blk_cell BK432.out 2).trans rfl, (blk_cell BK419.out 0).trans rfl, (blk_cell BK419.out 1).trans rfl, (blk_cell BK419.out 2).trans rfl⟩ (fun hHeld => ?_)
    clear hK K
    refine norm_ (a' := ?_) ?_ ?_
    rotate_left
    ·
     show Act.put _ (some 24) _ = _
     simp only [Act.put, List.setIfInBounds_toArray, List.set_cons_zero, List.set_cons_succ, i64_w, i32_w]
     rfl
    refine one_ (i := 3) (N := some 25) #[true, true, true, true, false] rfl rfl (by kernel_rfl) (by decide) (fun K hK => ?_)
    refine goes_ Try.func24 (by kernel_rfl) rfl #[.agg #[.slice Ao25 t427.length co25, .int .i64 t430, .bool t431], .agg #[.slice Ao31 t434.length co31, .int .i64 t437, .bool t438]] (by rfl) rfl rfl mT ?_
    with_reducible refine (laws_eqAggregator.calls k _ _ t427 t430 t431 _ _ t434 t437 t438 true _ ?side1 ?side2 ?side3 ?side4 A13.out).mono ?_
    (case side1 => exact cT ((Kd.S_reads' HO429.out).2.2))
    (case side2 => exact (Kd.S_reads' HO429.out).2.1)
    (case side3 => exact cT ((Kd.S_reads' HO436.out).2.2))
    (case side4 => exact (Kd.S_reads' HO436.out).2.1)
    rintro e w32 ⟨rfl, hb⟩
    refine ⟨_, rfl, ?_⟩
    replace BK419 := kB BK419 hb
    replace BK432 := kB BK432 hb
    replace HB := mA (below_step (bT2 HB GE419 GE432) hb)
    (try clear hb)
    (try clear hb2)
    (try clear hk)
    (try clear hi)
    refine hK.out _ _ ⟨(blk_cell BK432.out 0).trans rfl, (blk_cell BK432.out 1).trans rfl, (blk_cell BK432.out 2).trans rfl, (blk_cell BK419.out 0).trans rfl, (blk_cell BK419.out 1).trans rfl, (blk_cell BK419.out 2).trans rfl⟩ (fun hHeld => ?_)
    clear hK K
    refine norm_ (a' := ?_) ?_ ?_
    rotate_left
    ·
     show Act.put _ (some 25) _ = _
     simp only [Act.put, List.setIfInBounds_toArray, List.set_cons_zero, List.set_cons_succ, i64_w, i32_w]
     rfl
    refine pureT (i := 4) (N := some 26) #[true, true, true, true, true] (by kernel_rfl) ?_
    refine done_ (by kernel_rfl) ?_
    try go_wp2
    go_ret
    exact ⟨eT, bT2 HB GE419 GE432⟩
   ·
    replace c14 := Bool.eq_false_iff.mpr c14
    subst c14
    rw [if_neg (show ¬ (false = true) by decide)] at H
    exact absurd ((Option.some.inj H).trans HT.out) (by simp)
  ·
   rw [if_neg c11] at H
   have c11b0 : (t433.toList == t426.toList) = false := beq_eq_false_iff_ne.mpr c11
   have c11b1 : (t433.toList != t426.toList) = true := bne_iff_ne.mpr c11
   exact absurd ((Option.some.inj H).trans HT.out) (by simp)

end Go.Proofs.Ytnllplklggoabaa.P
