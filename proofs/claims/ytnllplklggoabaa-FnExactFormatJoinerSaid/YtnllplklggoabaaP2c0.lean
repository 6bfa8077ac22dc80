/- Written by tools/seatprint.py over the translation. Lean checks it. -/
import Derived.Test.YtnllplklggoabaaP0
import Derived.Test.YtnllplklggoabaaP22c0
import Derived.Test.YtnllplklggoabaaP6ac0
import Derived.Test.YtnllplklggoabaaP6fc0
import Derived.Test.YtnllplklggoabaaP7fc0
import Derived.Test.YtnllplklggoabaaPac0
namespace Go.Proofs.Ytnllplklggoabaa.P
open Go.RowKit Go.Proofs.YtnllplklggoabaaW.PrintWords Go.Proofs.YtnllplklggoabaaW.PrintLast Go.Proofs.YtnllplklggoabaaW.PrintMore
attribute [local go_sem] max2_int min2_int max_two min_two max_three min_three max_four min_four
set_option linter.unusedVariables false
set_option linter.unusedSimpArgs false

/-! ### laws_szTaskS: function 64 -/
def laws_szTaskS.l0 : Nat → List (S32) → Int → Int → Option (Int)
 | 0, _, _, _ => none
 | k + 1, x0, x1, x5 => if x5 < (x0.length : Int) then (if 0 ≤ x5 then ((laws_szTask.f ((rd_T32 x0 x5).f0) ((rd_T32 x0 x5).f1) ((rd_T32 x0 x5).f2) ((rd_T32 x0 x5).f3) ((rd_T32 x0 x5).f4) x1).bind fun t441 => (if t441 < 0 then (some (-1)) else (laws_szTaskS.l0 k x0 t441 (wrap64 (x5 + 1))))) else (none)) else (some x1)
def laws_szTaskS.f (k : Nat) (l0 : List (S32)) (a1 : Int) : Option (Int) := if (wrap64 (a1 - (l0.length : Int))) < 0 then (some (-1)) else (laws_szTaskS.l0 k l0 (wrap64 (a1 - (l0.length : Int))) 0)
theorem laws_szTaskS.mono_l : ∀ k, (∀ y0 y1 y2, LeO (laws_szTaskS.l0 k y0 y1 y2) (laws_szTaskS.l0 (k + 1) y0 y1 y2))
 | 0 => fun _ _ _ r h => by simp [laws_szTaskS.l0] at h
 | k + 1 => by
  have ih0 := laws_szTaskS.mono_l k
  ·
   intro y0 y1 y2
   unfold laws_szTaskS.l0
   repeat' first
   | (with_reducible exact ih0 _ _ _)
   | (with_reducible exact LeO.refl _)
   | (with_reducible exact LeO.none _)
   | (with_reducible refine LeO.ite ?_ ?_)
   | (with_reducible refine LeO.bind ?_ (fun _ => ?_))
   | exact ih0 _ _ _
   | exact LeO.none _
   | refine LeO.ite ?_ ?_
   | refine LeO.bind ?_ (fun _ => ?_)
theorem laws_szTaskS.mono : ∀ a0 a1 k, LeO (laws_szTaskS.f k a0 a1) (laws_szTaskS.f (k + 1) a0 a1) := by
 intro a0 a1 k
 have ih0 := laws_szTaskS.mono_l k
 unfold laws_szTaskS.f
 repeat' first
   | (with_reducible exact ih0 _ _ _)
   | (with_reducible exact LeO.refl _)
   | (with_reducible exact LeO.none _)
   | (with_reducible refine LeO.ite ?_ ?_)
   | (with_reducible refine LeO.bind ?_ (fun _ => ?_))
   | exact ih0 _ _ _
   | exact LeO.none _
   | refine LeO.ite ?_ ?_
   | refine LeO.bind ?_ (fun _ => ?_)
set_option maxHeartbeats 8000000 in
set_option maxRecDepth 100000 in
theorem laws_szTaskS.calls (k : Nat) (A0 : Option Addr) (c0 : Nat) (l0 : List (S32)) (a1 : Int) (r : Int) (w : World) (hr0 : Kd.C k32 w A0 l0.length l0) (hc0 : l0.length ≤ c0) (h : laws_szTaskS.f k l0 a1 = some r) :
  Calls Try.prog 64 #[.slice A0 l0.length c0, .int .i64 a1] w fun e w' => e = .returned (.int .i64 r) ∧ Below w.heap.size w w' := by
 have hu32 := Try.underlying32
 have HR0 := mA hr0
 have HC0 := mA hc0
 clear hr0 hc0
 have HB := mA (Below.refl w.heap.size w)
 have H : (if (wrap64 (a1 - (l0.length : Int))) < 0 then (some (-1)) else (laws_szTaskS.l0 k l0 (wrap64 (a1 - (l0.length : Int))) 0)) = some r := h
 clear h
 by_cases c3 : (wrap64 (a1 - (l0.length : Int))) < 0
 ·
  rw [if_pos c3] at H
  have c3b0 : decide ((wrap64 (a1 - (l0.length : Int))) < 0) = true := decide_eq_true c3
  clear c3
  obtain rfl := Option.some.inj H
  go_enter Try.func64, Try.ntmps64
  go_wp2
  go_ret
  exact ⟨eT, bT HB⟩
 ·
  rw [if_neg c3] at H
  have c3b0 : decide ((wrap64 (a1 - (l0.length : Int))) < 0) = false := decide_eq_false c3
  clear c3
  have H' := mA H
  clear H
  go_enter Try.func64, Try.ntmps64
  go_wp2
  go_loopg [1, 5] k (fun kq v1 v5 w' => ∃ (x1_1 : Int) (x5_1 : Int), v1 = .int .i64 x1_1 ∧ v5 = .int .i64 x5_1 ∧ Aside0 (laws_szTaskS.l0 kq l0 x1_1 x5_1 = some r) ∧ Aside0 (kq ≤ k) ∧ Aside0 (Below w.heap.size w w'))
  case atStart => exact ⟨(wrap64 (a1 - (l0.length : Int))), (0), sT, sT, H', ⟨Nat.le_refl _⟩, ⟨bT HB⟩⟩
  case round =>
   clear H'
   try clear p2
   try clear c3
   try clear c3b0
   obtain ⟨x1_1, x5_1, rfl, rfl, HA, HK1, HB⟩ := hrel
   cases gk with
   | zero => exact absurd HA.out (by simp [laws_szTaskS.l0])
   | succ k1 =>
    have H := HA.out
    clear HA
    simp only [laws_szTaskS.l0] at H
    by_cases c4 : x5_1 < (l0.length : Int)
    ·
     rw [if_pos c4] at H
     have c4b0 : decide (x5_1 < (l0.length : Int)) = true := decide_eq_true c4
     clear c4
     by_cases c5 : 0 ≤ x5_1
     ·
      rw [if_pos c5] at H
      have c5b0 : decide (0 ≤ x5_1) = true := decide_eq_true c5
      clear c5
      obtain ⟨t441, A6, H⟩ := Option.bind_eq_some_iff.mp H
      replace A6 := mA A6
      try dsimp only at H
      by_cases c7 : t441 < 0
      ·
       rw [if_pos c7] at H
       have c7b0 : decide (t441 < 0) = true := decide_eq_true c7
       clear c7
       obtain rfl := Option.some.inj H
       have p440 : 0 ≤ (x5_1 : Int) := of_decide_eq_true aT
       have q440 : x5_1 < (l0.length : Int) := of_decide_eq_true aT
       obtain ⟨ad440, A440_1, c440_1, A440_2, c440_2, A440_3, c440_3, e440, hx440_0, hx440_1, hx440_2, hx440_3, hx440_4, hl440_1, hi440_1, hl440_2, hi440_2, hl440_3, hi440_3⟩ := at_T32 HR0.out x5_1 p440 q440
       cases e440
       replace hx440_0 := (HB.out.cell (World.block_lt_of_cell? w _ hx440_0)).trans hx440_0
       replace hx440_1 := (HB.out.cell (World.block_lt_of_cell? w _ hx440_1)).trans hx440_1
       replace hx440_2 := (HB.out.cell (World.block_lt_of_cell? w _ hx440_2)).trans hx440_2
       replace hx440_3 := (HB.out.cell (World.block_lt_of_cell? w _ hx440_3)).trans hx440_3
       replace hx440_4 := (HB.out.cell (World.block_lt_of_cell? w _ hx440_4)).trans hx440_4
       have HR440_1 := mA hi440_1
       have HC440_1 := mA hl440_1
       clear hi440_1 hl440_1
       have HR440_2 := mA hi440_2
       have HC440_2 := mA hl440_2
       clear hi440_2 hl440_2
       have HR440_3 := mA hi440_3
       have HC440_3 := mA hl440_3
       clear hi440_3 hl440_3
       replace p440 := eq_true p440
       replace q440 := eq_true q440
       go_wp2_with (first | ((with_reducible refine gate_callee (f := 15) rfl ?_); refine goesT (some 23) Try.func15 #[.agg #[.int .i64 ((rd_T32 l0 x5_1).f0), .slice A440_1 ((rd_T32 l0 x5_1).f1).length c440_1, .slice A440_2 ((rd_T32 l0 x5_1).f2).length c440_2, .slice A440_3 ((rd_T32 l0 x5_1).f3).length c440_3, .int .i64 ((rd_T32 l0 x5_1).f4)], .int .i64 x1_1] ?_; (with_reducible refine (laws_szTask.calls ((rd_T32 l0 x5_1).f0) _ _ ((rd_T32 l0 x5_1).f1) _ _ ((rd_T32 l0 x5_1).f2) _ _ ((rd_T32 l0 x5_1).f3) ((rd_T32 l0 x5_1).f4) x1_1 t441 _ ?side1 ?side2 ?side3 ?side4 ?side5 ?side6 A6.out).mono ?_); (case side1 => exact cT (Kd.C_below HR440_1.out HB.out)); (case side2 => exact HC440_1.out); (case side3 => exact cT (Kd.C_below HR440_2.out HB.out)); (case side4 => exact HC440_2.out); (case side5 => exact cT (Kd.C_below HR440_3.out HB.out)); (case side6 => exact HC440_3.out); rintro e w8 ⟨rfl, hb⟩; refine ⟨_, rfl, ?_⟩; replace HB := mA (below_step (bT HB) hb); (try clear hb)))
       go_ret
       exact ⟨eT, bT HB⟩
      ·
       rw [if_neg c7] at H
       have c7b0 : decide (t441 < 0) = false := decide_eq_false c7
       clear c7
       have H' := mA H
       clear H
       have p440 : 0 ≤ (x5_1 : Int) := of_decide_eq_true aT
       have q440 : x5_1 < (l0.length : Int) := of_decide_eq_true aT
       obtain ⟨ad440, A440_1, c440_1, A440_2, c440_2, A440_3, c440_3, e440, hx440_0, hx440_1, hx440_2, hx440_3, hx440_4, hl440_1, hi440_1, hl440_2, hi440_2, hl440_3, hi440_3⟩ := at_T32 HR0.out x5_1 p440 q440
       cases e440
       replace hx440_0 := (HB.out.cell (World.block_lt_of_cell? w _ hx440_0)).trans hx440_0
       replace hx440_1 := (HB.out.cell (World.block_lt_of_cell? w _ hx440_1)).trans hx440_1
       replace hx440_2 := (HB.out.cell (World.block_lt_of_cell? w _ hx440_2)).trans hx440_2
       replace hx440_3 := (HB.out.cell (World.block_lt_of_cell? w _ hx440_3)).trans hx440_3
       replace hx440_4 := (HB.out.cell (World.block_lt_of_cell? w _ hx440_4)).trans hx440_4
       have HR440_1 := mA hi440_1
       have HC440_1 := mA hl440_1
       clear hi440_1 hl440_1
       have HR440_2 := mA hi440_2
       have HC440_2 := mA hl440_2
       clear hi440_2 hl440_2
       have HR440_3 := mA hi440_3
       have HC440_3 := mA hl440_3
       clear hi440_3 hl440_3
       replace p440 := eq_true p440
       replace q440 := eq_true q440
       go_wp2_with (first | ((with_reducible refine gate_callee (f := 15) rfl ?_); refine goesT (some 23) Try.func15 #[.agg #[.int .i64 ((rd_T32 l0 x5_1).f0), .slice A440_1 ((rd_T32 l0 x5_1).f1).length c440_1, .slice A440_2 ((rd_T32 l0 x5_1).f2).length c440_2, .slice A440_3 ((rd_T32 l0 x5_1).f3).length c440_3, .int .i64 ((rd_T32 l0 x5_1).f4)], .int .i64 x1_1] ?_; (with_reducible refine (laws_szTask.calls ((rd_T32 l0 x5_1).f0) _ _ ((rd_T32 l0 x5_1).f1) _ _ ((rd_T32 l0 x5_1).f2) _ _ ((rd_T32 l0 x5_1).f3) ((rd_T32 l0 x5_1).f4) x1_1 t441 _ ?side1 ?side2 ?side3 ?side4 ?side5 ?side6 A6.out).mono ?_); (case side1 => exact cT (Kd.C_below HR440_1.out HB.out)); (case side2 => exact HC440_1.out); (case side3 => exact cT (Kd.C_below HR440_2.out HB.out)); (case side4 => exact HC440_2.out); (case side5 => exact cT (Kd.C_below HR440_3.out HB.out)); (case side6 => exact HC440_3.out); rintro e w9 ⟨rfl, hb⟩; refine ⟨_, rfl, ?_⟩; replace HB := mA (below_step (bT HB) hb); (try clear hb)))
       go_roundg k1
       case measure => have := HK1.out; omega
       case rel => exact ⟨(t441), (wrap64 (x5_1 + 1)), sT, sT, H', ⟨by have := HK1.out; omega⟩, ⟨bT HB⟩⟩
     ·
      rw [if_neg c5] at H
      exact absurd H (by simp)
    ·
     rw [if_neg c4] at H
     have c4b0 : decide (x5_1 < (l0.length : Int)) = false := decide_eq_false c4
     clear c4
     obtain rfl := Option.some.inj H
     go_wp2
     go_ret
     exact ⟨eT, bT HB⟩

/-! ### laws_szJoiner: function 25 -/
def laws_szJoiner.f (k : Nat) (l0_0 : List (S32)) (a0_1 : Int) (a0_2 : Int) (a1 : Int) : Option (Int) := (laws_szTaskS.f k l0_0 a1).bind fun t443 => (if t443 < 0 then (some (-1)) else (some t443))
theorem laws_szJoiner.mono : ∀ a0 a1 a2 a3 k, LeO (laws_szJoiner.f k a0 a1 a2 a3) (laws_szJoiner.f (k + 1) a0 a1 a2 a3) := by
 intro a0 a1 a2 a3 k
 unfold laws_szJoiner.f
 repeat' first
   | (with_reducible exact laws_szTaskS.mono _ _ _)
   | (with_reducible exact LeO.refl _)
   | (with_reducible exact LeO.none _)
   | (with_reducible refine LeO.ite ?_ ?_)
   | (with_reducible refine LeO.bind ?_ (fun _ => ?_))
   | exact laws_szTaskS.mono _ _ _
   | exact LeO.none _
   | refine LeO.ite ?_ ?_
   | refine LeO.bind ?_ (fun _ => ?_)
set_option maxHeartbeats 8000000 in
set_option maxRecDepth 100000 in
theorem laws_szJoiner.calls (k : Nat) (A0_0 : Option Addr) (c0_0 : Nat) (l0_0 : List (S32)) (a0_1 : Int) (a0_2 : Int) (a1 : Int) (r : Int) (w : World) (hr0_0 : Kd.C k32 w A0_0 l0_0.length l0_0) (hc0_0 : l0_0.length ≤ c0_0) (h : laws_szJoiner.f k l0_0 a0_1 a0_2 a1 = some r) :
  Calls Try.prog 25 #[.agg #[.slice A0_0 l0_0.length c0_0, .int .i64 a0_1, .int .i64 a0_2], .int .i64 a1] w fun e w' => e = .returned (.int .i64 r) ∧ Below w.heap.size w w' := by
 have hu54 := Try.underlying54
 have HR0_0 := mA hr0_0
 have HC0_0 := mA hc0_0
 clear hr0_0 hc0_0
 have HB := mA (Below.refl w.heap.size w)
 have H : ((laws_szTaskS.f k l0_0 a1).bind fun t443 => (if t443 < 0 then (some (-1)) else (some t443))) = some r := h
 clear h
 obtain ⟨t443, A3, H⟩ := Option.bind_eq_some_iff.mp H
 replace A3 := mA A3
 replace H : (if t443 < 0 then (some (-1)) else (some t443)) = some r := H
 by_cases c4 : t443 < 0
 ·
  rw [if_pos c4] at H
  have c4b0 : decide (t443 < 0) = true := decide_eq_true c4
  clear c4
  obtain rfl := Option.some.inj H
  go_enter Try.func25, Try.ntmps25
  go_wp2_with (first | ((with_reducible refine gate_dst (N := 2) rfl ?_); refine boxT 2 #[.slice A0_0 l0_0.length c0_0, .int .i64 a0_1, .int .i64 a0_2] 54 ?_; intro gb442 hg w5 hbox hb; have BK442 := mA (hbox); have GW442 := mA ((by rw [hg]; exact (below_size (bT HB)) : w.heap.size ≤ gb442)); have GE442 := GW442; replace HB := mA (below_step (bT HB) hb); clear hb hbox hg; obtain ⟨hcz6_0, hcz6_1, hcz6_2, hfz6_0, hfz6_1, hfz6_2⟩ := blk3 BK442.out) | ((with_reducible refine gate_callee (f := 64) rfl ?_); refine goesT (some 8) Try.func64 #[.slice A0_0 l0_0.length c0_0, .int .i64 a1] ?_; (with_reducible refine (laws_szTaskS.calls k _ _ l0_0 a1 t443 _ ?side1 ?side2 A3.out).mono ?_); (case side1 => exact cT (Kd.C_below HR0_0.out HB.out)); (case side2 => exact HC0_0.out); rintro e w7 ⟨rfl, hb⟩; refine ⟨_, rfl, ?_⟩; replace HB := mA (below_step (bT1 HB GE442) hb); (try clear hb)))
  go_ret
  exact ⟨eT, bT1 HB GE442⟩
 ·
  rw [if_neg c4] at H
  have c4b0 : decide (t443 < 0) = false := decide_eq_false c4
  clear c4
  obtain rfl := Option.some.inj H
  go_enter Try.func25, Try.ntmps25
  go_wp2_with (first | ((with_reducible refine gate_dst (N := 2) rfl ?_); refine boxT 2 #[.slice A0_0 l0_0.length c0_0, .int .i64 a0_1, .int .i64 a0_2] 54 ?_; intro gb442 hg w8 hbox hb; have BK442 := mA (hbox); have GW442 := mA ((by rw [hg]; exact (below_size (bT HB)) : w.heap.size ≤ gb442)); have GE442 := GW442; replace HB := mA (below_step (bT HB) hb); clear hb hbox hg; obtain ⟨hcz9_0, hcz9_1, hcz9_2, hfz9_0, hfz9_1, hfz9_2⟩ := blk3 BK442.out) | ((with_reducible refine gate_callee (f := 64) rfl ?_); refine goesT (some 8) Try.func64 #[.slice A0_0 l0_0.length c0_0, .int .i64 a1] ?_; (with_reducible refine (laws_szTaskS.calls k _ _ l0_0 a1 t443 _ ?side1 ?side2 A3.out).mono ?_); (case side1 => exact cT (Kd.C_below HR0_0.out HB.out)); (case side2 => exact HC0_0.out); rintro e w10 ⟨rfl, hb⟩; refine ⟨_, rfl, ?_⟩; replace HB := mA (below_step (bT1 HB GE442) hb); (try clear hb)))
  go_ret
  exact ⟨eT, bT1 HB GE442⟩

/-! ### laws_toTaskS: function 66 -/
def laws_toTaskS.l0 : Nat → List (S32) → List (S37) → Int → Option ((List (S37)))
 | 0, _, _, _ => none
 | k + 1, x0, x3, x4 => if x4 < (x0.length : Int) then (if 0 ≤ x4 then ((laws_toTask.f k ((rd_T32 x0 x4).f0) ((rd_T32 x0 x4).f1) ((rd_T32 x0 x4).f2) ((rd_T32 x0 x4).f3) ((rd_T32 x0 x4).f4)).bind fun bt463 => (if x4 < (x3.length : Int) then (laws_toTaskS.l0 k x0 (x3.set (x4 : Int).toNat (⟨bt463.1, bt463.2.1, bt463.2.2.1, bt463.2.2.2.1, bt463.2.2.2.2⟩ : S37)) (wrap64 (x4 + 1))) else (none))) else (none)) else (some x3)
def laws_toTaskS.f (k : Nat) (l0 : List (S32)) : Option ((List (S37))) := if 0 ≤ (l0.length : Int) then (if ((l0.length : Int) : Int).toNat ≤ 3198579280802 then (laws_toTaskS.l0 k l0 (List.replicate ((l0.length : Int) : Int).toNat z37) 0) else (none)) else (none)
theorem laws_toTaskS.mono_l : ∀ k, (∀ y0 y1 y2, LeO (laws_toTaskS.l0 k y0 y1 y2) (laws_toTaskS.l0 (k + 1) y0 y1 y2))
 | 0 => fun _ _ _ r h => by simp [laws_toTaskS.l0] at h
 | k + 1 => by
  have ih0 := laws_toTaskS.mono_l k
  ·
   intro y0 y1 y2
   unfold laws_toTaskS.l0
   repeat' first
   | (with_reducible exact ih0 _ _ _)
   | (with_reducible exact laws_toTask.mono _ _ _ _ _ _)
   | (with_reducible exact LeO.refl _)
   | (with_reducible exact LeO.none _)
   | (with_reducible refine LeO.ite ?_ ?_)
   | (with_reducible refine LeO.bind ?_ (fun _ => ?_))
   | exact ih0 _ _ _
   | exact laws_toTask.mono _ _ _ _ _ _
   | exact LeO.none _
   | refine LeO.ite ?_ ?_
   | refine LeO.bind ?_ (fun _ => ?_)
theorem laws_toTaskS.mono : ∀ a0 k, LeO (laws_toTaskS.f k a0) (laws_toTaskS.f (k + 1) a0) := by
 intro a0 k
 have ih0 := laws_toTaskS.mono_l k
 unfold laws_toTaskS.f
 repeat' first
   | (with_reducible exact ih0 _ _ _)
   | (with_reducible exact laws_toTask.mono _ _ _ _ _ _)
   | (with_reducible exact LeO.refl _)
   | (with_reducible exact LeO.none _)
   | (with_reducible refine LeO.ite ?_ ?_)
   | (with_reducible refine LeO.bind ?_ (fun _ => ?_))
   | exact ih0 _ _ _
   | exact laws_toTask.mono _ _ _ _ _ _
   | exact LeO.none _
   | refine LeO.ite ?_ ?_
   | refine LeO.bind ?_ (fun _ => ?_)
set_option maxHeartbeats 8000000 in
set_option maxRecDepth 100000 in
theorem laws_toTaskS.calls (k : Nat) (A0 : Option Addr) (c0 : Nat) (l0 : List (S32)) (r : List (S37)) (w : World) (hr0 : Kd.C k32 w A0 l0.length l0) (hc0 : l0.length ≤ c0) (h : laws_toTaskS.f k l0 = some r) :
  Calls Try.prog 66 #[.slice A0 l0.length c0] w fun e w' => ∃ v0_ : Value, e = .returned (v0_) ∧ Kd.S k37 37 w' w.heap.size (fun _ => True) v0_ r ∧ Below w.heap.size w w' := by
 have hu32 := Try.underlying32
 have hu37 := Try.underlying37
 have HR0 := mA hr0
 have HC0 := mA hc0
 clear hr0 hc0
 have HB := mA (Below.refl w.heap.size w)
 have H : (if 0 ≤ (l0.length : Int) then (if ((l0.length : Int) : Int).toNat ≤ 3198579280802 then (laws_toTaskS.l0 k l0 (List.replicate ((l0.length : Int) : Int).toNat z37) 0) else (none)) else (none)) = some r := h
 clear h
 by_cases c2 : 0 ≤ (l0.length : Int)
 ·
  rw [if_pos c2] at H
  have c2b0 := eq_true c2
  have c2b1 : decide (0 ≤ (l0.length : Int)) = true := decide_eq_true c2
  clear c2
  by_cases c3 : ((l0.length : Int) : Int).toNat ≤ 3198579280802
  ·
   rw [if_pos c3] at H
   have c3b0 := eq_true c3
   have c3b1 : decide (((l0.length : Int) : Int).toNat ≤ 3198579280802) = true := decide_eq_true c3
   clear c3
   obtain ⟨y459, hy459⟩ : ∃ y_ : List (S37), y_ = (List.replicate ((l0.length : Int) : Int).toNat z37) := ⟨_, rfl⟩
   replace H : (laws_toTaskS.l0 k l0 y459 0) = some r := by first | (rw [hy459]; with_reducible exact H) | (have H2_ := (Option.bind_some _ _).symm.trans H; rw [hy459]; with_reducible exact H2_) | (have H2_ := (Option.bind_some _ _).symm.trans H; with_reducible exact H2_) | with_reducible exact H | (rw [hy459]; exact H) | exact H
   have Ny459 := mA hy459
   clear hy459
   have H' := mA H
   clear H
   go_enter Try.func66, Try.ntmps66
   go_wp2_with (first | ((with_reducible refine gate_dst (N := 7) rfl ?_); refine Kd.S_make k37 _ 37 rfl (N := 7) rfl 57 _ _ rfl (l0.length : Int) rfl rfl Try.underlying57 (.agg #[(.int .i64 0), (.slice none 0 0), (.slice none 0 0), (.slice none 0 0), (.int .i64 0)]) 88 info37 rfl (by decide) (by omega) z37 (ok := fun _ => True) (okp := fun _ => True) (k37_mkM _ _ _ z37 (Kd.R_nil _ _ _ _ _) (Kd.R_nil _ _ _ _ _) (Kd.R_nil _ _ _ _ _)) (fun _ hk => hk) trivial (of_decide_eq_true aT) (Nat.le_trans (Nat.mul_le_mul_right _ (of_decide_eq_true aT : (l0.length : Int).toNat ≤ 3198579280802)) (by omega)) (Below.refl _ _) (Nat.le_refl _) ?_; intro v460 w4 ho5 hb hg_ hnew_; clear hg_ hnew_; (first | rw [← Ny459.out] at ho5 | (simp only [Int.reduceToNat] at ho5; rw [← Ny459.out] at ho5)); have HO461 := mA (Kd.S_lower ho5 (below_size (bT HB))); replace HB := mA (below_step (bT HB) hb); clear hb ho5))
   go_loopg [4] k (fun kq v4 w' => ∃ (x3_1 : List (S37)) (x4_1 : Int), v4 = .int .i64 x4_1 ∧ Aside0 (laws_toTaskS.l0 kq l0 x3_1 x4_1 = some r) ∧ Aside0 (kq ≤ k) ∧ Aside0 (Kd.S k37 37 w' w.heap.size (fun _ => True) v460 x3_1) ∧ Aside0 (Below w.heap.size w w'))
   case atStart => exact ⟨(y459), (0), sT, H', ⟨Nat.le_refl _⟩, ⟨rTS HO461⟩, ⟨bT HB⟩⟩
   case round =>
    clear H'
    try clear c2
    try clear c2b0
    try clear c2b1
    try clear p2
    try clear c3
    try clear c3b0
    try clear c3b1
    obtain ⟨x3_1, x4_1, rfl, HA, HK1, HO_3, HB⟩ := hrel
    cases gk with
    | zero => exact absurd HA.out (by simp [laws_toTaskS.l0])
    | succ k1 =>
     have H := HA.out
     clear HA
     simp only [laws_toTaskS.l0] at H
     by_cases c6 : x4_1 < (l0.length : Int)
     ·
      rw [if_pos c6] at H
      have c6b0 : decide (x4_1 < (l0.length : Int)) = true := decide_eq_true c6
      clear c6
      by_cases c7 : 0 ≤ x4_1
      ·
       rw [if_pos c7] at H
       have c7b0 : decide (0 ≤ x4_1) = true := decide_eq_true c7
       clear c7
       obtain ⟨⟨t463, t464, t467, t470, t473⟩, A8, H⟩ := Option.bind_eq_some_iff.mp H
       replace A8 := mA A8
       try dsimp only at H
       by_cases c9 : x4_1 < (x3_1.length : Int)
       ·
        rw [if_pos c9] at H
        have c9b0 : decide (x4_1 < (x3_1.length : Int)) = true := decide_eq_true c9
        clear c9
        obtain ⟨y474, hy474⟩ : ∃ y_ : List (S37), y_ = (x3_1.set (x4_1 : Int).toNat (⟨t463, t464, t467, t470, t473⟩ : S37)) := ⟨_, rfl⟩
        replace H : (laws_toTaskS.l0 k1 l0 y474 (wrap64 (x4_1 + 1))) = some r := by first | (rw [hy474]; with_reducible exact H) | (have H2_ := (Option.bind_some _ _).symm.trans H; rw [hy474]; with_reducible exact H2_) | (have H2_ := (Option.bind_some _ _).symm.trans H; with_reducible exact H2_) | with_reducible exact H | (rw [hy474]; exact H) | exact H
        have Ny474 := mA hy474
        clear hy474
        have H' := mA H
        clear H
        have p462 : 0 ≤ (x4_1 : Int) := of_decide_eq_true aT
        have q462 : x4_1 < (l0.length : Int) := of_decide_eq_true aT
        obtain ⟨ad462, A462_1, c462_1, A462_2, c462_2, A462_3, c462_3, e462, hx462_0, hx462_1, hx462_2, hx462_3, hx462_4, hl462_1, hi462_1, hl462_2, hi462_2, hl462_3, hi462_3⟩ := at_T32 HR0.out x4_1 p462 q462
        cases e462
        replace hx462_0 := (HB.out.cell (World.block_lt_of_cell? w _ hx462_0)).trans hx462_0
        replace hx462_1 := (HB.out.cell (World.block_lt_of_cell? w _ hx462_1)).trans hx462_1
        replace hx462_2 := (HB.out.cell (World.block_lt_of_cell? w _ hx462_2)).trans hx462_2
        replace hx462_3 := (HB.out.cell (World.block_lt_of_cell? w _ hx462_3)).trans hx462_3
        replace hx462_4 := (HB.out.cell (World.block_lt_of_cell? w _ hx462_4)).trans hx462_4
        have HR462_1 := mA hi462_1
        have HC462_1 := mA hl462_1
        clear hi462_1 hl462_1
        have HR462_2 := mA hi462_2
        have HC462_2 := mA hl462_2
        clear hi462_2 hl462_2
        have HR462_3 := mA hi462_3
        have HC462_3 := mA hl462_3
        clear hi462_3 hl462_3
        replace p462 := eq_true p462
        replace q462 := eq_true q462
        go_wp2_with (first | ((with_reducible refine gate_callee (f := 17) rfl ?_); refine goesT (some 20) Try.func17 #[.agg #[.int .i64 ((rd_T32 l0 x4_1).f0), .slice A462_1 ((rd_T32 l0 x4_1).f1).length c462_1, .slice A462_2 ((rd_T32 l0 x4_1).f2).length c462_2, .slice A462_3 ((rd_T32 l0 x4_1).f3).length c462_3, .int .i64 ((rd_T32 l0 x4_1).f4)]] ?_; (with_reducible refine (laws_toTask.calls k1 ((rd_T32 l0 x4_1).f0) _ _ ((rd_T32 l0 x4_1).f1) _ _ ((rd_T32 l0 x4_1).f2) _ _ ((rd_T32 l0 x4_1).f3) ((rd_T32 l0 x4_1).f4) t463 t464 t467 t470 t473 _ ?side1 ?side2 ?side3 ?side4 ?side5 ?side6 A8.out).mono ?_); (case side1 => exact cT (Kd.C_below HR462_1.out HB.out)); (case side2 => exact HC462_1.out); (case side3 => exact cT (Kd.C_below HR462_2.out HB.out)); (case side4 => exact HC462_2.out); (case side5 => exact cT (Kd.C_below HR462_3.out HB.out)); (case side6 => exact HC462_3.out); rintro e w11 ⟨v465, v468, v471, rfl, ho0, ho1, ho2, hb⟩; refine ⟨_, rfl, ?_⟩; replace HO_3 := mA (Kd.S_mono (Kd.S_told (Kd.S_told (Kd.S_told (Kd.S_old (rTS HO_3) hb) (Kd.R_base ho0)) (Kd.R_base ho1)) (Kd.R_base ho2)) (fun _ h_ => h_.1)); have HO466 := mA (Kd.R_lower ho0 (below_size (bT HB))); have HO469 := mA (Kd.R_lower ho1 (below_size (bT HB))); have HO472 := mA (Kd.R_lower ho2 (below_size (bT HB))); replace HB := mA (below_step (bT HB) hb); (try clear hb); (try clear hk); (try clear ho0); (try clear ho1); (try clear ho2); have p10 : 0 ≤ (x4_1 : Int) := of_decide_eq_true aT; have q10 : (x4_1 : Int) < ((x3_1.length : Int) : Int) := of_decide_eq_true aT; obtain ⟨go10, co10, eo10, gb10, gl10, cl10, HG10⟩ := Kd.S_form HO_3.out (by omega); (first | cases eo10 | (injection eo10 with ea_ en_ ec_; (first | subst ea_ | (injection ea_ with ea_; subst ea_)); subst ec_; clear en_)); have GB10 := mA gb10; have GG10 := mA HG10; clear gb10 gl10 HG10; obtain ⟨_, ce10, hcl10, hM10, hcc10, hfr10, _, _⟩ := Kd.S_elem HO_3.out z37 (x4_1 : Int) p10 q10; obtain ⟨ve10_1, ve10_2, ve10_3, rfl, ge10_1, ge10_2, ge10_3⟩ := k37_openM hM10; have hx10_0 : w11.cell? ⟨go10, (x4_1 : Int).toNat * 5, none⟩ = some (.int .i64 ((rd_T37 x3_1 x4_1).f0)) := hcc10 0 _ rfl; have hx10_1 : w11.cell? ⟨go10, (x4_1 : Int).toNat * 5 + 1, none⟩ = some (ve10_1) := hcc10 1 _ rfl; have hx10_2 : w11.cell? ⟨go10, (x4_1 : Int).toNat * 5 + 2, none⟩ = some (ve10_2) := hcc10 2 _ rfl; have hx10_3 : w11.cell? ⟨go10, (x4_1 : Int).toNat * 5 + 3, none⟩ = some (ve10_3) := hcc10 3 _ rfl; have hx10_4 : w11.cell? ⟨go10, (x4_1 : Int).toNat * 5 + 4, none⟩ = some (.int .i64 ((rd_T37 x3_1 x4_1).f4)) := hcc10 4 _ rfl; have hf10_0 : w11.frozen? ⟨go10, (x4_1 : Int).toNat * 5, none⟩ = false := hfr10 0; have hf10_1 : w11.frozen? ⟨go10, (x4_1 : Int).toNat * 5 + 1, none⟩ = false := hfr10 1; have hf10_2 : w11.frozen? ⟨go10, (x4_1 : Int).toNat * 5 + 2, none⟩ = false := hfr10 2; have hf10_3 : w11.frozen? ⟨go10, (x4_1 : Int).toNat * 5 + 3, none⟩ = false := hfr10 3; have hf10_4 : w11.frozen? ⟨go10, (x4_1 : Int).toNat * 5 + 4, none⟩ = false := hfr10 4; clear hcl10 hcc10 hfr10 hM10; replace p10 := eq_true p10; replace q10 := eq_true q10; have n_ := mA (Kd.S_mono (ok' := (fun k_ => some k_ ≠ (v465 : Value).ownBlock ∧ some k_ ≠ (v468 : Value).ownBlock ∧ some k_ ≠ (v471 : Value).ownBlock)) HO_3.out (fun k_ hk => ⟨hk.1.1.2, ⟨hk.1.2, hk.2⟩⟩)); clear HO_3; have HO_3 := n_; clear n_; have HX12 := mA (show Kd.S k37 37 w11 w.heap.size (fun k_ => ((fun _ => True)) k_ ∧ ¬ ((fun k_ => some k_ = (v465 : Value).ownBlock ∨ some k_ = (v468 : Value).ownBlock ∨ some k_ = (v471 : Value).ownBlock)) k_) (.slice (some ⟨go10, 0, none⟩) x3_1.length co10) x3_1 from (by (with_reducible repeat (first | apply Kd.S_alloc | apply Kd.S_drewN | apply Kd.S_drew)); exact Kd.S_mono HO_3.out (fun k_ hk => ⟨trivial, fun e_ => e_.elim (fun h_ => hk.1 h_) (fun h_ => h_.elim (fun h_ => hk.2.1 h_) (fun h_ => hk.2.2 h_))⟩))); obtain ⟨oki12, ce12, hcl12, hM12, hcc12, hfr12, hoki12, hH12⟩ := Kd.S_elem HX12.out z37 (x4_1 : Int) (of_decide_eq_true aT) (by have h_ : (x4_1 : Int) < ((x3_1.length : Int) : Int) := of_decide_eq_true aT; first | exact h_ | (have e_ := (Kd.S_reads' HO_3.out).1; omega) | simpa using h_); obtain ⟨ve12_1, ve12_2, ve12_3, rfl, ge12_1, ge12_2, ge12_3⟩ := k37_openM hM12; have HP12 := Kd.S_seg hH12 (of_decide_eq_true aT) (by have h_ : (x4_1 : Int) < ((x3_1.length : Int) : Int) := of_decide_eq_true aT; first | exact h_ | (have e_ := (Kd.S_reads' HO_3.out).1; omega) | simpa using h_) (seg := [.int .i64 t463, v465, v468, v471, .int .i64 t473]) (j := 0) (show 5 ≤ 5 from by decide) (x' := (⟨t463, t464, t467, t470, t473⟩ : S37)) (k37_mkM _ _ _ (⟨t463, t464, t467, t470, t473⟩ : S37) (Kd.R_mono (Kd.R_tight rfl (Kd.R_mono (ok' := fun k_ => ((fun _ => True)) k_ ∧ k_ ≠ go10) (Kd.R_apart' (HO466.out) (Kd.S_typed HO_3.out) (by decide)) (fun k_ hk => ⟨trivial, fun e_ => (hk.2) (by rw [e_]; rfl)⟩))) (fun _ h_ => Or.inr (Or.inl h_))) (Kd.R_mono (Kd.R_tight rfl (Kd.R_mono (ok' := fun k_ => ((fun _ => True)) k_ ∧ k_ ≠ go10) (Kd.R_apart' (HO469.out) (Kd.S_typed HO_3.out) (by decide)) (fun k_ hk => ⟨trivial, fun e_ => (hk.2) (by rw [e_]; rfl)⟩))) (fun _ h_ => Or.inr (Or.inr (Or.inl h_)))) (Kd.R_mono (Kd.R_tight rfl (Kd.R_mono (ok' := fun k_ => ((fun _ => True)) k_ ∧ k_ ≠ go10) (Kd.R_apart' (HO472.out) (Kd.S_typed HO_3.out) (by decide)) (fun k_ hk => ⟨trivial, fun e_ => (hk.2) (by rw [e_]; rfl)⟩))) (fun _ h_ => Or.inr (Or.inr (Or.inr (h_)))))) (fun _ hk => hk) (fun k_ hk_ => hk_.elim (fun h_ => ((Kd.R_mono (ok' := fun k_ => ((fun _ => True)) k_ ∧ k_ ≠ go10) (Kd.R_apart' (HO466.out) (Kd.S_typed HO_3.out) (by decide)) (fun k_ hk => ⟨trivial, fun e_ => (hk.2) (by rw [e_]; rfl)⟩))).1 k_ h_.symm) (fun h_ => h_.elim (fun h_ => ((Kd.R_mono (ok' := fun k_ => ((fun _ => True)) k_ ∧ k_ ≠ go10) (Kd.R_apart' (HO469.out) (Kd.S_typed HO_3.out) (by decide)) (fun k_ hk => ⟨trivial, fun e_ => (hk.2) (by rw [e_]; rfl)⟩))).1 k_ h_.symm) (fun h_ => ((Kd.R_mono (ok' := fun k_ => ((fun _ => True)) k_ ∧ k_ ≠ go10) (Kd.R_apart' (HO472.out) (Kd.S_typed HO_3.out) (by decide)) (fun k_ hk => ⟨trivial, fun e_ => (hk.2) (by rw [e_]; rfl)⟩))).1 k_ h_.symm))); have hx12_0 := hcc12 0 _ rfl; (try simp only [show (k37).sz = 5 from rfl, Nat.mul_one, Nat.add_zero] at hx12_0); have hf12_0 := hfr12 0; (try simp only [show (k37).sz = 5 from rfl, Nat.mul_one, Nat.add_zero] at hf12_0); have hx12_1 := hcc12 1 _ rfl; (try simp only [show (k37).sz = 5 from rfl, Nat.mul_one, Nat.add_zero] at hx12_1); have hf12_1 := hfr12 1; (try simp only [show (k37).sz = 5 from rfl, Nat.mul_one, Nat.add_zero] at hf12_1); have hx12_2 := hcc12 2 _ rfl; (try simp only [show (k37).sz = 5 from rfl, Nat.mul_one, Nat.add_zero] at hx12_2); have hf12_2 := hfr12 2; (try simp only [show (k37).sz = 5 from rfl, Nat.mul_one, Nat.add_zero] at hf12_2); have hx12_3 := hcc12 3 _ rfl; (try simp only [show (k37).sz = 5 from rfl, Nat.mul_one, Nat.add_zero] at hx12_3); have hf12_3 := hfr12 3; (try simp only [show (k37).sz = 5 from rfl, Nat.mul_one, Nat.add_zero] at hf12_3); have hx12_4 := hcc12 4 _ rfl; (try simp only [show (k37).sz = 5 from rfl, Nat.mul_one, Nat.add_zero] at hx12_4); have hf12_4 := hfr12 4; (try simp only [show (k37).sz = 5 from rfl, Nat.mul_one, Nat.add_zero] at hf12_4); clear hcl12 hcc12 hfr12 hM12 hoki12 hH12) | ((with_reducible refine gate_store (t := 37) (p := 21) rfl ?_); refine store_event (t := 37) (p := 21) (v := ?vo_w13) (w1 := (((((w11.setCell ⟨go10, (x4_1 : Int).toNat * 5, none⟩ (.int .i64 t463)).setCell ⟨go10, (x4_1 : Int).toNat * 5 + 1, none⟩ (v465)).setCell ⟨go10, (x4_1 : Int).toNat * 5 + 2, none⟩ (v468)).setCell ⟨go10, (x4_1 : Int).toNat * 5 + 3, none⟩ (v471)).setCell ⟨go10, (x4_1 : Int).toNat * 5 + 4, none⟩ (.int .i64 t473))) ?hg ?ho ?hn ?hr ?_; (case ho => rfl); (case hg => rfl); (case hn => rfl); (case hr => obtain ⟨A_1, c_1, e_1⟩ := Kd.R_slice (HO466.out); (try rw [e_1]); obtain ⟨A_2, c_2, e_2⟩ := Kd.R_slice (HO469.out); (try rw [e_2]); obtain ⟨A_3, c_3, e_3⟩ := Kd.R_slice (HO472.out); (try rw [e_3]); first | (go_simp; done) | (go_simp; rfl)); intro w13 hw; have hg : w11.grownBy w13 (some go10) := (by rw [hw]; exact HP12.2); have hp_ : Kd.S k37 37 w13 w.heap.size (fun _ => True) (.slice (some ⟨go10, 0, none⟩) x3_1.length co10) y474 := (by rw [hw, Ny474.out]; exact HP12.1); clear HP12; replace HO_3 := mA (hp_); replace HB := mA ((by rw [hw]; exact below_set (below_set (below_set (below_set (below_set (HB.out) GB10.out) GB10.out) GB10.out) GB10.out) GB10.out : Below w.heap.size w w13)); clear HO466; clear HO469; clear HO472; clear hg hw hp_))
        go_roundg k1
        case measure => have := HK1.out; omega
        case rel => exact ⟨(y474), (wrap64 (x4_1 + 1)), sT, H', ⟨by have := HK1.out; omega⟩, ⟨rTS HO_3⟩, ⟨bT HB⟩⟩
       ·
        rw [if_neg c9] at H
        exact absurd H (by simp)
      ·
       rw [if_neg c7] at H
       exact absurd H (by simp)
     ·
      rw [if_neg c6] at H
      have c6b0 : decide (x4_1 < (l0.length : Int)) = false := decide_eq_false c6
      clear c6
      obtain rfl := Option.some.inj H
      go_wp2
      go_ret
      exact ⟨_, eT, rTS HO_3, bT HB⟩
  ·
   rw [if_neg c3] at H
   exact absurd H (by simp)
 ·
  rw [if_neg c2] at H
  exact absurd H (by simp)

/-! ### laws_toJoiner: function 27 -/
def laws_toJoiner.f (k : Nat) (l0_0 : List (S32)) (a0_1 : Int) (a0_2 : Int) : Option ((List (S37)) × Int × Int) := (laws_toTaskS.f k l0_0).bind fun t478 => (some (t478, a0_1, a0_2))
theorem laws_toJoiner.mono : ∀ a0 a1 a2 k, LeO (laws_toJoiner.f k a0 a1 a2) (laws_toJoiner.f (k + 1) a0 a1 a2) := by
 intro a0 a1 a2 k
 unfold laws_toJoiner.f
 repeat' first
   | (with_reducible exact laws_toTaskS.mono _ _)
   | (with_reducible exact LeO.refl _)
   | (with_reducible exact LeO.none _)
   | (with_reducible refine LeO.ite ?_ ?_)
   | (with_reducible refine LeO.bind ?_ (fun _ => ?_))
   | exact laws_toTaskS.mono _ _
   | exact LeO.none _
   | refine LeO.ite ?_ ?_
   | refine LeO.bind ?_ (fun _ => ?_)
set_option maxHeartbeats 8000000 in
set_option maxRecDepth 100000 in
theorem laws_toJoiner.calls (k : Nat) (A0_0 : Option Addr) (c0_0 : Nat) (l0_0 : List (S32)) (a0_1 : Int) (a0_2 : Int) (r1 : List (S37)) (r2 : Int) (r3 : Int) (w : World) (hr0_0 : Kd.C k32 w A0_0 l0_0.length l0_0) (hc0_0 : l0_0.length ≤ c0_0) (h : laws_toJoiner.f k l0_0 a0_1 a0_2 = some (r1, r2, r3)) :
  Calls Try.prog 27 #[.agg #[.slice A0_0 l0_0.length c0_0, .int .i64 a0_1, .int .i64 a0_2]] w fun e w' => ∃ v0_ : Value, e = .returned (.agg #[v0_, .int .i64 r2, .int .i64 r3]) ∧ Kd.S k37 37 w' w.heap.size (fun _ => True) v0_ r1 ∧ Below w.heap.size w w' := by
 have hu54 := Try.underlying54
 have hu59 := Try.underlying59
 have HR0_0 := mA hr0_0
 have HC0_0 := mA hc0_0
 clear hr0_0 hc0_0
 have HB := mA (Below.refl w.heap.size w)
 have H : ((laws_toTaskS.f k l0_0).bind fun t478 => (some (t478, a0_1, a0_2))) = some (r1, r2, r3) := h
 clear h
 obtain ⟨t478, A2, H⟩ := Option.bind_eq_some_iff.mp H
 replace A2 := mA A2
 replace H : (some (t478, a0_1, a0_2)) = some (r1, r2, r3) := H
 simp only [Option.some.injEq, Prod.mk.injEq] at H
 obtain ⟨rfl, rfl, rfl⟩ := H
 go_enter Try.func27, Try.ntmps27
 go_wp2_with (first | ((with_reducible refine gate_dst (N := 1) rfl ?_); refine boxT 1 #[.slice A0_0 l0_0.length c0_0, .int .i64 a0_1, .int .i64 a0_2] 54 ?_; intro gb475 hg w3 hbox hb; have BK475 := mA (hbox); have GW475 := mA ((by rw [hg]; exact (below_size (bT HB)) : w.heap.size ≤ gb475)); have GE475 := GW475; replace HB := mA (below_step (bT HB) hb); clear hb hbox hg) | ((with_reducible refine gate_dst (N := 2) rfl ?_); refine boxT 2 #[.slice none 0 0, .int .i64 0, .int .i64 0] 59 ?_; intro gb476 hg w4 hbox hb; have BK476 := mA (hbox); have GW476 := mA ((by rw [hg]; exact (below_size (bT1 HB GE475)) : w.heap.size ≤ gb476)); have GE476 := GW476; replace HB := mA (below_step (bT1 HB GE475) hb); have NB475_476 : Aside0 (gb475 ≠ gb476) := nL BK475 hg; have NB476_475 : Aside0 (gb476 ≠ gb475) := nG BK475 hg; replace BK475 := kB BK475 hb; clear hb hbox hg) | ((with_reducible refine gate_dst (N := 3) rfl ?_); refine boxT 3 #[.slice none 0 0, .int .i64 0, .int .i64 0] 59 ?_; intro gb477 hg w5 hbox hb; have BK477 := mA (hbox); have GW477 := mA ((by rw [hg]; exact (below_size (bT2 HB GE475 GE476)) : w.heap.size ≤ gb477)); have GE477 := GW477; replace HB := mA (below_step (bT2 HB GE475 GE476) hb); have NB475_477 : Aside0 (gb475 ≠ gb477) := nL BK475 hg; have NB477_475 : Aside0 (gb477 ≠ gb475) := nG BK475 hg; replace BK475 := kB BK475 hb; have NB476_477 : Aside0 (gb476 ≠ gb477) := nL BK476 hg; have NB477_476 : Aside0 (gb477 ≠ gb476) := nG BK476 hg; replace BK476 := kB BK476 hb; clear hb hbox hg; have hnb6 := NB475_476.out; have hnc6 := NB476_475.out; have hnb7 := NB475_477.out; have hnc7 := NB477_475.out; obtain ⟨hcz8_0, hcz8_1, hcz8_2, hfz8_0, hfz8_1, hfz8_2⟩ := blk3 BK475.out) | ((with_reducible refine gate_callee (f := 66) rfl ?_); refine goesT (some 6) Try.func66 #[.slice A0_0 l0_0.length c0_0] ?_; (with_reducible refine (laws_toTaskS.calls k _ _ l0_0 t478 _ ?side1 ?side2 A2.out).mono ?_); (case side1 => exact cT (Kd.C_below HR0_0.out HB.out)); (case side2 => exact HC0_0.out); rintro e w9 ⟨v479, rfl, ho0, hb⟩; refine ⟨_, rfl, ?_⟩; have HO480 := mA (Kd.S_lower ho0 (below_size (bT3 HB GE475 GE476 GE477))); replace BK475 := kB BK475 hb; replace BK476 := kB BK476 hb; replace BK477 := kB BK477 hb; replace HB := mA (below_step (bT3 HB GE475 GE476 GE477) hb); (try clear hb); (try clear ho0); obtain ⟨Ao10, co10, eo10⟩ := Kd.S_slice HO480.out; subst eo10; have hnb11 := NB477_476.out; have hnc11 := NB476_477.out; obtain ⟨hcz12_0, hcz12_1, hcz12_2, hfz12_0, hfz12_1, hfz12_2⟩ := blk3 BK477.out; obtain ⟨hcz13_0, hcz13_1, hcz13_2, hfz13_0, hfz13_1, hfz13_2⟩ := blk3 BK475.out; obtain ⟨hcz14_0, hcz14_1, hcz14_2, hfz14_0, hfz14_1, hfz14_2⟩ := blk3 BK476.out))
 refine bodyPost_ret (results_cell_row rfl _ _ gb476 59 #[.slice Ao10 t478.length co10, .int .i64 a0_1, .int .i64 a0_2] (0, 0) _ rfl (by (with_reducible repeat (first | refine blk_drewN ?_ _ | refine blk_drew ?_ | refine blk_alloc ?_ _)); refine blk_put (cs := #[.slice Ao10 t478.length co10, .int .i64 a0_1, .int .i64 0]) ?_ 2 _ rfl; (with_reducible repeat (first | refine blk_drewN ?_ _ | refine blk_drew ?_ | refine blk_alloc ?_ _)); refine blk_put (cs := #[.slice Ao10 t478.length co10, .int .i64 0, .int .i64 0]) ?_ 1 _ rfl; (with_reducible repeat (first | refine blk_drewN ?_ _ | refine blk_drew ?_ | refine blk_alloc ?_ _)); refine blk_put (cs := #[.slice none 0 0, .int .i64 0, .int .i64 0]) ?_ 0 _ rfl; (with_reducible repeat (first | refine blk_drewN ?_ _ | refine blk_drew ?_ | refine blk_alloc ?_ _)); refine blk_far ?_ NB476_477.out _; (with_reducible repeat (first | refine blk_drewN ?_ _ | refine blk_drew ?_ | refine blk_alloc ?_ _)); refine blk_far ?_ NB476_477.out _; (with_reducible repeat (first | refine blk_drewN ?_ _ | refine blk_drew ?_ | refine blk_alloc ?_ _)); refine blk_far ?_ NB476_477.out _; (with_reducible repeat (first | refine blk_drewN ?_ _ | refine blk_drew ?_ | refine blk_alloc ?_ _)); exact BK476.out) Try.underlying59 rfl (by kernel_rfl)) rfl ?_
 exact ⟨_, eT, by (with_reducible repeat (first | apply Kd.S_alloc | apply Kd.S_drewN | apply Kd.S_drew)); exact Kd.S_mono (Kd.S_far (p := ⟨gb476, 2, none⟩) (Kd.S_far (p := ⟨gb476, 1, none⟩) (Kd.S_far (p := ⟨gb476, 0, none⟩) (Kd.S_far (p := ⟨gb477, 2, none⟩) (Kd.S_far (p := ⟨gb477, 1, none⟩) (Kd.S_far (p := ⟨gb477, 0, none⟩) (Kd.S_types (Kd.S_types HO480.out BK477.out (by decide)) BK476.out (by decide)) (fun _ hk => hk.1.2) (.slice Ao10 t478.length co10)) (fun _ hk => hk.1.2) (.int .i64 a0_1)) (fun _ hk => hk.1.2) (.int .i64 a0_2)) (fun _ hk => hk.2) (.slice Ao10 t478.length co10)) (fun _ hk => hk.2) (.int .i64 a0_1)) (fun _ hk => hk.2) (.int .i64 a0_2)) (fun _ hk => trivial), bT3 HB GE475 GE476 GE477⟩

/-! ### impl_FormatJoiner: function 28 -/
def impl_FormatJoiner.l0 : Nat → List ByteArray → List (S37) → Int → Int → Option (ByteArray)
 | 0, _, _, _, _ => none
 | k + 1, x3, x17, x18, x19 => if x19 < x18 then (if 0 ≤ x19 then (if x19 < (x17.length : Int) then ((impl_FormatTask.f k ((rd_T37 x17 x19).f0) ((rd_T37 x17 x19).f1) ((rd_T37 x17 x19).f2) ((rd_T37 x17 x19).f3) ((rd_T37 x17 x19).f4)).bind fun t497 => (if x3.length < 8796093022208 then (impl_FormatJoiner.l0 k (x3 ++ [t497]) x17 x18 (wrap64 (x19 + 1))) else (none))) else (none)) else (none)) else ((impl_joined.f k x3 (⟨#[47]⟩ : ByteArray)).bind fun t501 => (some t501))
def impl_FormatJoiner.f (k : Nat) (l0_0 : List (S37)) (a0_1 : Int) (a0_2 : Int) : Option (ByteArray) := (impl_IsValidJoiner.f k l0_0 a0_1 a0_2).bind fun t489 => (if t489 = true then ((impl_FormatInt.f k a0_1).bind fun t490 => ((impl_FormatInt.f k a0_2).bind fun t491 => (impl_FormatJoiner.l0 k (([t490, t491] : List ByteArray)) l0_0 (l0_0.length : Int) 0))) else (some (⟨#[]⟩ : ByteArray)))
theorem impl_FormatJoiner.mono_l : ∀ k, (∀ y0 y1 y2 y3, LeO (impl_FormatJoiner.l0 k y0 y1 y2 y3) (impl_FormatJoiner.l0 (k + 1) y0 y1 y2 y3))
 | 0 => fun _ _ _ _ r h => by simp [impl_FormatJoiner.l0] at h
 | k + 1 => by
  have ih0 := impl_FormatJoiner.mono_l k
  ·
   intro y0 y1 y2 y3
   unfold impl_FormatJoiner.l0
   repeat' first
   | (with_reducible exact ih0 _ _ _ _)
   | (with_reducible exact impl_FormatInt.mono _ _)
   | (with_reducible exact impl_FormatTask.mono _ _ _ _ _ _)
   | (with_reducible exact impl_IsValidJoiner.mono _ _ _ _)
   | (with_reducible exact impl_joined.mono _ _ _)
   | (with_reducible exact LeO.refl _)
   | (with_reducible exact LeO.none _)
   | (with_reducible refine LeO.ite ?_ ?_)
   | (with_reducible refine LeO.bind ?_ (fun _ => ?_))
   | exact ih0 _ _ _ _
   | exact impl_FormatInt.mono _ _
   | exact impl_FormatTask.mono _ _ _ _ _ _
   | exact impl_IsValidJoiner.mono _ _ _ _
   | exact impl_joined.mono _ _ _
   | exact LeO.none _
   | refine LeO.ite ?_ ?_
   | refine LeO.bind ?_ (fun _ => ?_)
theorem impl_FormatJoiner.mono : ∀ a0 a1 a2 k, LeO (impl_FormatJoiner.f k a0 a1 a2) (impl_FormatJoiner.f (k + 1) a0 a1 a2) := by
 intro a0 a1 a2 k
 have ih0 := impl_FormatJoiner.mono_l k
 unfold impl_FormatJoiner.f
 repeat' first
   | (with_reducible exact ih0 _ _ _ _)
   | (with_reducible exact impl_FormatInt.mono _ _)
   | (with_reducible exact impl_FormatTask.mono _ _ _ _ _ _)
   | (with_reducible exact impl_IsValidJoiner.mono _ _ _ _)
   | (with_reducible exact impl_joined.mono _ _ _)
   | (with_reducible exact LeO.refl _)
   | (with_reducible exact LeO.none _)
   | (with_reducible refine LeO.ite ?_ ?_)
   | (with_reducible refine LeO.bind ?_ (fun _ => ?_))
   | exact ih0 _ _ _ _
   | exact impl_FormatInt.mono _ _
   | exact impl_FormatTask.mono _ _ _ _ _ _
   | exact impl_IsValidJoiner.mono _ _ _ _
   | exact impl_joined.mono _ _ _
   | exact LeO.none _
   | refine LeO.ite ?_ ?_
   | refine LeO.bind ?_ (fun _ => ?_)
def impl_FormatJoiner.T3 : Bool × List (List Nat × List Nat) := (true, [([], []), ([0], [0]), ([1], [1]), ([], []), ([3], [3]), ([4, 2], [4]), ([2, 5], [2, 5]), ([6, 5, 0, 1, 2, 3, 4, 5, 6], [6])])
def impl_FormatJoiner.B3 : List Nat := [0, 1, 3, 0, 8, 31, 63, 127]
theorem impl_FormatJoiner.tab3 : rtab .any (opsOf Try.f28 3) = impl_FormatJoiner.T3 := by kernel_rfl
theorem impl_FormatJoiner.bits3 : waitsOk impl_FormatJoiner.T3.2 impl_FormatJoiner.B3 = true := by kernel_rfl
set_option maxHeartbeats 8000000 in
set_option maxRecDepth 100000 in
theorem impl_FormatJoiner.calls (k : Nat) (A0_0 : Option Addr) (c0_0 : Nat) (l0_0 : List (S37)) (a0_1 : Int) (a0_2 : Int) (r : ByteArray) (w : World) (hr0_0 : Kd.C k37 w A0_0 l0_0.length l0_0) (hc0_0 : l0_0.length ≤ c0_0) (h : impl_FormatJoiner.f k l0_0 a0_1 a0_2 = some r) :
  Calls Try.prog 28 #[.agg #[.slice A0_0 l0_0.length c0_0, .int .i64 a0_1, .int .i64 a0_2]] w fun e w' => e = .returned (.string r) ∧ Below w.heap.size w w' := by
 have hu59 := Try.underlying59
 have hu37 := Try.underlying37
 have HR0_0 := mA hr0_0
 have HC0_0 := mA hc0_0
 clear hr0_0 hc0_0
 have HB := mA (Below.refl w.heap.size w)
 have H : ((impl_IsValidJoiner.f k l0_0 a0_1 a0_2).bind fun t489 => (if t489 = true then ((impl_FormatInt.f k a0_1).bind fun t490 => ((impl_FormatInt.f k a0_2).bind fun t491 => (impl_FormatJoiner.l0 k (([t490, t491] : List ByteArray)) l0_0 (l0_0.length : Int) 0))) else (some (⟨#[]⟩ : ByteArray)))) = some r := h
 clear h
 obtain ⟨t489, A2, H⟩ := Option.bind_eq_some_iff.mp H
 replace A2 := mA A2
 try dsimp only at H
 by_cases c3 : t489 = true
 ·
  subst c3
  rw [if_pos rfl] at H
  obtain ⟨t490, A4, H⟩ := Option.bind_eq_some_iff.mp H
  replace A4 := mA A4
  try dsimp only at H
  obtain ⟨t491, A5, H⟩ := Option.bind_eq_some_iff.mp H
  replace A5 := mA A5
  try dsimp only at H
  obtain ⟨y492, hy492⟩ : ∃ y_ : List ByteArray, y_ = (([t490, t491] : List ByteArray)) := ⟨_, rfl⟩
  replace H : (impl_FormatJoiner.l0 k y492 l0_0 (l0_0.length : Int) 0) = some r := by first | (rw [hy492]; with_reducible exact H) | (have H2_ := (Option.bind_some _ _).symm.trans H; rw [hy492]; with_reducible exact H2_) | (have H2_ := (Option.bind_some _ _).symm.trans H; with_reducible exact H2_) | with_reducible exact H | (rw [hy492]; exact H) | exact H
  have Ny492 := mA hy492
  clear hy492
  have H' := mA H
  clear H
  go_enter Try.func28, Try.ntmps28
  try go_wp2_with (first | ((with_reducible refine gate_dst (N := 1) rfl ?_); refine boxT 1 #[.slice A0_0 l0_0.length c0_0, .int .i64 a0_1, .int .i64 a0_2] 59 ?_; intro gb488 hg w6 hbox hb; have BK488 := mA (hbox); have GW488 := mA ((by rw [hg]; exact (below_size (bT HB)) : w.heap.size ≤ gb488)); have GE488 := GW488; replace HB := mA (below_step (bT HB) hb); clear hb hbox hg; obtain ⟨hcz7_0, hcz7_1, hcz7_2, hfz7_0, hfz7_1, hfz7_2⟩ := blk3 BK488.out) | ((with_reducible refine gate_callee (f := 67) rfl ?_); refine goesT (some 7) Try.func67 #[.agg #[.slice A0_0 l0_0.length c0_0, .int .i64 a0_1, .int .i64 a0_2]] ?_; (with_reducible refine (impl_IsValidJoiner.calls k _ _ l0_0 a0_1 a0_2 true _ ?side1 ?side2 A2.out).mono ?_); (case side1 => exact cT (Kd.C_below HR0_0.out HB.out)); (case side2 => exact HC0_0.out); rintro e w8 ⟨rfl, hb⟩; refine ⟨_, rfl, ?_⟩; replace BK488 := kB BK488 hb; replace HB := mA (below_step (bT1 HB GE488) hb); (try clear hb)))
  replace BK488 := mA (blk_drew BK488.out)
  replace HB := mA (below_drew1 HB.out)
  refine start_ (n := 8) (S := fun w' => w'.cell? ⟨gb488, 0, none⟩ = some (.slice A0_0 l0_0.length c0_0) ∧ w'.cell? ⟨gb488, 1, none⟩ = some (.int .i64 a0_1) ∧ w'.cell? ⟨gb488, 2, none⟩ = some (.int .i64 a0_2)) (ds := []) #[false, false, false, false, false, false, false, false] (by kernel_rfl) rfl rfl ⟨(blk_cell BK488.out 0).trans rfl, (blk_cell BK488.out 1).trans rfl, (blk_cell BK488.out 2).trans rfl⟩ (fun hHeld => ?_); refine with_tabW impl_FormatJoiner.tab3 impl_FormatJoiner.bits3 (fun HT_ HW_ => ?_)
  generalize w8.drew = w9 at BK488 HB hHeld ⊢
  refine pureT (i := 0) (N := some 9) #[true, false, false, false, false, false, false, false] (any_of HT_.out (by kernel_rfl)) ?_
  refine pureT (i := 3) (N := some 12) #[true, false, false, true, false, false, false, false] (any_of HT_.out (by kernel_rfl)) ?_
  refine take_ (i := 1) (N := some 10) (v := ?_) (a' := ?_) #[true, true, false, true, false, false, false, false] rfl rfl (take_ofW HT_.out HW_.out (by kernel_rfl)) (fun _ _ _ h => h) (Or.inl ⟨by rfl, ?_⟩) hHeld ?_ ?_
  rotate_left
  ·
   rintro w' ⟨s0, s1, s2⟩
   go_simp
   with_reducible rfl
  rotate_left
  ·
   simp only [Act.put, List.setIfInBounds_toArray, List.set_cons_zero, List.set_cons_succ, i64_w, i32_w]
   rfl
  refine take_ (i := 4) (N := some 13) (v := ?_) (a' := ?_) #[true, true, false, true, true, false, false, false] rfl rfl (take_ofW HT_.out HW_.out (by kernel_rfl)) (fun _ _ _ h => h) (Or.inl ⟨by rfl, ?_⟩) hHeld ?_ ?_
  rotate_left
  ·
   rintro w' ⟨s0, s1, s2⟩
   go_simp
   with_reducible rfl
  rotate_left
  ·
   simp only [Act.put, List.setIfInBounds_toArray, List.set_cons_zero, List.set_cons_succ, i64_w, i32_w]
   rfl
  refine one_ (i := 2) (N := some 11) #[true, true, true, true, true, false, false, false] rfl rfl (one_of HT_.out (by kernel_rfl)) (by decide) (fun K hK => ?_)
  refine goes_ Try.func45 (by kernel_rfl) rfl #[.int .i64 a0_1] (by rfl) rfl rfl mT ?_
  with_reducible refine (impl_FormatInt.calls k a0_1 t490 _ A4.out).mono ?_
  rintro e w10 ⟨rfl, hb⟩
  refine ⟨_, rfl, ?_⟩
  replace BK488 := kB BK488 hb
  replace HB := mA (below_step (bT1 HB GE488) hb)
  (try clear hb)
  (try clear hb2)
  (try clear hk)
  (try clear hi)
  refine hK.out _ _ ⟨(blk_cell BK488.out 0).trans rfl, (blk_cell BK488.out 1).trans rfl, (blk_cell BK488.out 2).trans rfl⟩ (fun hHeld => ?_)
  clear hK K
  refine norm_ (a' := ?_) ?_ ?_
  rotate_left
  ·
   show Act.put _ (some 11) _ = _
   simp only [Act.put, List.setIfInBounds_toArray, List.set_cons_zero, List.set_cons_succ, i64_w, i32_w]
   rfl
  refine one_ (i := 5) (N := some 14) #[true, true, true, true, true, true, false, false] rfl rfl (one_of HT_.out (by kernel_rfl)) (by decide) (fun K hK => ?_)
  refine goes_ Try.func45 (by kernel_rfl) rfl #[.int .i64 a0_2] (by rfl) rfl rfl mT ?_
  with_reducible refine (impl_FormatInt.calls k a0_2 t491 _ A5.out).mono ?_
  rintro e w11 ⟨rfl, hb⟩
  refine ⟨_, rfl, ?_⟩
  replace BK488 := kB BK488 hb
  replace HB := mA (below_step (bT1 HB GE488) hb)
  (try clear hb)
  (try clear hb2)
  (try clear hk)
  (try clear hi)
  refine hK.out _ _ ⟨(blk_cell BK488.out 0).trans rfl, (blk_cell BK488.out 1).trans rfl, (blk_cell BK488.out 2).trans rfl⟩ (fun hHeld => ?_)
  clear hK K
  refine norm_ (a' := ?_) ?_ ?_
  rotate_left
  ·
   show Act.put _ (some 14) _ = _
   simp only [Act.put, List.setIfInBounds_toArray, List.set_cons_zero, List.set_cons_succ, i64_w, i32_w]
   rfl
  refine one_ (i := 6) (N := some 15) #[true, true, true, true, true, true, true, false] rfl rfl (one_of HT_.out (by kernel_rfl)) (by decide) (fun K hK => ?_)
  refine Kd.R_lit_step Kd.string _ 9 ?hg (N := 15) ?hd (xs := ([t490, t491] : List ByteArray)) (inner := [.string t490, .string t491]) (ok := fun _ => True) (okp := fun _ => True) ?hr ?hp (fun _ hk => hk) trivial (Below.refl _ _) (Nat.le_refl _) (by simp) ?_; (case hd => rfl); (case hg => rfl); (case hr => first | (go_simp; done) | (go_simp; rfl)); (case hp => exact (Reps.one (show Kd.M Kd.string _ _ _ t490 [.string t490] from rfl) (Reps.one (show Kd.M Kd.string _ _ _ t491 [.string t491] from rfl) (Reps.none _ _))))
  intro v493 w12 ho13 hb hg_ hnew_
  clear hg_ hnew_
  (first | rw [← Ny492.out] at ho13 | (simp only [Int.reduceToNat] at ho13; rw [← Ny492.out] at ho13))
  have HO494 := mA (Kd.R_lower ho13 (below_size (bT1 HB GE488)))
  replace BK488 := kB BK488 hb
  replace HB := mA (below_step (bT1 HB GE488) hb)
  clear hb ho13
  refine hK.out _ _ ⟨(blk_cell BK488.out 0).trans rfl, (blk_cell BK488.out 1).trans rfl, (blk_cell BK488.out 2).trans rfl⟩ (fun hHeld => ?_)
  clear hK K
  refine norm_ (a' := ?_) ?_ ?_
  rotate_left
  ·
   show Act.put _ (some 15) _ = _
   simp only [Act.put, List.setIfInBounds_toArray, List.set_cons_zero, List.set_cons_succ, i64_w, i32_w]
   rfl
  refine pureT (i := 7) (N := some 3) #[true, true, true, true, true, true, true, true] (any_of HT_.out (by kernel_rfl)) ?_
  refine done_ (done_of HT_.out (by kernel_rfl)) ?_
  have hcz14_0 : w12.cell? ⟨gb488, 0, none⟩ = some (.slice A0_0 l0_0.length c0_0) := (blk_cell BK488.out 0).trans rfl
  have hcz14_1 : w12.cell? ⟨gb488, 1, none⟩ = some (.int .i64 a0_1) := (blk_cell BK488.out 1).trans rfl
  have hcz14_2 : w12.cell? ⟨gb488, 2, none⟩ = some (.int .i64 a0_2) := (blk_cell BK488.out 2).trans rfl
  have hfz14_0 := blk_frozen BK488.out 0
  have hfz14_1 := blk_frozen BK488.out 1
  have hfz14_2 := blk_frozen BK488.out 2
  try go_wp2
  go_loopg [3, 19] k (fun kq v3 v19 w' => ∃ (x3_1 : List ByteArray) (x19_1 : Int), v19 = .int .i64 x19_1 ∧ Aside0 (impl_FormatJoiner.l0 kq x3_1 l0_0 (l0_0.length : Int) x19_1 = some r) ∧ Aside0 (kq ≤ k) ∧ Aside0 (Kd.R Kd.string 9 w' w.heap.size (fun _ => True) v3 x3_1) ∧ Aside0 (w'.heap[gb488]? = some (.cells #[(.slice A0_0 l0_0.length c0_0), .int .i64 a0_1, .int .i64 a0_2] 59 (0, 0))) ∧ Aside0 (Below w.heap.size w w'))
  case atStart => exact ⟨(y492), (0), sT, H', ⟨Nat.le_refl _⟩, ⟨rTR HO494⟩, ⟨kT BK488⟩, ⟨bT1 HB GE488⟩⟩
  case round =>
   clear H'
   try clear c2
   try clear p2
   try clear c3
   try clear c4
   try clear c6
   try clear hcz14_0
   try clear hcz14_1
   try clear hcz14_2
   try clear hcz7_0
   try clear hcz7_1
   try clear hcz7_2
   try clear hfz14_0
   try clear hfz14_1
   try clear hfz14_2
   try clear hfz7_0
   try clear hfz7_1
   try clear hfz7_2
   obtain ⟨x3_1, x19_1, rfl, HA, HK1, HO_3, BK488, HB⟩ := hrel
   cases gk with
   | zero => exact absurd HA.out (by simp [impl_FormatJoiner.l0])
   | succ k1 =>
    have H := HA.out
    clear HA
    simp only [impl_FormatJoiner.l0] at H
    by_cases c15 : x19_1 < (l0_0.length : Int)
    ·
     rw [if_pos c15] at H
     have c15b0 : decide (x19_1 < (l0_0.length : Int)) = true := decide_eq_true c15
     clear c15
     by_cases c16 : 0 ≤ x19_1
     ·
      rw [if_pos c16] at H
      have c16b0 : decide (0 ≤ x19_1) = true := decide_eq_true c16
      clear c16
      by_cases c17 : x19_1 < (l0_0.length : Int)
      ·
       rw [if_pos c17] at H
       have c17b0 : decide (x19_1 < (l0_0.length : Int)) = true := decide_eq_true c17
       clear c17
       obtain ⟨t497, A18, H⟩ := Option.bind_eq_some_iff.mp H
       replace A18 := mA A18
       try dsimp only at H
       by_cases c19 : x3_1.length < 8796093022208
       ·
        rw [if_pos c19] at H
        have LMc19 := mA c19
        clear c19
        obtain ⟨y498, hy498⟩ : ∃ y_ : List ByteArray, y_ = (x3_1 ++ [t497]) := ⟨_, rfl⟩
        replace H : (impl_FormatJoiner.l0 k1 y498 l0_0 (l0_0.length : Int) (wrap64 (x19_1 + 1))) = some r := by first | (rw [hy498]; with_reducible exact H) | (have H2_ := (Option.bind_some _ _).symm.trans H; rw [hy498]; with_reducible exact H2_) | (have H2_ := (Option.bind_some _ _).symm.trans H; with_reducible exact H2_) | with_reducible exact H | (rw [hy498]; exact H) | exact H
        have Ny498 := mA hy498
        clear hy498
        have H' := mA H
        clear H
        have p495 : 0 ≤ (x19_1 : Int) := of_decide_eq_true aT
        have q495 : x19_1 < (l0_0.length : Int) := of_decide_eq_true aT
        obtain ⟨ad495, A495_1, c495_1, A495_2, c495_2, A495_3, c495_3, e495, hx495_0, hx495_1, hx495_2, hx495_3, hx495_4, hl495_1, hi495_1, hl495_2, hi495_2, hl495_3, hi495_3⟩ := at_T37 HR0_0.out x19_1 p495 q495
        cases e495
        replace hx495_0 := (HB.out.cell (World.block_lt_of_cell? w _ hx495_0)).trans hx495_0
        replace hx495_1 := (HB.out.cell (World.block_lt_of_cell? w _ hx495_1)).trans hx495_1
        replace hx495_2 := (HB.out.cell (World.block_lt_of_cell? w _ hx495_2)).trans hx495_2
        replace hx495_3 := (HB.out.cell (World.block_lt_of_cell? w _ hx495_3)).trans hx495_3
        replace hx495_4 := (HB.out.cell (World.block_lt_of_cell? w _ hx495_4)).trans hx495_4
        have HR495_1 := mA hi495_1
        have HC495_1 := mA hl495_1
        clear hi495_1 hl495_1
        have HR495_2 := mA hi495_2
        have HC495_2 := mA hl495_2
        clear hi495_2 hl495_2
        have HR495_3 := mA hi495_3
        have HC495_3 := mA hl495_3
        clear hi495_3 hl495_3
        replace p495 := eq_true p495
        replace q495 := eq_true q495
        go_wp2_with (first | ((with_reducible refine gate_dst (N := 5) rfl ?_); refine boxT 5 #[.int .i64 0, .slice none 0 0, .slice none 0 0, .slice none 0 0, .int .i64 0] 37 ?_; intro gb496 hg w20 hbox hb; replace HO_3 := rBR HO_3 hb; have BK496 := mA (hbox); have GW496 := mA ((by rw [hg]; exact (below_size (bT1 HB GE488)) : w.heap.size ≤ gb496)); have GE496 := GW496; replace HB := mA (below_step (bT1 HB GE488) hb); have NB488_496 : Aside0 (gb488 ≠ gb496) := nL BK488 hg; have NB496_488 : Aside0 (gb496 ≠ gb488) := nG BK488 hg; replace BK488 := kB BK488 hb; clear hb hbox hg; have hnb21 := NB496_488.out; have hnc21 := NB488_496.out; obtain ⟨hcz22_0, hcz22_1, hcz22_2, hcz22_3, hcz22_4, hfz22_0, hfz22_1, hfz22_2, hfz22_3, hfz22_4⟩ := blk5 BK496.out) | ((with_reducible refine gate_callee (f := 18) rfl ?_); refine goesT (some 25) Try.func18 #[.agg #[.int .i64 ((rd_T37 l0_0 x19_1).f0), .slice A495_1 ((rd_T37 l0_0 x19_1).f1).length c495_1, .slice A495_2 ((rd_T37 l0_0 x19_1).f2).length c495_2, .slice A495_3 ((rd_T37 l0_0 x19_1).f3).length c495_3, .int .i64 ((rd_T37 l0_0 x19_1).f4)]] ?_; (with_reducible refine (impl_FormatTask.calls k1 ((rd_T37 l0_0 x19_1).f0) _ _ ((rd_T37 l0_0 x19_1).f1) _ _ ((rd_T37 l0_0 x19_1).f2) _ _ ((rd_T37 l0_0 x19_1).f3) ((rd_T37 l0_0 x19_1).f4) t497 _ ?side1 ?side2 ?side3 ?side4 ?side5 ?side6 A18.out).mono ?_); (case side1 => exact Kd.C_below HR495_1.out (bT2 HB GE488 GE496)); (case side2 => exact HC495_1.out); (case side3 => exact Kd.C_below HR495_2.out (bT2 HB GE488 GE496)); (case side4 => exact HC495_2.out); (case side5 => exact Kd.C_below HR495_3.out (bT2 HB GE488 GE496)); (case side6 => exact HC495_3.out); rintro e w23 ⟨rfl, hb⟩; refine ⟨_, rfl, ?_⟩; replace HO_3 := mA (Kd.R_below (by (with_reducible repeat (first | apply Kd.R_alloc | apply Kd.R_drewN | apply Kd.R_drew)); exact (Kd.R_mono (Kd.R_far (p := ⟨gb496, 4, none⟩) (Kd.R_far (p := ⟨gb496, 3, none⟩) (Kd.R_far (p := ⟨gb496, 2, none⟩) (Kd.R_far (p := ⟨gb496, 1, none⟩) (Kd.R_far (p := ⟨gb496, 0, none⟩) (Kd.R_types HO_3.out BK496.out (by decide)) (fun _ hk => hk.2) (.int .i64 ((rd_T37 l0_0 x19_1).f0))) (fun _ hk => hk.2) (.slice A495_1 ((rd_T37 l0_0 x19_1).f1).length c495_1)) (fun _ hk => hk.2) (.slice A495_2 ((rd_T37 l0_0 x19_1).f2).length c495_2)) (fun _ hk => hk.2) (.slice A495_3 ((rd_T37 l0_0 x19_1).f3).length c495_3)) (fun _ hk => hk.2) (.int .i64 ((rd_T37 l0_0 x19_1).f4))) (fun _ h_ => h_.1))) hb); replace BK488 := mA (blk_below (g := gb488) (o := .cells #[.slice (some ad495) l0_0.length c0_0, .int .i64 a0_1, .int .i64 a0_2] 59 (0, 0)) (by (with_reducible repeat (first | refine blk_drewN ?_ _ | refine blk_drew ?_ | refine blk_alloc ?_ _)); refine blk_far ?_ NB488_496.out _; (with_reducible repeat (first | refine blk_drewN ?_ _ | refine blk_drew ?_ | refine blk_alloc ?_ _)); refine blk_far ?_ NB488_496.out _; (with_reducible repeat (first | refine blk_drewN ?_ _ | refine blk_drew ?_ | refine blk_alloc ?_ _)); refine blk_far ?_ NB488_496.out _; (with_reducible repeat (first | refine blk_drewN ?_ _ | refine blk_drew ?_ | refine blk_alloc ?_ _)); refine blk_far ?_ NB488_496.out _; (with_reducible repeat (first | refine blk_drewN ?_ _ | refine blk_drew ?_ | refine blk_alloc ?_ _)); refine blk_far ?_ NB488_496.out _; (with_reducible repeat (first | refine blk_drewN ?_ _ | refine blk_drew ?_ | refine blk_alloc ?_ _)); exact BK488.out) hb); replace HB := mA (below_step (bT2 HB GE488 GE496) hb); (try clear hb); (try clear hk)) | ((with_reducible refine gate_builtin (b := .append) (xs := #[.tmp 23, .tmp 26]) rfl ?_); at_builtin; refine Kd.R_append Kd.string (w0 := w) w.heap.size rfl (.tmp 23) (.tmp 26) 84 9 (.string ⟨#[]⟩) 16 rfl Try.underlying84 info9 rfl (by decide) (by omega) u3 x3_1 t497 [.string t497] (fun _ => True) (fun _ => False) rfl rfl ?aP (fun _ hk => hk.elim) ?aF ?aO ?aB ?aS ?aL ?_; (case aP => exact rfl); (case aB => exact (bT2 HB GE488 GE496)); (case aF => exact (fun _ _ => trivial)); (case aO => exact (rTR HO_3)); (case aS => exact (below_size (bT2 HB GE488 GE496))); (case aL => have := LMc19.out; omega); intro v499 w24 ho hb hg hat; rw [← Ny498.out] at ho; replace BK488 := mA (blk_grown (g := gb488) (o := .cells #[.slice (some ad495) l0_0.length c0_0, .int .i64 a0_1, .int .i64 a0_2] 59 (0, 0)) (kT BK488) hg (Kd.R_ne HO_3.out BK488.out (by decide))); replace HB := mA (hb); have HO500 := mA (ho); clear HO_3; clear ho hb hg hat))
        go_roundg k1
        case measure => have := HK1.out; omega
        case rel => exact ⟨(y498), (wrap64 (x19_1 + 1)), sT, H', ⟨by have := HK1.out; omega⟩, ⟨rTR HO500⟩, ⟨kT BK488⟩, ⟨bT2 HB GE488 GE496⟩⟩
       ·
        rw [if_neg c19] at H
        exact absurd H (by simp)
      ·
       rw [if_neg c17] at H
       exact absurd H (by simp)
     ·
      rw [if_neg c16] at H
      exact absurd H (by simp)
    ·
     rw [if_neg c15] at H
     have c15b0 : decide (x19_1 < (l0_0.length : Int)) = false := decide_eq_false c15
     clear c15
     obtain ⟨t501, A25, H⟩ := Option.bind_eq_some_iff.mp H
     replace A25 := mA A25
     replace H : (some t501) = some r := H
     obtain rfl := Option.some.inj H
     obtain ⟨Ao26, co26, eo26⟩ := Kd.R_slice HO_3.out
     subst eo26
     go_wp2_with (first | ((with_reducible refine gate_callee (f := 47) rfl ?_); refine goesT (some 30) Try.func47 #[.slice Ao26 x3_1.length co26, .string (⟨#[47]⟩ : ByteArray)] ?_; (with_reducible refine (impl_joined.calls k1 _ _ x3_1 (⟨#[47]⟩ : ByteArray) t501 _ ?side1 ?side2 A25.out).mono ?_); (case side1 => exact cT ((Kd.R_reads' HO_3.out).2.2)); (case side2 => exact (Kd.R_reads' HO_3.out).2.1); rintro e w' ⟨rfl, ⟨nd, rfl⟩⟩; refine ⟨_, rfl, ?_⟩))
     go_ret
     exact ⟨eT, bT1 HB GE488⟩
 ·
  replace c3 := Bool.eq_false_iff.mpr c3
  subst c3
  rw [if_neg (show ¬ (false = true) by decide)] at H
  obtain rfl := Option.some.inj H
  go_enter Try.func28, Try.ntmps28
  go_wp2_with (first | ((with_reducible refine gate_dst (N := 1) rfl ?_); refine boxT 1 #[.slice A0_0 l0_0.length c0_0, .int .i64 a0_1, .int .i64 a0_2] 59 ?_; intro gb488 hg w27 hbox hb; have BK488 := mA (hbox); have GW488 := mA ((by rw [hg]; exact (below_size (bT HB)) : w.heap.size ≤ gb488)); have GE488 := GW488; replace HB := mA (below_step (bT HB) hb); clear hb hbox hg; obtain ⟨hcz28_0, hcz28_1, hcz28_2, hfz28_0, hfz28_1, hfz28_2⟩ := blk3 BK488.out) | ((with_reducible refine gate_callee (f := 67) rfl ?_); refine goesT (some 7) Try.func67 #[.agg #[.slice A0_0 l0_0.length c0_0, .int .i64 a0_1, .int .i64 a0_2]] ?_; (with_reducible refine (impl_IsValidJoiner.calls k _ _ l0_0 a0_1 a0_2 false _ ?side1 ?side2 A2.out).mono ?_); (case side1 => exact cT (Kd.C_below HR0_0.out HB.out)); (case side2 => exact HC0_0.out); rintro e w29 ⟨rfl, hb⟩; refine ⟨_, rfl, ?_⟩; replace HB := mA (below_step (bT1 HB GE488) hb); (try clear hb)))
  go_ret
  exact ⟨eT, bT1 HB GE488⟩

/-! ### laws_FnExactFormatJoiner: function 6 -/
def laws_FnExactFormatJoiner.f (k : Nat) (l0_0 : List (S32)) (a0_1 : Int) (a0_2 : Int) : Option (Bool) := (laws_szJoiner.f k l0_0 a0_1 a0_2 1048576).bind fun t509 => (if t509 < 0 then (some true) else ((laws_toJoiner.f k l0_0 a0_1 a0_2).bind fun bt510 => ((spec_FormatJoiner.f k bt510.1 bt510.2.1 bt510.2.2).bind fun t515 => ((laws_toJoiner.f k l0_0 a0_1 a0_2).bind fun bt516 => ((impl_FormatJoiner.f k bt516.1 bt516.2.1 bt516.2.2).bind fun t522 => (if t522.toList = t515.toList then ((laws_toJoiner.f k l0_0 a0_1 a0_2).bind fun bt523 => ((laws_eqJoiner.f k bt516.1 bt516.2.1 bt516.2.2 bt523.1 bt523.2.1 bt523.2.2).bind fun t528 => (if t528 = true then (some true) else (some false)))) else (some false)))))))
theorem laws_FnExactFormatJoiner.mono : ∀ a0 a1 a2 k, LeO (laws_FnExactFormatJoiner.f k a0 a1 a2) (laws_FnExactFormatJoiner.f (k + 1) a0 a1 a2) := by
 intro a0 a1 a2 k
 unfold laws_FnExactFormatJoiner.f
 repeat' first
   | (with_reducible exact impl_FormatJoiner.mono _ _ _ _)
   | (with_reducible exact laws_eqJoiner.mono _ _ _ _ _ _ _)
   | (with_reducible exact laws_szJoiner.mono _ _ _ _ _)
   | (with_reducible exact laws_toJoiner.mono _ _ _ _)
   | (with_reducible exact spec_FormatJoiner.mono _ _ _ _)
   | (with_reducible exact LeO.refl _)
   | (with_reducible exact LeO.none _)
   | (with_reducible refine LeO.ite ?_ ?_)
   | (with_reducible refine LeO.bind ?_ (fun _ => ?_))
   | exact impl_FormatJoiner.mono _ _ _ _
   | exact laws_eqJoiner.mono _ _ _ _ _ _ _
   | exact laws_szJoiner.mono _ _ _ _ _
   | exact laws_toJoiner.mono _ _ _ _
   | exact spec_FormatJoiner.mono _ _ _ _
   | exact LeO.none _
   | refine LeO.ite ?_ ?_
   | refine LeO.bind ?_ (fun _ => ?_)
set_option maxHeartbeats 8000000 in
set_option maxRecDepth 100000 in
theorem laws_FnExactFormatJoiner.calls (k : Nat) (A0_0 : Option Addr) (c0_0 : Nat) (l0_0 : List (S32)) (a0_1 : Int) (a0_2 : Int) (r : Bool) (w : World) (hr0_0 : Kd.C k32 w A0_0 l0_0.length l0_0) (hc0_0 : l0_0.length ≤ c0_0) (ht : r = true) (h : laws_FnExactFormatJoiner.f k l0_0 a0_1 a0_2 = some r) :
  Calls Try.prog 6 #[.agg #[.slice A0_0 l0_0.length c0_0, .int .i64 a0_1, .int .i64 a0_2]] w fun e w' => e = .returned (.bool r) ∧ Below w.heap.size w w' := by
 have hu54 := Try.underlying54
 have hu59 := Try.underlying59
 have HR0_0 := mA hr0_0
 have HC0_0 := mA hc0_0
 clear hr0_0 hc0_0
 have HB := mA (Below.refl w.heap.size w)
 have HT := mA ht
 clear ht
 have H : ((laws_szJoiner.f k l0_0 a0_1 a0_2 1048576).bind fun t509 => (if t509 < 0 then (some true) else ((laws_toJoiner.f k l0_0 a0_1 a0_2).bind fun bt510 => ((spec_FormatJoiner.f k bt510.1 bt510.2.1 bt510.2.2).bind fun t515 => ((laws_toJoiner.f k l0_0 a0_1 a0_2).bind fun bt516 => ((impl_FormatJoiner.f k bt516.1 bt516.2.1 bt516.2.2).bind fun t522 => (if t522.toList = t515.toList then ((laws_toJoiner.f k l0_0 a0_1 a0_2).bind fun bt523 => ((laws_eqJoiner.f k bt516.1 bt516.2.1 bt516.2.2 bt523.1 bt523.2.1 bt523.2.2).bind fun t528 => (if t528 = true then (some true) else (some false)))) else (some false)))))))) = some r := h
 clear h
 obtain ⟨t509, A2, H⟩ := Option.bind_eq_some_iff.mp H
 replace A2 := mA A2
 try dsimp only at H
 by_cases c3 : t509 < 0
 ·
  rw [if_pos c3] at H
  have c3b0 : decide (t509 < 0) = true := decide_eq_true c3
  clear c3
  obtain rfl := Option.some.inj H
  go_enter Try.func6, Try.ntmps6
  go_wp2_with (first | ((with_reducible refine gate_dst (N := 1) rfl ?_); refine boxT 1 #[.slice A0_0 l0_0.length c0_0, .int .i64 a0_1, .int .i64 a0_2] 54 ?_; intro gb508 hg w4 hbox hb; have BK508 := mA (hbox); have GW508 := mA ((by rw [hg]; exact (below_size (bT HB)) : w.heap.size ≤ gb508)); have GE508 := GW508; replace HB := mA (below_step (bT HB) hb); clear hb hbox hg; obtain ⟨hcz5_0, hcz5_1, hcz5_2, hfz5_0, hfz5_1, hfz5_2⟩ := blk3 BK508.out) | ((with_reducible refine gate_callee (f := 25) rfl ?_); refine goesT (some 9) Try.func25 #[.agg #[.slice A0_0 l0_0.length c0_0, .int .i64 a0_1, .int .i64 a0_2], .int .i64 1048576] ?_; (with_reducible refine (laws_szJoiner.calls k _ _ l0_0 a0_1 a0_2 1048576 t509 _ ?side1 ?side2 A2.out).mono ?_); (case side1 => exact cT (Kd.C_below HR0_0.out HB.out)); (case side2 => exact HC0_0.out); rintro e w6 ⟨rfl, hb⟩; refine ⟨_, rfl, ?_⟩; replace HB := mA (below_step (bT1 HB GE508) hb); (try clear hb)))
  go_ret
  exact ⟨eT, bT1 HB GE508⟩
 ·
  rw [if_neg c3] at H
  have c3b0 : decide (t509 < 0) = false := decide_eq_false c3
  clear c3
  obtain ⟨⟨t510, t513, t514⟩, A7, H⟩ := Option.bind_eq_some_iff.mp H
  replace A7 := mA A7
  try dsimp only at H
  obtain ⟨t515, A8, H⟩ := Option.bind_eq_some_iff.mp H
  replace A8 := mA A8
  try dsimp only at H
  obtain ⟨⟨t516, t519, t520⟩, A9, H⟩ := Option.bind_eq_some_iff.mp H
  replace A9 := mA A9
  try dsimp only at H
  obtain ⟨t522, A10, H⟩ := Option.bind_eq_some_iff.mp H
  replace A10 := mA A10
  try dsimp only at H
  by_cases c11 : t522.toList = t515.toList
  ·
   rw [if_pos c11] at H
   have c11b0 : (t522.toList == t515.toList) = true := beq_iff_eq.mpr c11
   have c11b1 : (t522.toList != t515.toList) = false := bne_eq_false_iff_eq.mpr c11
   clear c11
   obtain ⟨⟨t523, t526, t527⟩, A12, H⟩ := Option.bind_eq_some_iff.mp H
   replace A12 := mA A12
   try dsimp only at H
   obtain ⟨t528, A13, H⟩ := Option.bind_eq_some_iff.mp H
   replace A13 := mA A13
   replace H : (if t528 = true then (some true) else (some false)) = some r := H
   by_cases c14 : t528 = true
   ·
    subst c14
    rw [if_pos rfl] at H
    obtain rfl := Option.some.inj H
    go_enter Try.func6, Try.ntmps6
    try go_wp2_with (first | ((with_reducible refine gate_dst (N := 1) rfl ?_); refine boxT 1 #[.slice A0_0 l0_0.length c0_0, .int .i64 a0_1, .int .i64 a0_2] 54 ?_; intro gb508 hg w15 hbox hb; have BK508 := mA (hbox); have GW508 := mA ((by rw [hg]; exact (below_size (bT HB)) : w.heap.size ≤ gb508)); have GE508 := GW508; replace HB := mA (below_step (bT HB) hb); clear hb hbox hg; obtain ⟨hcz16_0, hcz16_1, hcz16_2, hfz16_0, hfz16_1, hfz16_2⟩ := blk3 BK508.out) | ((with_reducible refine gate_callee (f := 25) rfl ?_); refine goesT (some 9) Try.func25 #[.agg #[.slice A0_0 l0_0.length c0_0, .int .i64 a0_1, .int .i64 a0_2], .int .i64 1048576] ?_; (with_reducible refine (laws_szJoiner.calls k _ _ l0_0 a0_1 a0_2 1048576 t509 _ ?side1 ?side2 A2.out).mono ?_); (case side1 => exact cT (Kd.C_below HR0_0.out HB.out)); (case side2 => exact HC0_0.out); rintro e w17 ⟨rfl, hb⟩; refine ⟨_, rfl, ?_⟩; replace BK508 := kB BK508 hb; replace HB := mA (below_step (bT1 HB GE508) hb); (try clear hb); (try clear hk); obtain ⟨hcz18_0, hcz18_1, hcz18_2, hfz18_0, hfz18_1, hfz18_2⟩ := blk3 BK508.out) | ((with_reducible refine gate_callee (f := 27) rfl ?_); refine goesT (some 13) Try.func27 #[.agg #[.slice A0_0 l0_0.length c0_0, .int .i64 a0_1, .int .i64 a0_2]] ?_; (with_reducible refine (laws_toJoiner.calls k _ _ l0_0 a0_1 a0_2 t510 t513 t514 _ ?side1 ?side2 A7.out).mono ?_); (case side1 => exact cT (Kd.C_below HR0_0.out HB.out)); (case side2 => exact HC0_0.out); rintro e w19 ⟨v511, rfl, ho0, hb⟩; refine ⟨_, rfl, ?_⟩; have HO512 := mA (Kd.S_lower ho0 (below_size (bT1 HB GE508))); replace BK508 := kB BK508 hb; replace HB := mA (below_step (bT1 HB GE508) hb); (try clear hb); (try clear hk); (try clear ho0); obtain ⟨Ao20, co20, eo20⟩ := Kd.S_slice HO512.out; subst eo20) | ((with_reducible refine gate_callee (f := 26) rfl ?_); refine goesT (some 14) Try.func26 #[.agg #[.slice Ao20 t510.length co20, .int .i64 t513, .int .i64 t514]] ?_; (with_reducible refine (spec_FormatJoiner.calls k _ _ t510 t513 t514 t515 _ ?side1 ?side2 A8.out).mono ?_); (case side1 => exact cT ((Kd.S_reads' HO512.out).2.2)); (case side2 => exact (Kd.S_reads' HO512.out).2.1); rintro e w21 ⟨rfl, hb⟩; refine ⟨_, rfl, ?_⟩; replace HO512 := rBS HO512 hb; replace BK508 := kB BK508 hb; replace HB := mA (below_step (bT1 HB GE508) hb); (try clear hb); (try clear hk); obtain ⟨hcz22_0, hcz22_1, hcz22_2, hfz22_0, hfz22_1, hfz22_2⟩ := blk3 BK508.out) | ((with_reducible refine gate_callee (f := 27) rfl ?_); refine goesT (some 16) Try.func27 #[.agg #[.slice A0_0 l0_0.length c0_0, .int .i64 a0_1, .int .i64 a0_2]] ?_; (with_reducible refine (laws_toJoiner.calls k _ _ l0_0 a0_1 a0_2 t516 t519 t520 _ ?side1 ?side2 A9.out).mono ?_); (case side1 => exact cT (Kd.C_below HR0_0.out HB.out)); (case side2 => exact HC0_0.out); rintro e w23 ⟨v517, rfl, ho0, hb⟩; refine ⟨_, rfl, ?_⟩; have HO518 := mA (Kd.S_lower (Kd.S_new' ho0 (Kd.S_lt (rTS HO512))) (below_size (bT1 HB GE508))); replace HO512 := mA (Kd.S_elder' (rTS HO512) (Kd.S_base ho0) hb); replace BK508 := kB BK508 hb; replace HB := mA (below_step (bT1 HB GE508) hb); (try clear hb); (try clear hk); (try clear ho0)) | ((with_reducible refine gate_dst (N := 5) rfl ?_); refine boxT 5 #[.slice none 0 0, .int .i64 0, .int .i64 0] 59 ?_; intro gb521 hg w24 hbox hb; replace HO512 := rBS HO512 hb; replace HO518 := rBS HO518 hb; have BK521 := mA (hbox); have GW521 := mA ((by rw [hg]; exact (below_size (bT1 HB GE508)) : w.heap.size ≤ gb521)); have GE521 := GW521; replace HB := mA (below_step (bT1 HB GE508) hb); have NB508_521 : Aside0 (gb508 ≠ gb521) := nL BK508 hg; have NB521_508 : Aside0 (gb521 ≠ gb508) := nG BK508 hg; replace BK508 := kB BK508 hb; clear hb hbox hg; obtain ⟨Ao25, co25, eo25⟩ := Kd.S_slice HO518.out; subst eo25; have hnb26 := NB521_508.out; have hnc26 := NB508_521.out; obtain ⟨hcz27_0, hcz27_1, hcz27_2, hfz27_0, hfz27_1, hfz27_2⟩ := blk3 BK521.out) | ((with_reducible refine gate_callee (f := 28) rfl ?_); refine goesT (some 18) Try.func28 #[.agg #[.slice Ao25 t516.length co25, .int .i64 t519, .int .i64 t520]] ?_; (with_reducible refine (impl_FormatJoiner.calls k _ _ t516 t519 t520 t522 _ ?side1 ?side2 A10.out).mono ?_); (case side1 => refine (Kd.S_reads' (e := 37) (base := w.heap.size) (ok := fun k_ => (True ∧ some k_ ≠ (.slice Ao20 t510.length co20 : Value).ownBlock)) (n := t516.length) (c := co25) ?_).2.2; exact (by (with_reducible repeat (first | apply Kd.S_alloc | apply Kd.S_drewN | apply Kd.S_drew)); exact (Kd.S_mono (Kd.S_far (p := ⟨gb521, 2, none⟩) (Kd.S_far (p := ⟨gb521, 1, none⟩) (Kd.S_far (p := ⟨gb521, 0, none⟩) (Kd.S_types HO518.out BK521.out (by decide)) (fun _ hk => hk.2) (.slice Ao25 t516.length co25)) (fun _ hk => hk.2) (.int .i64 t519)) (fun _ hk => hk.2) (.int .i64 t520)) (fun _ h_ => h_.1)))); (case side2 => exact (Kd.S_reads' HO518.out).2.1); rintro e w28 ⟨rfl, hb⟩; refine ⟨_, rfl, ?_⟩; replace HO512 := mA (Kd.S_below (by (with_reducible repeat (first | apply Kd.S_alloc | apply Kd.S_drewN | apply Kd.S_drew)); exact (Kd.S_mono (Kd.S_far (p := ⟨gb521, 2, none⟩) (Kd.S_far (p := ⟨gb521, 1, none⟩) (Kd.S_far (p := ⟨gb521, 0, none⟩) (Kd.S_types HO512.out BK521.out (by decide)) (fun _ hk => hk.2) (.slice Ao25 t516.length co25)) (fun _ hk => hk.2) (.int .i64 t519)) (fun _ hk => hk.2) (.int .i64 t520)) (fun _ h_ => h_.1))) hb); replace HO518 := mA (Kd.S_below (by (with_reducible repeat (first | apply Kd.S_alloc | apply Kd.S_drewN | apply Kd.S_drew)); exact (Kd.S_mono (Kd.S_far (p := ⟨gb521, 2, none⟩) (Kd.S_far (p := ⟨gb521, 1, none⟩) (Kd.S_far (p := ⟨gb521, 0, none⟩) (Kd.S_types HO518.out BK521.out (by decide)) (fun _ hk => hk.2) (.slice Ao25 t516.length co25)) (fun _ hk => hk.2) (.int .i64 t519)) (fun _ hk => hk.2) (.int .i64 t520)) (fun _ h_ => h_.1))) hb); replace BK508 := mA (blk_below (g := gb508) (o := .cells #[.slice A0_0 l0_0.length c0_0, .int .i64 a0_1, .int .i64 a0_2] 54 (0, 0)) (by (with_reducible repeat (first | refine blk_drewN ?_ _ | refine blk_drew ?_ | refine blk_alloc ?_ _)); refine blk_far ?_ NB508_521.out _; (with_reducible repeat (first | refine blk_drewN ?_ _ | refine blk_drew ?_ | refine blk_alloc ?_ _)); refine blk_far ?_ NB508_521.out _; (with_reducible repeat (first | refine blk_drewN ?_ _ | refine blk_drew ?_ | refine blk_alloc ?_ _)); refine blk_far ?_ NB508_521.out _; (with_reducible repeat (first | refine blk_drewN ?_ _ | refine blk_drew ?_ | refine blk_alloc ?_ _)); exact BK508.out) hb); replace BK521 := mA (blk_below (g := gb521) (o := .cells #[.slice Ao25 t516.length co25, .int .i64 t519, .int .i64 t520] 59 (0, 0)) (by (with_reducible repeat (first | refine blk_drewN ?_ _ | refine blk_drew ?_ | refine blk_alloc ?_ _)); refine blk_put (cs := #[.slice Ao25 t516.length co25, .int .i64 t519, .int .i64 0]) ?_ 2 _ rfl; (with_reducible repeat (first | refine blk_drewN ?_ _ | refine blk_drew ?_ | refine blk_alloc ?_ _)); refine blk_put (cs := #[.slice Ao25 t516.length co25, .int .i64 0, .int .i64 0]) ?_ 1 _ rfl; (with_reducible repeat (first | refine blk_drewN ?_ _ | refine blk_drew ?_ | refine blk_alloc ?_ _)); refine blk_put (cs := #[.slice none 0 0, .int .i64 0, .int .i64 0]) ?_ 0 _ rfl; (with_reducible repeat (first | refine blk_drewN ?_ _ | refine blk_drew ?_ | refine blk_alloc ?_ _)); exact BK521.out) hb); replace HB := mA (below_step (bT2 HB GE508 GE521) hb); (try clear hb); (try clear hk)))
    replace HO512 := mA (Kd.S_drew HO512.out)
    replace HO518 := mA (Kd.S_drew HO518.out)
    replace BK508 := mA (blk_drew BK508.out)
    replace BK521 := mA (blk_drew BK521.out)
    replace HB := mA (below_drew1 HB.out)
    refine start_ (n := 5) (S := fun w' => w'.cell? ⟨gb521, 0, none⟩ = some (.slice Ao25 t516.length co25) ∧ w'.cell? ⟨gb521, 1, none⟩ = some (.int .i64 t519) ∧ w'.cell? ⟨gb521, 2, none⟩ = some (.int .i64 t520) ∧ w'.cell? ⟨gb508, 0, none⟩ = some (.slice A0_0 l0_0.length c0_0) ∧ w'.cell? ⟨gb508, 1, none⟩ = some (.int .i64 a0_1) ∧ w'.cell? ⟨gb508, 2, none⟩ = some (.int .i64 a0_2)) (ds := []) #[false, false, false, false, false] (by kernel_rfl) rfl rfl ⟨(blk_cell BK521.out 0).trans rfl, (blk_cell BK521.out 1).trans rfl, (blk_cell BK521.out 2).trans rfl, (blk_cell BK508.out 0).trans rfl, (blk_cell BK508.out 1).trans rfl, (blk_cell BK508.out 2).trans rfl⟩ (fun hHeld => ?_)
    generalize w28.drew = w29 at HO512 HO518 BK508 BK521 HB hHeld ⊢
    refine take_ (i := 0) (N := some 22) (v := ?_) (a' := ?_) #[true, false, false, false, false] rfl rfl (by kernel_rfl) (fun _ _ _ h => h) (Or.inl ⟨by rfl, ?_⟩) hHeld ?_ ?_
    rotate_left
    ·
     rintro w' ⟨s0, s1, s2, s3, s4, s5⟩
     go_simp
     with_reducible rfl
    rotate_left
    ·
     simp only [Act.put, List.setIfInBounds_toArray, List.set_cons_zero, List.set_cons_succ, i64_w, i32_w]
     rfl
    refine take_ (i := 1) (N := some 23) (v := ?_) (a' := ?_) #[true, true, false, false, false] rfl rfl (by kernel_rfl) (fun _ _ _ h => h) (Or.inl ⟨by rfl, ?_⟩) hHeld ?_ ?_
    rotate_left
    ·
     rintro w' ⟨s0, s1, s2, s3, s4, s5⟩
     go_simp
     with_reducible rfl
    rotate_left
    ·
     simp only [Act.put, List.setIfInBounds_toArray, List.set_cons_zero, List.set_cons_succ, i64_w, i32_w]
     rfl
    refine one_ (i := 2) (N := some 24) #[true, true, true, false, false] rfl rfl (by kernel_rfl) (by decide) (fun K hK => ?_)
    refine goes_ Try.func27 (by kernel_rfl) rfl #[.agg #[.slice A0_0 l0_0.length c0_0, .int .i64 a0_1, .int .i64 a0_2]] (by rfl) rfl rfl mT ?_
    with_reducible refine (laws_toJoiner.calls k _ _ l0_0 a0_1 a0_2 t523 t526 t527 _ ?side1 ?side2 A12.out).mono ?_
    (case side1 => exact cT (Kd.C_below HR0_0.out HB.out))
    (case side2 => exact HC0_0.out)
    rintro e w30 ⟨v524, rfl, ho0, hb⟩
    refine ⟨_, rfl, ?_⟩
    have HO525 := mA (Kd.S_lower (Kd.S_new' (Kd.S_new' ho0 (Kd.S_lt (rTS HO512))) (Kd.S_lt (rTS HO518))) (below_size (bT2 HB GE508 GE521)))
    replace HO518 := mA (Kd.S_elder' (rTS HO518) (Kd.S_base ho0) hb)
    replace BK508 := kB BK508 hb
    replace BK521 := kB BK521 hb
    replace HB := mA (below_step (bT2 HB GE508 GE521) hb)
    (try clear hb)
    (try clear hb2)
    (try clear hk)
    (try clear hi)
    (try clear ho0)
    obtain ⟨Ao31, co31, eo31⟩ := Kd.S_slice HO525.out
    (first | subst eo31 | (injection eo31 with f1_ f2_ f3_; have f4_ := f1_.symm; have f5_ := f3_.symm; clear f1_ f2_ f3_; subst f4_; subst f5_))
    refine hK.out _ _ ⟨(blk_cell BK521.out 0).trans rfl, (blk_cell BK521.out 1).trans rfl, (blk_cell BK521.out 2).trans rfl, (blk_cell BK508.out 0).trans rfl, (blk_cell BK508.out 1).trans rfl, (blk_cell BK508.out 2).trans rfl⟩ (fun hHeld => ?_)
    clear hK K
    refine norm_ (a' := ?_) ?_ ?_
    rotate_left
    ·
     show Act.put _ (some 24) _ = _
     simp only [Act.put, List.setIfInBounds_toArray, List.set_cons_zero, List.set_cons_succ, i64_w, i32_w]
     rfl
    refine one_ (i := 3) (N := some 25) #[true, true, true, true, false] rfl rfl (by kernel_rfl) (by decide) (fun K hK => ?_)
    refine goes_ Try.func29 (by kernel_rfl) rfl #[.agg #[.slice Ao25 t516.length co25, .int .i64 t519, .int .i64 t520], .agg #[.slice Ao31 t523.length co31, .int .i64 t526, .int .i64 t527]] (by rfl) rfl rfl mT ?_
    with_reducible refine (laws_eqJoiner.calls k _ _ t516 t519 t520 _ _ t523 t526 t527 true _ ?side1 ?side2 ?side3 ?side4 A13.out).mono ?_
    (case side1 => exact cT ((Kd.S_reads' HO518.out).2.2))
    (case side2 => exact (Kd.S_reads' HO518.out).2.1)
    (case side3 => exact cT ((Kd.S_reads' HO525.out).2.2))
    (case side4 => exact (Kd.S_reads' HO525.out).2.1)
    rintro e w32 ⟨rfl, hb⟩
    refine ⟨_, rfl, ?_⟩
    replace BK508 := kB BK508 hb
    replace BK521 := kB BK521 hb
    replace HB := mA (below_step (bT2 HB GE508 GE521) hb)
    (try clear hb)
    (try clear hb2)
    (try clear hk)
    (try clear hi)
    refine hK.out _ _ ⟨(blk_cell BK521.out 0).trans rfl, (blk_cell BK521.out 1).trans rfl, (blk_cell BK521.out 2).trans rfl, (blk_cell BK508.out 0).trans rfl, (blk_cell BK508.out 1).trans rfl, (blk_cell BK508.out 2).trans rfl⟩ (fun hHeld => ?_)
    clear hK K
    refine norm_ (a' := ?_) ?_ ?_
    rotate_left
    ·
     show Act.put _ (some 25) _ = _
     simp only [Act.put, List.setIfInBounds_toArray, List.set_cons_zero, List.set_cons_succ, i64_w, i32_w]
     rfl
    refine pureT (i := 4) (N := some 26) #[true, true, true, true, true] (by kernel_rfl) ?_
    refine done_ (by kernel_rfl) ?_
    try go_wp2
    go_ret
    exact ⟨eT, bT2 HB GE508 GE521⟩
   ·
    replace c14 := Bool.eq_false_iff.mpr c14
    subst c14
    rw [if_neg (show ¬ (false = true) by decide)] at H
    exact absurd ((Option.some.inj H).trans HT.out) (by simp)
  ·
   rw [if_neg c11] at H
   have c11b0 : (t522.toList == t515.toList) = false := beq_eq_false_iff_ne.mpr c11
   have c11b1 : (t522.toList != t515.toList) = true := bne_iff_ne.mpr c11
   exact absurd ((Option.some.inj H).trans HT.out) (by simp)

end Go.Proofs.Ytnllplklggoabaa.P
