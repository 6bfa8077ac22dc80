/- Written by tools/seatprint.py over the translation. Lean checks it. -/
import Derived.Test.YtoncjohnkiilcaaP0
import Derived.Test.YtoncjohnkiilcaaP86c0
import Derived.Test.YtoncjohnkiilcaaP8ec0
namespace Go.Proofs.Ytoncjohnkiilcaa.P
open Go.RowKit Go.Proofs.YtoncjohnkiilcaaW.PrintWords Go.Proofs.YtoncjohnkiilcaaW.PrintLast Go.Proofs.YtoncjohnkiilcaaW.PrintMore
attribute [local go_sem] max2_int min2_int max_two min_two max_three min_three max_four min_four
set_option linter.unusedVariables false
set_option linter.unusedSimpArgs false

attribute [local go_sem high] eqA73
/-! ### spec_l6Rows: function 54 -/
def spec_l6Rows.l0 : Nat → List (S73) → List (S73) → Int → Option (Bool)
 | 0, _, _, _ => none
 | k + 1, x0, x1, x5 => if x5 < (x0.length : Int) then (if 0 ≤ x5 then (if x5 < (x1.length : Int) then (if (!(((rd_T73 x0 x5).f0) == ((rd_T73 x1 x5).f0)) || (!(((rd_T73 x0 x5).f1) == ((rd_T73 x1 x5).f1)) || (!(((rd_T73 x0 x5).f2) == ((rd_T73 x1 x5).f2))))) = true then (some false) else (spec_l6Rows.l0 k x0 x1 (wrap64 (x5 + 1)))) else (none)) else (none)) else (some true)
def spec_l6Rows.f (k : Nat) (l0 : List (S73)) (l1 : List (S73)) : Option (Bool) := if (l0.length : Int) = (l1.length : Int) then (spec_l6Rows.l0 k l0 l1 0) else (some false)
theorem spec_l6Rows.mono_l : ∀ k, (∀ y0 y1 y2, LeO (spec_l6Rows.l0 k y0 y1 y2) (spec_l6Rows.l0 (k + 1) y0 y1 y2))
 | 0 => fun _ _ _ r h => by simp [spec_l6Rows.l0] at h
 | k + 1 => by
  have ih0 := spec_l6Rows.mono_l k
  ·
   intro y0 y1 y2
   unfold spec_l6Rows.l0
   repeat' first
   | (with_reducible exact ih0 _ _ _)
   | (with_reducible exact LeO.refl _)
   | (with_reducible exact LeO.none _)
   | (with_reducible refine LeO.ite ?_ ?_)
   | (with_reducible refine LeO.bind ?_ (fun _ => ?_))
   | exact ih0 _ _ _
   | exact LeO.none _
   | refine LeO.ite ?_ ?_
   | refine LeO.bind ?_ (fun _ => ?_)
theorem spec_l6Rows.mono : ∀ a0 a1 k, LeO (spec_l6Rows.f k a0 a1) (spec_l6Rows.f (k + 1) a0 a1) := by
 intro a0 a1 k
 have ih0 := spec_l6Rows.mono_l k
 unfold spec_l6Rows.f
 repeat' first
   | (with_reducible exact ih0 _ _ _)
   | (with_reducible exact LeO.refl _)
   | (with_reducible exact LeO.none _)
   | (with_reducible refine LeO.ite ?_ ?_)
   | (with_reducible refine LeO.bind ?_ (fun _ => ?_))
   | exact ih0 _ _ _
   | exact LeO.none _
   | refine LeO.ite ?_ ?_
   | refine LeO.bind ?_ (fun _ => ?_)
set_option maxHeartbeats 8000000 in
set_option maxRecDepth 100000 in
theorem spec_l6Rows.calls (k : Nat) (A0 : Option Addr) (c0 : Nat) (l0 : List (S73)) (A1 : Option Addr) (c1 : Nat) (l1 : List (S73)) (r : Bool) (w : World) (hr0 : Kd.C k73 w A0 l0.length l0) (hc0 : l0.length ≤ c0) (hr1 : Kd.C k73 w A1 l1.length l1) (hc1 : l1.length ≤ c1) (h : spec_l6Rows.f k l0 l1 = some r) :
  Calls Try.prog 54 #[.slice A0 l0.length c0, .slice A1 l1.length c1] w fun e w' => e = .returned (.bool r) ∧ Drawn0 w w' := by
 have hu73 := Try.underlying73
 have HR0 := mA hr0
 have HC0 := mA hc0
 clear hr0 hc0
 have HR1 := mA hr1
 have HC1 := mA hc1
 clear hr1 hc1
 have H : (if (l0.length : Int) = (l1.length : Int) then (spec_l6Rows.l0 k l0 l1 0) else (some false)) = some r := h
 clear h
 by_cases c3 : (l0.length : Int) = (l1.length : Int)
 ·
  rw [if_pos c3] at H
  have c3b0 : ((l0.length : Int) == (l1.length : Int)) = true := beq_iff_eq.mpr c3
  have c3b1 : ((l0.length : Int) != (l1.length : Int)) = false := bne_eq_false_iff_eq.mpr c3
  have c3b2 : (l0.length == l1.length) = true := by first | simpa using c3 | (simp at c3 ⊢; omega)
  clear c3
  have H' := mA H
  clear H
  go_enter Try.func54, Try.ntmps54
  go_wp2
  repeat (go_quiet (fail); try go_wp2)
  go_loopg [5] k (fun kq v5 w' => ∃ (x5_1 : Int), v5 = .int .i64 x5_1 ∧ Aside0 (spec_l6Rows.l0 kq l0 l1 x5_1 = some r) ∧ Aside0 (kq ≤ k) ∧ Drawn0 w w')
  case atStart => exact ⟨(0), sT, H', ⟨Nat.le_refl _⟩, by repeat (first | exact Drawn0.refl _ | apply Drawn0.step)⟩
  case round =>
   clear H'
   try clear c1
   try clear p2
   try clear c3
   try clear c3b0
   try clear c3b1
   try clear c3b2
   obtain ⟨x5_1, rfl, HA, HK1, ⟨m1, rfl⟩⟩ := hrel
   cases gk with
   | zero => exact absurd HA.out (by simp [spec_l6Rows.l0])
   | succ k1 =>
    have H := HA.out
    clear HA
    simp only [spec_l6Rows.l0] at H
    by_cases c4 : x5_1 < (l0.length : Int)
    ·
     rw [if_pos c4] at H
     have c4b0 : decide (x5_1 < (l0.length : Int)) = true := decide_eq_true c4
     clear c4
     by_cases c5 : 0 ≤ x5_1
     ·
      rw [if_pos c5] at H
      have c5b0 : decide (0 ≤ x5_1) = true := decide_eq_true c5
      clear c5
      by_cases c6 : x5_1 < (l1.length : Int)
      ·
       rw [if_pos c6] at H
       have c6b0 : decide (x5_1 < (l1.length : Int)) = true := decide_eq_true c6
       clear c6
       by_cases c7 : (!(((rd_T73 l0 x5_1).f0) == ((rd_T73 l1 x5_1).f0)) || (!(((rd_T73 l0 x5_1).f1) == ((rd_T73 l1 x5_1).f1)) || (!(((rd_T73 l0 x5_1).f2) == ((rd_T73 l1 x5_1).f2))))) = true
       ·
        rw [if_pos c7] at H
        have c7b0 : (!(((rd_T73 l0 x5_1).f0) == ((rd_T73 l1 x5_1).f0)) || (!(((rd_T73 l0 x5_1).f1) == ((rd_T73 l1 x5_1).f1)) || (!(((rd_T73 l0 x5_1).f2) == ((rd_T73 l1 x5_1).f2))))) = true := c7
        clear c7
        obtain rfl := Option.some.inj H
        have p152 : 0 ≤ (x5_1 : Int) := of_decide_eq_true aT
        have q152 : x5_1 < (l0.length : Int) := of_decide_eq_true aT
        obtain ⟨ad152, e152, hx152_0, hx152_1, hx152_2⟩ := at_T73 HR0.out x5_1 p152 q152
        cases e152
        replace p152 := eq_true p152
        replace q152 := eq_true q152
        have p153 : 0 ≤ (x5_1 : Int) := of_decide_eq_true aT
        have q153 : x5_1 < (l1.length : Int) := of_decide_eq_true aT
        obtain ⟨ad153, e153, hx153_0, hx153_1, hx153_2⟩ := at_T73 HR1.out x5_1 p153 q153
        cases e153
        replace p153 := eq_true p153
        replace q153 := eq_true q153
        go_wp2
        repeat (go_quiet (fail); try go_wp2)
        go_ret
        exact ⟨sT, by repeat (first | exact Drawn0.refl _ | apply Drawn0.step)⟩
       ·
        rw [if_neg c7] at H
        have c7b0 : (!(((rd_T73 l0 x5_1).f0) == ((rd_T73 l1 x5_1).f0)) || (!(((rd_T73 l0 x5_1).f1) == ((rd_T73 l1 x5_1).f1)) || (!(((rd_T73 l0 x5_1).f2) == ((rd_T73 l1 x5_1).f2))))) = false := by simpa using c7
        clear c7
        have H' := mA H
        clear H
        have p152 : 0 ≤ (x5_1 : Int) := of_decide_eq_true aT
        have q152 : x5_1 < (l0.length : Int) := of_decide_eq_true aT
        obtain ⟨ad152, e152, hx152_0, hx152_1, hx152_2⟩ := at_T73 HR0.out x5_1 p152 q152
        cases e152
        replace p152 := eq_true p152
        replace q152 := eq_true q152
        have p153 : 0 ≤ (x5_1 : Int) := of_decide_eq_true aT
        have q153 : x5_1 < (l1.length : Int) := of_decide_eq_true aT
        obtain ⟨ad153, e153, hx153_0, hx153_1, hx153_2⟩ := at_T73 HR1.out x5_1 p153 q153
        cases e153
        replace p153 := eq_true p153
        replace q153 := eq_true q153
        go_wp2
        repeat (go_quiet (fail); try go_wp2)
        go_roundg k1
        case measure => have := HK1.out; omega
        case rel => exact ⟨(wrap64 (x5_1 + 1)), sT, H', ⟨by have := HK1.out; omega⟩, by repeat (first | exact Drawn0.refl _ | apply Drawn0.step)⟩
      ·
       rw [if_neg c6] at H
       exact absurd H (by simp)
     ·
      rw [if_neg c5] at H
      exact absurd H (by simp)
    ·
     rw [if_neg c4] at H
     have c4b0 : decide (x5_1 < (l0.length : Int)) = false := decide_eq_false c4
     clear c4
     obtain rfl := Option.some.inj H
     go_wp2
     repeat (go_quiet (fail); try go_wp2)
     go_ret
     exact ⟨sT, by repeat (first | exact Drawn0.refl _ | apply Drawn0.step)⟩
 ·
  rw [if_neg c3] at H
  have c3b0 : ((l0.length : Int) == (l1.length : Int)) = false := beq_eq_false_iff_ne.mpr c3
  have c3b1 : ((l0.length : Int) != (l1.length : Int)) = true := bne_iff_ne.mpr c3
  have c3b2 : (l0.length == l1.length) = false := by first | simpa using c3 | (simp at c3 ⊢; omega)
  obtain rfl := Option.some.inj H
  go_enter Try.func54, Try.ntmps54
  go_wp2
  repeat (go_quiet (fail); try go_wp2)
  go_ret
  exact ⟨sT, by repeat (first | exact Drawn0.refl _ | apply Drawn0.step)⟩

/-! ### spec_EqualAggregators: function 21 -/
mutual
def spec_EqualAggregators.j0 : Nat → Bool → List (S80) → Int → Bool → List (S80) → Int → Bool → Option (Bool)
 | 0, _, _, _, _, _, _, _ => none
 | k + 1, x26, x155000, x155001, x155002, x156000, x156001, x156002 => if x26 = true then (some false) else (spec_EqualAggregators.l0 k 0 x155000 x155001 x155002 x156000 x156001 x156002)
def spec_EqualAggregators.l0 : Nat → Int → List (S80) → Int → Bool → List (S80) → Int → Bool → Option (Bool)
 | 0, _, _, _, _, _, _, _ => none
 | k + 1, x5, x155000, x155001, x155002, x156000, x156001, x156002 => if x5 < (x155000.length : Int) then (if 0 ≤ x5 then (if x5 < (x156000.length : Int) then (if ((rd_T80 x155000 x5).f1) = ((rd_T80 x156000 x5).f1) then ((spec_l6Rows.f k ((rd_T80 x155000 x5).f0) ((rd_T80 x156000 x5).f0)).bind fun t160 => (if t160 = true then (spec_EqualAggregators.l0 k (wrap64 (x5 + 1)) x155000 x155001 x155002 x156000 x156001 x156002) else (some false))) else (some false)) else (none)) else (none)) else (some true)
end
def spec_EqualAggregators.f (k : Nat) (l0_0 : List (S80)) (a0_1 : Int) (a0_2 : Bool) (l1_0 : List (S80)) (a1_1 : Int) (a1_2 : Bool) : Option (Bool) := if a0_1 = a1_1 then (if (a0_2 != a1_2) = true then (spec_EqualAggregators.j0 k true l0_0 a0_1 a0_2 l1_0 a1_1 a1_2) else (spec_EqualAggregators.j0 k ((l0_0.length : Int) != (l1_0.length : Int)) l0_0 a0_1 a0_2 l1_0 a1_1 a1_2)) else (spec_EqualAggregators.j0 k true l0_0 a0_1 a0_2 l1_0 a1_1 a1_2)
theorem spec_EqualAggregators.mono_l : ∀ k, (∀ y0 y1 y2 y3 y4 y5 y6, LeO (spec_EqualAggregators.j0 k y0 y1 y2 y3 y4 y5 y6) (spec_EqualAggregators.j0 (k + 1) y0 y1 y2 y3 y4 y5 y6)) ∧ (∀ y0 y1 y2 y3 y4 y5 y6, LeO (spec_EqualAggregators.l0 k y0 y1 y2 y3 y4 y5 y6) (spec_EqualAggregators.l0 (k + 1) y0 y1 y2 y3 y4 y5 y6))
 | 0 => ⟨fun _ _ _ _ _ _ _ r h => by simp [spec_EqualAggregators.j0] at h, fun _ _ _ _ _ _ _ r h => by simp [spec_EqualAggregators.l0] at h⟩
 | k + 1 => by
  obtain ⟨ih0, ih1⟩ := spec_EqualAggregators.mono_l k
  refine ⟨?_, ?_⟩
  ·
   intro y0 y1 y2 y3 y4 y5 y6
   unfold spec_EqualAggregators.j0
   repeat' first
   | (with_reducible exact ih0 _ _ _ _ _ _ _)
   | (with_reducible exact ih1 _ _ _ _ _ _ _)
   | (with_reducible exact spec_l6Rows.mono _ _ _)
   | (with_reducible exact LeO.refl _)
   | (with_reducible exact LeO.none _)
   | (with_reducible refine LeO.ite ?_ ?_)
   | (with_reducible refine LeO.bind ?_ (fun _ => ?_))
   | exact ih0 _ _ _ _ _ _ _
   | exact ih1 _ _ _ _ _ _ _
   | exact spec_l6Rows.mono _ _ _
   | exact LeO.none _
   | refine LeO.ite ?_ ?_
   | refine LeO.bind ?_ (fun _ => ?_)
  ·
   intro y0 y1 y2 y3 y4 y5 y6
   unfold spec_EqualAggregators.l0
   repeat' first
   | (with_reducible exact ih0 _ _ _ _ _ _ _)
   | (with_reducible exact ih1 _ _ _ _ _ _ _)
   | (with_reducible exact spec_l6Rows.mono _ _ _)
   | (with_reducible exact LeO.refl _)
   | (with_reducible exact LeO.none _)
   | (with_reducible refine LeO.ite ?_ ?_)
   | (with_reducible refine LeO.bind ?_ (fun _ => ?_))
   | exact ih0 _ _ _ _ _ _ _
   | exact ih1 _ _ _ _ _ _ _
   | exact spec_l6Rows.mono _ _ _
   | exact LeO.none _
   | refine LeO.ite ?_ ?_
   | refine LeO.bind ?_ (fun _ => ?_)
theorem spec_EqualAggregators.mono : ∀ a0 a1 a2 a3 a4 a5 k, LeO (spec_EqualAggregators.f k a0 a1 a2 a3 a4 a5) (spec_EqualAggregators.f (k + 1) a0 a1 a2 a3 a4 a5) := by
 intro a0 a1 a2 a3 a4 a5 k
 obtain ⟨ih0, ih1⟩ := spec_EqualAggregators.mono_l k
 unfold spec_EqualAggregators.f
 repeat' first
   | (with_reducible exact ih0 _ _ _ _ _ _ _)
   | (with_reducible exact ih1 _ _ _ _ _ _ _)
   | (with_reducible exact spec_l6Rows.mono _ _ _)
   | (with_reducible exact LeO.refl _)
   | (with_reducible exact LeO.none _)
   | (with_reducible refine LeO.ite ?_ ?_)
   | (with_reducible refine LeO.bind ?_ (fun _ => ?_))
   | exact ih0 _ _ _ _ _ _ _
   | exact ih1 _ _ _ _ _ _ _
   | exact spec_l6Rows.mono _ _ _
   | exact LeO.none _
   | refine LeO.ite ?_ ?_
   | refine LeO.bind ?_ (fun _ => ?_)
set_option maxHeartbeats 8000000 in
set_option maxRecDepth 100000 in
theorem spec_EqualAggregators.calls (k : Nat) (A0_0 : Option Addr) (c0_0 : Nat) (l0_0 : List (S80)) (a0_1 : Int) (a0_2 : Bool) (A1_0 : Option Addr) (c1_0 : Nat) (l1_0 : List (S80)) (a1_1 : Int) (a1_2 : Bool) (r : Bool) (w : World) (hr0_0 : Kd.C k80 w A0_0 l0_0.length l0_0) (hc0_0 : l0_0.length ≤ c0_0) (hr1_0 : Kd.C k80 w A1_0 l1_0.length l1_0) (hc1_0 : l1_0.length ≤ c1_0) (h : spec_EqualAggregators.f k l0_0 a0_1 a0_2 l1_0 a1_1 a1_2 = some r) :
  Calls Try.prog 21 #[.agg #[.slice A0_0 l0_0.length c0_0, .int .i64 a0_1, .bool a0_2], .agg #[.slice A1_0 l1_0.length c1_0, .int .i64 a1_1, .bool a1_2]] w fun e w' => e = .returned (.bool r) ∧ Below w.heap.size w w' := by
 have hu40 := Try.underlying40
 have HR0_0 := mA hr0_0
 have HC0_0 := mA hc0_0
 clear hr0_0 hc0_0
 have HR1_0 := mA hr1_0
 have HC1_0 := mA hc1_0
 clear hr1_0 hc1_0
 have HB := mA (Below.refl w.heap.size w)
 have H : (if a0_1 = a1_1 then (if (a0_2 != a1_2) = true then (spec_EqualAggregators.j0 k true l0_0 a0_1 a0_2 l1_0 a1_1 a1_2) else (spec_EqualAggregators.j0 k ((l0_0.length : Int) != (l1_0.length : Int)) l0_0 a0_1 a0_2 l1_0 a1_1 a1_2)) else (spec_EqualAggregators.j0 k true l0_0 a0_1 a0_2 l1_0 a1_1 a1_2)) = some r := h
 clear h
 have HC3 := mA H
 clear H
 go_enter Try.func21, Try.ntmps21
 go_upto_region 1 with (first | ((with_reducible refine gate_dst (N := 2) rfl ?_); (try (refine gate_guard (by rfl) ?_; dsimp only)); refine boxT 2 #[.slice A0_0 l0_0.length c0_0, .int .i64 a0_1, .bool a0_2] 40 ?_; intro gb154 hg w4 hbox hb; have BK154 := mA (hbox); have GW154 := mA ((by rw [hg]; exact (below_size (bT HB)) : w.heap.size ≤ gb154)); have GE154 := GW154; replace HB := mA (below_step (bT HB) hb); clear hb hbox hg) | ((with_reducible refine gate_dst (N := 3) rfl ?_); (try (refine gate_guard (by rfl) ?_; dsimp only)); refine boxT 3 #[.slice A1_0 l1_0.length c1_0, .int .i64 a1_1, .bool a1_2] 40 ?_; intro gb155 hg w5 hbox hb; have BK155 := mA (hbox); have GW155 := mA ((by rw [hg]; exact (below_size (bT1 HB GE154)) : w.heap.size ≤ gb155)); have GE155 := GW155; replace HB := mA (below_step (bT1 HB GE154) hb); have NB154_155 : Aside0 (gb154 ≠ gb155) := nL BK154 hg; have NB155_154 : Aside0 (gb155 ≠ gb154) := nG BK154 hg; replace BK154 := kB BK154 hb; clear hb hbox hg))
 repeat (go_quiet (first | ((with_reducible refine gate_dst (N := 2) rfl ?_); (try (refine gate_guard (by rfl) ?_; dsimp only)); refine boxT 2 #[.slice A0_0 l0_0.length c0_0, .int .i64 a0_1, .bool a0_2] 40 ?_; intro gb154 hg w4 hbox hb; have BK154 := mA (hbox); have GW154 := mA ((by rw [hg]; exact (below_size (bT HB)) : w.heap.size ≤ gb154)); have GE154 := GW154; replace HB := mA (below_step (bT HB) hb); clear hb hbox hg) | ((with_reducible refine gate_dst (N := 3) rfl ?_); (try (refine gate_guard (by rfl) ?_; dsimp only)); refine boxT 3 #[.slice A1_0 l1_0.length c1_0, .int .i64 a1_1, .bool a1_2] 40 ?_; intro gb155 hg w5 hbox hb; have BK155 := mA (hbox); have GW155 := mA ((by rw [hg]; exact (below_size (bT1 HB GE154)) : w.heap.size ≤ gb155)); have GE155 := GW155; replace HB := mA (below_step (bT1 HB GE154) hb); have NB154_155 : Aside0 (gb154 ≠ gb155) := nL BK154 hg; have NB155_154 : Aside0 (gb155 ≠ gb154) := nG BK154 hg; replace BK154 := kB BK154 hb; clear hb hbox hg)); go_upto_region 1 with (first | ((with_reducible refine gate_dst (N := 2) rfl ?_); (try (refine gate_guard (by rfl) ?_; dsimp only)); refine boxT 2 #[.slice A0_0 l0_0.length c0_0, .int .i64 a0_1, .bool a0_2] 40 ?_; intro gb154 hg w4 hbox hb; have BK154 := mA (hbox); have GW154 := mA ((by rw [hg]; exact (below_size (bT HB)) : w.heap.size ≤ gb154)); have GE154 := GW154; replace HB := mA (below_step (bT HB) hb); clear hb hbox hg) | ((with_reducible refine gate_dst (N := 3) rfl ?_); (try (refine gate_guard (by rfl) ?_; dsimp only)); refine boxT 3 #[.slice A1_0 l1_0.length c1_0, .int .i64 a1_1, .bool a1_2] 40 ?_; intro gb155 hg w5 hbox hb; have BK155 := mA (hbox); have GW155 := mA ((by rw [hg]; exact (below_size (bT1 HB GE154)) : w.heap.size ≤ gb155)); have GE155 := GW155; replace HB := mA (below_step (bT1 HB GE154) hb); have NB154_155 : Aside0 (gb154 ≠ gb155) := nL BK154 hg; have NB155_154 : Aside0 (gb155 ≠ gb154) := nG BK154 hg; replace BK154 := kB BK154 hb; clear hb hbox hg)))
 (try simp only [Act.put, List.setIfInBounds_toArray, List.set_cons_zero, List.set_cons_succ])
 go_cut [26] (fun v26 wc => ∃ (kq : Nat) (x26_2 : Bool), v26 = .bool x26_2 ∧ Aside0 (spec_EqualAggregators.j0 kq x26_2 l0_0 a0_1 a0_2 l1_0 a1_1 a1_2 = some r) ∧ Aside0 (kq ≤ k) ∧ Aside0 (wc.heap[gb154]? = some (.cells #[(.slice A0_0 l0_0.length c0_0), .int .i64 a0_1, .bool a0_2] 40 (0, 0))) ∧ Aside0 (wc.heap[gb155]? = some (.cells #[(.slice A1_0 l1_0.length c1_0), .int .i64 a1_1, .bool a1_2] 40 (0, 0))) ∧ Aside0 (Below w.heap.size w wc))
 case first =>
  have H := HC3.out
  clear HC3
  by_cases c6 : a0_1 = a1_1
  ·
   rw [if_pos c6] at H
   have c6b0 : (a0_1 == a1_1) = true := beq_iff_eq.mpr c6
   have c6b1 : (a0_1 != a1_1) = false := bne_eq_false_iff_eq.mpr c6
   clear c6
   (first | rw [c6b0] | (simp only [i64_w, i32_w]; rw [c6b0]) | skip)
   by_cases c7 : (a0_2 != a1_2) = true
   ·
    rw [if_pos c7] at H
    have c7b0 : (a0_2 != a1_2) = true := c7
    (try (have c7b1 : decide (a0_2 = a1_2) = false := by simpa using c7))
    (try (have c7b2 : (a0_2 == a1_2) = false := by simpa using c7))
    (try (have c7b3 : ¬ (a0_2 = a1_2) := by simpa using c7))
    clear c7
    have H' := mA H
    clear H
    have hnb8 := NB154_155.out
    have hnc8 := NB155_154.out
    have hcz9_0 : w5.cell? ⟨gb154, 0, none⟩ = some (.slice A0_0 l0_0.length c0_0) := (blk_cell BK154.out 0).trans rfl
    have hcz9_1 : w5.cell? ⟨gb154, 1, none⟩ = some (.int .i64 a0_1) := (blk_cell BK154.out 1).trans rfl
    have hcz9_2 : w5.cell? ⟨gb154, 2, none⟩ = some (.bool a0_2) := (blk_cell BK154.out 2).trans rfl
    have hfz9_0 := blk_frozen BK154.out 0
    have hfz9_1 := blk_frozen BK154.out 1
    have hfz9_2 := blk_frozen BK154.out 2
    have hcz10_0 : w5.cell? ⟨gb155, 0, none⟩ = some (.slice A1_0 l1_0.length c1_0) := (blk_cell BK155.out 0).trans rfl
    have hcz10_1 : w5.cell? ⟨gb155, 1, none⟩ = some (.int .i64 a1_1) := (blk_cell BK155.out 1).trans rfl
    have hcz10_2 : w5.cell? ⟨gb155, 2, none⟩ = some (.bool a1_2) := (blk_cell BK155.out 2).trans rfl
    have hfz10_0 := blk_frozen BK155.out 0
    have hfz10_1 := blk_frozen BK155.out 1
    have hfz10_2 := blk_frozen BK155.out 2
    go_wp2
    repeat (go_quiet (fail); try go_wp2)
    go_meet
    case rel => exact ⟨_, (true), sT, H', ⟨by first | omega | exact Nat.le_refl _⟩, ⟨kT BK154⟩, ⟨kT BK155⟩, ⟨bT2 HB GE154 GE155⟩⟩
   ·
    rw [if_neg c7] at H
    have c7b0 : (a0_2 != a1_2) = false := by simpa using c7
    (try (have c7b1 : decide (a0_2 = a1_2) = true := by simpa using c7))
    (try (have c7b2 : (a0_2 == a1_2) = true := by simpa using c7))
    clear c7
    have H' := mA H
    clear H
    have hnb11 := NB154_155.out
    have hnc11 := NB155_154.out
    have hcz12_0 : w5.cell? ⟨gb154, 0, none⟩ = some (.slice A0_0 l0_0.length c0_0) := (blk_cell BK154.out 0).trans rfl
    have hcz12_1 : w5.cell? ⟨gb154, 1, none⟩ = some (.int .i64 a0_1) := (blk_cell BK154.out 1).trans rfl
    have hcz12_2 : w5.cell? ⟨gb154, 2, none⟩ = some (.bool a0_2) := (blk_cell BK154.out 2).trans rfl
    have hfz12_0 := blk_frozen BK154.out 0
    have hfz12_1 := blk_frozen BK154.out 1
    have hfz12_2 := blk_frozen BK154.out 2
    have hcz13_0 : w5.cell? ⟨gb155, 0, none⟩ = some (.slice A1_0 l1_0.length c1_0) := (blk_cell BK155.out 0).trans rfl
    have hcz13_1 : w5.cell? ⟨gb155, 1, none⟩ = some (.int .i64 a1_1) := (blk_cell BK155.out 1).trans rfl
    have hcz13_2 : w5.cell? ⟨gb155, 2, none⟩ = some (.bool a1_2) := (blk_cell BK155.out 2).trans rfl
    have hfz13_0 := blk_frozen BK155.out 0
    have hfz13_1 := blk_frozen BK155.out 1
    have hfz13_2 := blk_frozen BK155.out 2
    go_wp2
    repeat (go_quiet (fail); try go_wp2)
    go_meet
    case rel => exact ⟨_, (((l0_0.length : Int) != (l1_0.length : Int))), sT, H', ⟨by first | omega | exact Nat.le_refl _⟩, ⟨kT BK154⟩, ⟨kT BK155⟩, ⟨bT2 HB GE154 GE155⟩⟩
  ·
   rw [if_neg c6] at H
   have c6b0 : (a0_1 == a1_1) = false := beq_eq_false_iff_ne.mpr c6
   have c6b1 : (a0_1 != a1_1) = true := bne_iff_ne.mpr c6
   (first | rw [c6b0] | (simp only [i64_w, i32_w]; rw [c6b0]) | skip)
   have H' := mA H
   clear H
   have hnb14 := NB154_155.out
   have hnc14 := NB155_154.out
   have hcz15_0 : w5.cell? ⟨gb154, 0, none⟩ = some (.slice A0_0 l0_0.length c0_0) := (blk_cell BK154.out 0).trans rfl
   have hcz15_1 : w5.cell? ⟨gb154, 1, none⟩ = some (.int .i64 a0_1) := (blk_cell BK154.out 1).trans rfl
   have hcz15_2 : w5.cell? ⟨gb154, 2, none⟩ = some (.bool a0_2) := (blk_cell BK154.out 2).trans rfl
   have hfz15_0 := blk_frozen BK154.out 0
   have hfz15_1 := blk_frozen BK154.out 1
   have hfz15_2 := blk_frozen BK154.out 2
   have hcz16_0 : w5.cell? ⟨gb155, 0, none⟩ = some (.slice A1_0 l1_0.length c1_0) := (blk_cell BK155.out 0).trans rfl
   have hcz16_1 : w5.cell? ⟨gb155, 1, none⟩ = some (.int .i64 a1_1) := (blk_cell BK155.out 1).trans rfl
   have hcz16_2 : w5.cell? ⟨gb155, 2, none⟩ = some (.bool a1_2) := (blk_cell BK155.out 2).trans rfl
   have hfz16_0 := blk_frozen BK155.out 0
   have hfz16_1 := blk_frozen BK155.out 1
   have hfz16_2 := blk_frozen BK155.out 2
   go_wp2
   repeat (go_quiet (fail); try go_wp2)
   go_meet
   case rel => exact ⟨_, (true), sT, H', ⟨by first | omega | exact Nat.le_refl _⟩, ⟨kT BK154⟩, ⟨kT BK155⟩, ⟨bT2 HB GE154 GE155⟩⟩
 case rest =>
  clear HC3
  try clear c1
  try clear c2
  try clear p2
  try clear c6
  try clear c6b0
  try clear c6b1
  try clear c7
  try clear c7b0
  try clear c7b1
  try clear c7b2
  try clear c8
  try clear c11
  try clear c14
  try clear hcz10_0
  try clear hcz10_1
  try clear hcz10_2
  try clear hcz12_0
  try clear hcz12_1
  try clear hcz12_2
  try clear hcz13_0
  try clear hcz13_1
  try clear hcz13_2
  try clear hcz15_0
  try clear hcz15_1
  try clear hcz15_2
  try clear hcz16_0
  try clear hcz16_1
  try clear hcz16_2
  try clear hcz9_0
  try clear hcz9_1
  try clear hcz9_2
  try clear hfz10_0
  try clear hfz10_1
  try clear hfz10_2
  try clear hfz12_0
  try clear hfz12_1
  try clear hfz12_2
  try clear hfz13_0
  try clear hfz13_1
  try clear hfz13_2
  try clear hfz15_0
  try clear hfz15_1
  try clear hfz15_2
  try clear hfz16_0
  try clear hfz16_1
  try clear hfz16_2
  try clear hfz9_0
  try clear hfz9_1
  try clear hfz9_2
  obtain ⟨kq, x26_2, rfl, HA, HJ2, BK154, BK155, HB⟩ := hcut
  cases kq with
  | zero => exact absurd HA.out (by simp [spec_EqualAggregators.j0])
  | succ kj2 =>
   have H := HA.out
   clear HA
   simp only [spec_EqualAggregators.j0] at H
   by_cases c17 : x26_2 = true
   ·
    subst c17
    rw [if_pos rfl] at H
    obtain rfl := Option.some.inj H
    go_wp2
    repeat (go_quiet (fail); try go_wp2)
    go_ret
    exact ⟨eT, bT2 HB GE154 GE155⟩
   ·
    replace c17 := Bool.eq_false_iff.mpr c17
    subst c17
    rw [if_neg (show ¬ (false = true) by decide)] at H
    have H' := mA H
    clear H
    go_wp2
    repeat (go_quiet (fail); try go_wp2)
    go_loopg [5] kj2 (fun kq v5 w' => ∃ (x5_2 : Int), v5 = .int .i64 x5_2 ∧ Aside0 (spec_EqualAggregators.l0 kq x5_2 l0_0 a0_1 a0_2 l1_0 a1_1 a1_2 = some r) ∧ Aside0 (kq ≤ kj2) ∧ Aside0 (w'.heap[gb154]? = some (.cells #[(.slice A0_0 l0_0.length c0_0), .int .i64 a0_1, .bool a0_2] 40 (0, 0))) ∧ Aside0 (w'.heap[gb155]? = some (.cells #[(.slice A1_0 l1_0.length c1_0), .int .i64 a1_1, .bool a1_2] 40 (0, 0))) ∧ Aside0 (Below w.heap.size w w'))
    case atStart => exact ⟨(0), sT, H', ⟨Nat.le_refl _⟩, ⟨kT BK154⟩, ⟨kT BK155⟩, ⟨bT2 HB GE154 GE155⟩⟩
    case round =>
     clear H'
     try clear c1
     try clear c2
     try clear p2
     try clear c6
     try clear c6b0
     try clear c6b1
     try clear c7
     try clear c7b0
     try clear c7b1
     try clear c7b2
     try clear c8
     try clear c11
     try clear c14
     try clear c17
     try clear hcz10_0
     try clear hcz10_1
     try clear hcz10_2
     try clear hcz12_0
     try clear hcz12_1
     try clear hcz12_2
     try clear hcz13_0
     try clear hcz13_1
     try clear hcz13_2
     try clear hcz15_0
     try clear hcz15_1
     try clear hcz15_2
     try clear hcz16_0
     try clear hcz16_1
     try clear hcz16_2
     try clear hcz9_0
     try clear hcz9_1
     try clear hcz9_2
     try clear hfz10_0
     try clear hfz10_1
     try clear hfz10_2
     try clear hfz12_0
     try clear hfz12_1
     try clear hfz12_2
     try clear hfz13_0
     try clear hfz13_1
     try clear hfz13_2
     try clear hfz15_0
     try clear hfz15_1
     try clear hfz15_2
     try clear hfz16_0
     try clear hfz16_1
     try clear hfz16_2
     try clear hfz9_0
     try clear hfz9_1
     try clear hfz9_2
     try clear p2
     obtain ⟨x5_2, rfl, HA, HK2, BK154, BK155, HB⟩ := hrel
     cases gk with
     | zero => exact absurd HA.out (by simp [spec_EqualAggregators.l0])
     | succ k2 =>
      have H := HA.out
      clear HA
      simp only [spec_EqualAggregators.l0] at H
      by_cases c18 : x5_2 < (l0_0.length : Int)
      ·
       rw [if_pos c18] at H
       have c18b0 : decide (x5_2 < (l0_0.length : Int)) = true := decide_eq_true c18
       clear c18
       by_cases c19 : 0 ≤ x5_2
       ·
        rw [if_pos c19] at H
        have c19b0 : decide (0 ≤ x5_2) = true := decide_eq_true c19
        clear c19
        by_cases c20 : x5_2 < (l1_0.length : Int)
        ·
         rw [if_pos c20] at H
         have c20b0 : decide (x5_2 < (l1_0.length : Int)) = true := decide_eq_true c20
         clear c20
         by_cases c21 : ((rd_T80 l0_0 x5_2).f1) = ((rd_T80 l1_0 x5_2).f1)
         ·
          rw [if_pos c21] at H
          have c21b0 : (((rd_T80 l0_0 x5_2).f1) == ((rd_T80 l1_0 x5_2).f1)) = true := beq_iff_eq.mpr c21
          have c21b1 : (((rd_T80 l0_0 x5_2).f1) != ((rd_T80 l1_0 x5_2).f1)) = false := bne_eq_false_iff_eq.mpr c21
          clear c21
          obtain ⟨t160, A22, H⟩ := Option.bind_eq_some_iff.mp H
          replace A22 := mA A22
          try dsimp only at H
          by_cases c23 : t160 = true
          ·
           subst c23
           rw [if_pos rfl] at H
           have H' := mA H
           clear H
           have hnb24 := NB154_155.out
           have hnc24 := NB155_154.out
           have hcz25_0 : wr.cell? ⟨gb154, 0, none⟩ = some (.slice A0_0 l0_0.length c0_0) := (blk_cell BK154.out 0).trans rfl
           have hcz25_1 : wr.cell? ⟨gb154, 1, none⟩ = some (.int .i64 a0_1) := (blk_cell BK154.out 1).trans rfl
           have hcz25_2 : wr.cell? ⟨gb154, 2, none⟩ = some (.bool a0_2) := (blk_cell BK154.out 2).trans rfl
           have hfz25_0 := blk_frozen BK154.out 0
           have hfz25_1 := blk_frozen BK154.out 1
           have hfz25_2 := blk_frozen BK154.out 2
           have p156 : 0 ≤ (x5_2 : Int) := of_decide_eq_true aT
           have q156 : x5_2 < (l0_0.length : Int) := of_decide_eq_true aT
           obtain ⟨ad156, A156_0, c156_0, e156, hx156_0, hx156_1, hl156_0, hi156_0⟩ := at_T80 HR0_0.out x5_2 p156 q156
           cases e156
           replace hx156_0 := (HB.out.cell (World.block_lt_of_cell? w _ hx156_0)).trans hx156_0
           replace hx156_1 := (HB.out.cell (World.block_lt_of_cell? w _ hx156_1)).trans hx156_1
           have HR156_0 := mA hi156_0
           have HC156_0 := mA hl156_0
           clear hi156_0 hl156_0
           replace p156 := eq_true p156
           replace q156 := eq_true q156
           have hcz26_0 : wr.cell? ⟨gb155, 0, none⟩ = some (.slice A1_0 l1_0.length c1_0) := (blk_cell BK155.out 0).trans rfl
           have hcz26_1 : wr.cell? ⟨gb155, 1, none⟩ = some (.int .i64 a1_1) := (blk_cell BK155.out 1).trans rfl
           have hcz26_2 : wr.cell? ⟨gb155, 2, none⟩ = some (.bool a1_2) := (blk_cell BK155.out 2).trans rfl
           have hfz26_0 := blk_frozen BK155.out 0
           have hfz26_1 := blk_frozen BK155.out 1
           have hfz26_2 := blk_frozen BK155.out 2
           have p157 : 0 ≤ (x5_2 : Int) := of_decide_eq_true aT
           have q157 : x5_2 < (l1_0.length : Int) := of_decide_eq_true aT
           obtain ⟨ad157, A157_0, c157_0, e157, hx157_0, hx157_1, hl157_0, hi157_0⟩ := at_T80 HR1_0.out x5_2 p157 q157
           cases e157
           replace hx157_0 := (HB.out.cell (World.block_lt_of_cell? w _ hx157_0)).trans hx157_0
           replace hx157_1 := (HB.out.cell (World.block_lt_of_cell? w _ hx157_1)).trans hx157_1
           have HR157_0 := mA hi157_0
           have HC157_0 := mA hl157_0
           clear hi157_0 hl157_0
           replace p157 := eq_true p157
           replace q157 := eq_true q157
           have p158 : 0 ≤ (x5_2 : Int) := of_decide_eq_true aT
           have q158 : x5_2 < (l0_0.length : Int) := of_decide_eq_true aT
           obtain ⟨ad158, A158_0, c158_0, e158, hx158_0, hx158_1, hl158_0, hi158_0⟩ := at_T80 HR0_0.out x5_2 p158 q158
           obtain rfl : ad156 = ad158 := (by injection e158)
           replace hx158_0 := (HB.out.cell (World.block_lt_of_cell? w _ hx158_0)).trans hx158_0
           replace hx158_1 := (HB.out.cell (World.block_lt_of_cell? w _ hx158_1)).trans hx158_1
           have HR158_0 := mA hi158_0
           have HC158_0 := mA hl158_0
           clear hi158_0 hl158_0
           replace p158 := eq_true p158
           replace q158 := eq_true q158
           first | (have ea_ := Option.some.inj (hx156_0.symm.trans hx158_0)) | (have ea_ := Option.some.inj (((HB.out.cell (World.block_lt_of_cell? w _ hw156_0)).trans hw156_0).symm.trans hx158_0))
           injection ea_ with ea_ en_ ec_
           subst ea_
           subst ec_
           clear en_
           have p159 : 0 ≤ (x5_2 : Int) := of_decide_eq_true aT
           have q159 : x5_2 < (l1_0.length : Int) := of_decide_eq_true aT
           obtain ⟨ad159, A159_0, c159_0, e159, hx159_0, hx159_1, hl159_0, hi159_0⟩ := at_T80 HR1_0.out x5_2 p159 q159
           obtain rfl : ad157 = ad159 := (by injection e159)
           replace hx159_0 := (HB.out.cell (World.block_lt_of_cell? w _ hx159_0)).trans hx159_0
           replace hx159_1 := (HB.out.cell (World.block_lt_of_cell? w _ hx159_1)).trans hx159_1
           have HR159_0 := mA hi159_0
           have HC159_0 := mA hl159_0
           clear hi159_0 hl159_0
           replace p159 := eq_true p159
           replace q159 := eq_true q159
           first | (have ea_ := Option.some.inj (hx157_0.symm.trans hx159_0)) | (have ea_ := Option.some.inj (((HB.out.cell (World.block_lt_of_cell? w _ hw157_0)).trans hw157_0).symm.trans hx159_0))
           injection ea_ with ea_ en_ ec_
           subst ea_
           subst ec_
           clear en_
           go_wp2_with (first | (go_at_call 54; (with_reducible refine (spec_l6Rows.calls k2 _ _ ((rd_T80 l0_0 x5_2).f0) _ _ ((rd_T80 l1_0 x5_2).f0) true _ ?side1 ?side2 ?side3 ?side4 A22.out).mono ?_); (case side1 => exact cT (Kd.C_below HR158_0.out HB.out)); (case side2 => exact HC158_0.out); (case side3 => exact cT (Kd.C_below HR159_0.out HB.out)); (case side4 => exact HC159_0.out); rintro e w' ⟨rfl, ⟨nd, rfl⟩⟩; (try first | exact ⟨rfl, _, World.drewN_drewN _ _ _⟩ | exact ⟨rfl, _, Eq.trans (World.drewN_drewN _ _ _) (congrArg (World.drewN _) (Nat.add_assoc _ _ _))⟩)))
           repeat (go_quiet (first | (go_at_call 54; (with_reducible refine (spec_l6Rows.calls k2 _ _ ((rd_T80 l0_0 x5_2).f0) _ _ ((rd_T80 l1_0 x5_2).f0) true _ ?side1 ?side2 ?side3 ?side4 A22.out).mono ?_); (case side1 => exact cT (Kd.C_below HR158_0.out HB.out)); (case side2 => exact HC158_0.out); (case side3 => exact cT (Kd.C_below HR159_0.out HB.out)); (case side4 => exact HC159_0.out); rintro e w' ⟨rfl, ⟨nd, rfl⟩⟩; (try first | exact ⟨rfl, _, World.drewN_drewN _ _ _⟩ | exact ⟨rfl, _, Eq.trans (World.drewN_drewN _ _ _) (congrArg (World.drewN _) (Nat.add_assoc _ _ _))⟩))); try go_wp2_with (first | (go_at_call 54; (with_reducible refine (spec_l6Rows.calls k2 _ _ ((rd_T80 l0_0 x5_2).f0) _ _ ((rd_T80 l1_0 x5_2).f0) true _ ?side1 ?side2 ?side3 ?side4 A22.out).mono ?_); (case side1 => exact cT (Kd.C_below HR158_0.out HB.out)); (case side2 => exact HC158_0.out); (case side3 => exact cT (Kd.C_below HR159_0.out HB.out)); (case side4 => exact HC159_0.out); rintro e w' ⟨rfl, ⟨nd, rfl⟩⟩; (try first | exact ⟨rfl, _, World.drewN_drewN _ _ _⟩ | exact ⟨rfl, _, Eq.trans (World.drewN_drewN _ _ _) (congrArg (World.drewN _) (Nat.add_assoc _ _ _))⟩))))
           go_roundg k2
           case measure => have := HJ2.out; have := HK2.out; omega
           case rel => exact ⟨(wrap64 (x5_2 + 1)), sT, H', ⟨by have := HJ2.out; have := HK2.out; omega⟩, ⟨kT BK154⟩, ⟨kT BK155⟩, ⟨bT2 HB GE154 GE155⟩⟩
          ·
           replace c23 := Bool.eq_false_iff.mpr c23
           subst c23
           rw [if_neg (show ¬ (false = true) by decide)] at H
           obtain rfl := Option.some.inj H
           have hnb27 := NB154_155.out
           have hnc27 := NB155_154.out
           have hcz28_0 : wr.cell? ⟨gb154, 0, none⟩ = some (.slice A0_0 l0_0.length c0_0) := (blk_cell BK154.out 0).trans rfl
           have hcz28_1 : wr.cell? ⟨gb154, 1, none⟩ = some (.int .i64 a0_1) := (blk_cell BK154.out 1).trans rfl
           have hcz28_2 : wr.cell? ⟨gb154, 2, none⟩ = some (.bool a0_2) := (blk_cell BK154.out 2).trans rfl
           have hfz28_0 := blk_frozen BK154.out 0
           have hfz28_1 := blk_frozen BK154.out 1
           have hfz28_2 := blk_frozen BK154.out 2
           have p156 : 0 ≤ (x5_2 : Int) := of_decide_eq_true aT
           have q156 : x5_2 < (l0_0.length : Int) := of_decide_eq_true aT
           obtain ⟨ad156, A156_0, c156_0, e156, hx156_0, hx156_1, hl156_0, hi156_0⟩ := at_T80 HR0_0.out x5_2 p156 q156
           cases e156
           replace hx156_0 := (HB.out.cell (World.block_lt_of_cell? w _ hx156_0)).trans hx156_0
           replace hx156_1 := (HB.out.cell (World.block_lt_of_cell? w _ hx156_1)).trans hx156_1
           have HR156_0 := mA hi156_0
           have HC156_0 := mA hl156_0
           clear hi156_0 hl156_0
           replace p156 := eq_true p156
           replace q156 := eq_true q156
           have hcz29_0 : wr.cell? ⟨gb155, 0, none⟩ = some (.slice A1_0 l1_0.length c1_0) := (blk_cell BK155.out 0).trans rfl
           have hcz29_1 : wr.cell? ⟨gb155, 1, none⟩ = some (.int .i64 a1_1) := (blk_cell BK155.out 1).trans rfl
           have hcz29_2 : wr.cell? ⟨gb155, 2, none⟩ = some (.bool a1_2) := (blk_cell BK155.out 2).trans rfl
           have hfz29_0 := blk_frozen BK155.out 0
           have hfz29_1 := blk_frozen BK155.out 1
           have hfz29_2 := blk_frozen BK155.out 2
           have p157 : 0 ≤ (x5_2 : Int) := of_decide_eq_true aT
           have q157 : x5_2 < (l1_0.length : Int) := of_decide_eq_true aT
           obtain ⟨ad157, A157_0, c157_0, e157, hx157_0, hx157_1, hl157_0, hi157_0⟩ := at_T80 HR1_0.out x5_2 p157 q157
           cases e157
           replace hx157_0 := (HB.out.cell (World.block_lt_of_cell? w _ hx157_0)).trans hx157_0
           replace hx157_1 := (HB.out.cell (World.block_lt_of_cell? w _ hx157_1)).trans hx157_1
           have HR157_0 := mA hi157_0
           have HC157_0 := mA hl157_0
           clear hi157_0 hl157_0
           replace p157 := eq_true p157
           replace q157 := eq_true q157
           have p158 : 0 ≤ (x5_2 : Int) := of_decide_eq_true aT
           have q158 : x5_2 < (l0_0.length : Int) := of_decide_eq_true aT
           obtain ⟨ad158, A158_0, c158_0, e158, hx158_0, hx158_1, hl158_0, hi158_0⟩ := at_T80 HR0_0.out x5_2 p158 q158
           obtain rfl : ad156 = ad158 := (by injection e158)
           replace hx158_0 := (HB.out.cell (World.block_lt_of_cell? w _ hx158_0)).trans hx158_0
           replace hx158_1 := (HB.out.cell (World.block_lt_of_cell? w _ hx158_1)).trans hx158_1
           have HR158_0 := mA hi158_0
           have HC158_0 := mA hl158_0
           clear hi158_0 hl158_0
           replace p158 := eq_true p158
           replace q158 := eq_true q158
           first | (have ea_ := Option.some.inj (hx156_0.symm.trans hx158_0)) | (have ea_ := Option.some.inj (((HB.out.cell (World.block_lt_of_cell? w _ hw156_0)).trans hw156_0).symm.trans hx158_0))
           injection ea_ with ea_ en_ ec_
           subst ea_
           subst ec_
           clear en_
           have p159 : 0 ≤ (x5_2 : Int) := of_decide_eq_true aT
           have q159 : x5_2 < (l1_0.length : Int) := of_decide_eq_true aT
           obtain ⟨ad159, A159_0, c159_0, e159, hx159_0, hx159_1, hl159_0, hi159_0⟩ := at_T80 HR1_0.out x5_2 p159 q159
           obtain rfl : ad157 = ad159 := (by injection e159)
           replace hx159_0 := (HB.out.cell (World.block_lt_of_cell? w _ hx159_0)).trans hx159_0
           replace hx159_1 := (HB.out.cell (World.block_lt_of_cell? w _ hx159_1)).trans hx159_1
           have HR159_0 := mA hi159_0
           have HC159_0 := mA hl159_0
           clear hi159_0 hl159_0
           replace p159 := eq_true p159
           replace q159 := eq_true q159
           first | (have ea_ := Option.some.inj (hx157_0.symm.trans hx159_0)) | (have ea_ := Option.some.inj (((HB.out.cell (World.block_lt_of_cell? w _ hw157_0)).trans hw157_0).symm.trans hx159_0))
           injection ea_ with ea_ en_ ec_
           subst ea_
           subst ec_
           clear en_
           go_wp2_with (first | (go_at_call 54; (with_reducible refine (spec_l6Rows.calls k2 _ _ ((rd_T80 l0_0 x5_2).f0) _ _ ((rd_T80 l1_0 x5_2).f0) false _ ?side1 ?side2 ?side3 ?side4 A22.out).mono ?_); (case side1 => exact cT (Kd.C_below HR158_0.out HB.out)); (case side2 => exact HC158_0.out); (case side3 => exact cT (Kd.C_below HR159_0.out HB.out)); (case side4 => exact HC159_0.out); rintro e w' ⟨rfl, ⟨nd, rfl⟩⟩; (try first | exact ⟨rfl, _, World.drewN_drewN _ _ _⟩ | exact ⟨rfl, _, Eq.trans (World.drewN_drewN _ _ _) (congrArg (World.drewN _) (Nat.add_assoc _ _ _))⟩)))
           repeat (go_quiet (first | (go_at_call 54; (with_reducible refine (spec_l6Rows.calls k2 _ _ ((rd_T80 l0_0 x5_2).f0) _ _ ((rd_T80 l1_0 x5_2).f0) false _ ?side1 ?side2 ?side3 ?side4 A22.out).mono ?_); (case side1 => exact cT (Kd.C_below HR158_0.out HB.out)); (case side2 => exact HC158_0.out); (case side3 => exact cT (Kd.C_below HR159_0.out HB.out)); (case side4 => exact HC159_0.out); rintro e w' ⟨rfl, ⟨nd, rfl⟩⟩; (try first | exact ⟨rfl, _, World.drewN_drewN _ _ _⟩ | exact ⟨rfl, _, Eq.trans (World.drewN_drewN _ _ _) (congrArg (World.drewN _) (Nat.add_assoc _ _ _))⟩))); try go_wp2_with (first | (go_at_call 54; (with_reducible refine (spec_l6Rows.calls k2 _ _ ((rd_T80 l0_0 x5_2).f0) _ _ ((rd_T80 l1_0 x5_2).f0) false _ ?side1 ?side2 ?side3 ?side4 A22.out).mono ?_); (case side1 => exact cT (Kd.C_below HR158_0.out HB.out)); (case side2 => exact HC158_0.out); (case side3 => exact cT (Kd.C_below HR159_0.out HB.out)); (case side4 => exact HC159_0.out); rintro e w' ⟨rfl, ⟨nd, rfl⟩⟩; (try first | exact ⟨rfl, _, World.drewN_drewN _ _ _⟩ | exact ⟨rfl, _, Eq.trans (World.drewN_drewN _ _ _) (congrArg (World.drewN _) (Nat.add_assoc _ _ _))⟩))))
           go_ret
           exact ⟨eT, bT2 HB GE154 GE155⟩
         ·
          rw [if_neg c21] at H
          have c21b0 : (((rd_T80 l0_0 x5_2).f1) == ((rd_T80 l1_0 x5_2).f1)) = false := beq_eq_false_iff_ne.mpr c21
          have c21b1 : (((rd_T80 l0_0 x5_2).f1) != ((rd_T80 l1_0 x5_2).f1)) = true := bne_iff_ne.mpr c21
          obtain rfl := Option.some.inj H
          have hnb30 := NB154_155.out
          have hnc30 := NB155_154.out
          have hcz31_0 : wr.cell? ⟨gb154, 0, none⟩ = some (.slice A0_0 l0_0.length c0_0) := (blk_cell BK154.out 0).trans rfl
          have hcz31_1 : wr.cell? ⟨gb154, 1, none⟩ = some (.int .i64 a0_1) := (blk_cell BK154.out 1).trans rfl
          have hcz31_2 : wr.cell? ⟨gb154, 2, none⟩ = some (.bool a0_2) := (blk_cell BK154.out 2).trans rfl
          have hfz31_0 := blk_frozen BK154.out 0
          have hfz31_1 := blk_frozen BK154.out 1
          have hfz31_2 := blk_frozen BK154.out 2
          have p156 : 0 ≤ (x5_2 : Int) := of_decide_eq_true aT
          have q156 : x5_2 < (l0_0.length : Int) := of_decide_eq_true aT
          obtain ⟨ad156, A156_0, c156_0, e156, hx156_0, hx156_1, hl156_0, hi156_0⟩ := at_T80 HR0_0.out x5_2 p156 q156
          cases e156
          replace hx156_0 := (HB.out.cell (World.block_lt_of_cell? w _ hx156_0)).trans hx156_0
          replace hx156_1 := (HB.out.cell (World.block_lt_of_cell? w _ hx156_1)).trans hx156_1
          have HR156_0 := mA hi156_0
          have HC156_0 := mA hl156_0
          clear hi156_0 hl156_0
          replace p156 := eq_true p156
          replace q156 := eq_true q156
          have hcz32_0 : wr.cell? ⟨gb155, 0, none⟩ = some (.slice A1_0 l1_0.length c1_0) := (blk_cell BK155.out 0).trans rfl
          have hcz32_1 : wr.cell? ⟨gb155, 1, none⟩ = some (.int .i64 a1_1) := (blk_cell BK155.out 1).trans rfl
          have hcz32_2 : wr.cell? ⟨gb155, 2, none⟩ = some (.bool a1_2) := (blk_cell BK155.out 2).trans rfl
          have hfz32_0 := blk_frozen BK155.out 0
          have hfz32_1 := blk_frozen BK155.out 1
          have hfz32_2 := blk_frozen BK155.out 2
          have p157 : 0 ≤ (x5_2 : Int) := of_decide_eq_true aT
          have q157 : x5_2 < (l1_0.length : Int) := of_decide_eq_true aT
          obtain ⟨ad157, A157_0, c157_0, e157, hx157_0, hx157_1, hl157_0, hi157_0⟩ := at_T80 HR1_0.out x5_2 p157 q157
          cases e157
          replace hx157_0 := (HB.out.cell (World.block_lt_of_cell? w _ hx157_0)).trans hx157_0
          replace hx157_1 := (HB.out.cell (World.block_lt_of_cell? w _ hx157_1)).trans hx157_1
          have HR157_0 := mA hi157_0
          have HC157_0 := mA hl157_0
          clear hi157_0 hl157_0
          replace p157 := eq_true p157
          replace q157 := eq_true q157
          go_wp2
          repeat (go_quiet (fail); try go_wp2)
          go_ret
          exact ⟨eT, bT2 HB GE154 GE155⟩
        ·
         rw [if_neg c20] at H
         exact absurd H (by simp)
       ·
        rw [if_neg c19] at H
        exact absurd H (by simp)
      ·
       rw [if_neg c18] at H
       have c18b0 : decide (x5_2 < (l0_0.length : Int)) = false := decide_eq_false c18
       clear c18
       obtain rfl := Option.some.inj H
       have hnb33 := NB154_155.out
       have hnc33 := NB155_154.out
       have hcz34_0 : wr.cell? ⟨gb154, 0, none⟩ = some (.slice A0_0 l0_0.length c0_0) := (blk_cell BK154.out 0).trans rfl
       have hcz34_1 : wr.cell? ⟨gb154, 1, none⟩ = some (.int .i64 a0_1) := (blk_cell BK154.out 1).trans rfl
       have hcz34_2 : wr.cell? ⟨gb154, 2, none⟩ = some (.bool a0_2) := (blk_cell BK154.out 2).trans rfl
       have hfz34_0 := blk_frozen BK154.out 0
       have hfz34_1 := blk_frozen BK154.out 1
       have hfz34_2 := blk_frozen BK154.out 2
       go_wp2
       repeat (go_quiet (fail); try go_wp2)
       go_ret
       exact ⟨eT, bT2 HB GE154 GE155⟩

/-! ### impl_equal: function 56 -/
def impl_equal.l0 : Nat → List (S73) → List (S73) → Int → Int → Option (Bool)
 | 0, _, _, _, _ => none
 | k + 1, x0, x1, x12, x13 => if x13 < x12 then (if 0 ≤ x13 then (if x13 < (x0.length : Int) then (if x13 < (x1.length : Int) then (if (!(((rd_T73 x0 x13).f0) == ((rd_T73 x1 x13).f0)) || (!(((rd_T73 x0 x13).f1) == ((rd_T73 x1 x13).f1)) || (!(((rd_T73 x0 x13).f2) == ((rd_T73 x1 x13).f2))))) = true then (some false) else (impl_equal.l0 k x0 x1 x12 (wrap64 (x13 + 1)))) else (none)) else (none)) else (none)) else (some true)
def impl_equal.f (k : Nat) (l0 : List (S73)) (l1 : List (S73)) : Option (Bool) := if (l0.length : Int) = (l1.length : Int) then (impl_equal.l0 k l0 l1 (l0.length : Int) 0) else (some false)
theorem impl_equal.mono_l : ∀ k, (∀ y0 y1 y2 y3, LeO (impl_equal.l0 k y0 y1 y2 y3) (impl_equal.l0 (k + 1) y0 y1 y2 y3))
 | 0 => fun _ _ _ _ r h => by simp [impl_equal.l0] at h
 | k + 1 => by
  have ih0 := impl_equal.mono_l k
  ·
   intro y0 y1 y2 y3
   unfold impl_equal.l0
   repeat' first
   | (with_reducible exact ih0 _ _ _ _)
   | (with_reducible exact LeO.refl _)
   | (with_reducible exact LeO.none _)
   | (with_reducible refine LeO.ite ?_ ?_)
   | (with_reducible refine LeO.bind ?_ (fun _ => ?_))
   | exact ih0 _ _ _ _
   | exact LeO.none _
   | refine LeO.ite ?_ ?_
   | refine LeO.bind ?_ (fun _ => ?_)
theorem impl_equal.mono : ∀ a0 a1 k, LeO (impl_equal.f k a0 a1) (impl_equal.f (k + 1) a0 a1) := by
 intro a0 a1 k
 have ih0 := impl_equal.mono_l k
 unfold impl_equal.f
 repeat' first
   | (with_reducible exact ih0 _ _ _ _)
   | (with_reducible exact LeO.refl _)
   | (with_reducible exact LeO.none _)
   | (with_reducible refine LeO.ite ?_ ?_)
   | (with_reducible refine LeO.bind ?_ (fun _ => ?_))
   | exact ih0 _ _ _ _
   | exact LeO.none _
   | refine LeO.ite ?_ ?_
   | refine LeO.bind ?_ (fun _ => ?_)
set_option maxHeartbeats 8000000 in
set_option maxRecDepth 100000 in
theorem impl_equal.calls (k : Nat) (A0 : Option Addr) (c0 : Nat) (l0 : List (S73)) (A1 : Option Addr) (c1 : Nat) (l1 : List (S73)) (r : Bool) (w : World) (hr0 : Kd.C k73 w A0 l0.length l0) (hc0 : l0.length ≤ c0) (hr1 : Kd.C k73 w A1 l1.length l1) (hc1 : l1.length ≤ c1) (h : impl_equal.f k l0 l1 = some r) :
  Calls Try.prog 56 #[.slice A0 l0.length c0, .slice A1 l1.length c1] w fun e w' => e = .returned (.bool r) ∧ Drawn0 w w' := by
 have hu73 := Try.underlying73
 have HR0 := mA hr0
 have HC0 := mA hc0
 clear hr0 hc0
 have HR1 := mA hr1
 have HC1 := mA hc1
 clear hr1 hc1
 have H : (if (l0.length : Int) = (l1.length : Int) then (impl_equal.l0 k l0 l1 (l0.length : Int) 0) else (some false)) = some r := h
 clear h
 by_cases c3 : (l0.length : Int) = (l1.length : Int)
 ·
  rw [if_pos c3] at H
  have c3b0 : ((l0.length : Int) == (l1.length : Int)) = true := beq_iff_eq.mpr c3
  have c3b1 : ((l0.length : Int) != (l1.length : Int)) = false := bne_eq_false_iff_eq.mpr c3
  have c3b2 : (l0.length == l1.length) = true := by first | simpa using c3 | (simp at c3 ⊢; omega)
  clear c3
  have H' := mA H
  clear H
  go_enter Try.func56, Try.ntmps56
  go_wp2
  repeat (go_quiet (fail); try go_wp2)
  go_loopg [13] k (fun kq v13 w' => ∃ (x13_1 : Int), v13 = .int .i64 x13_1 ∧ Aside0 (impl_equal.l0 kq l0 l1 (l0.length : Int) x13_1 = some r) ∧ Aside0 (kq ≤ k) ∧ Drawn0 w w')
  case atStart => exact ⟨(0), sT, H', ⟨Nat.le_refl _⟩, by repeat (first | exact Drawn0.refl _ | apply Drawn0.step)⟩
  case round =>
   clear H'
   try clear c1
   try clear p2
   try clear c3
   try clear c3b0
   try clear c3b1
   try clear c3b2
   obtain ⟨x13_1, rfl, HA, HK1, ⟨m1, rfl⟩⟩ := hrel
   cases gk with
   | zero => exact absurd HA.out (by simp [impl_equal.l0])
   | succ k1 =>
    have H := HA.out
    clear HA
    simp only [impl_equal.l0] at H
    by_cases c4 : x13_1 < (l0.length : Int)
    ·
     rw [if_pos c4] at H
     have c4b0 : decide (x13_1 < (l0.length : Int)) = true := decide_eq_true c4
     clear c4
     by_cases c5 : 0 ≤ x13_1
     ·
      rw [if_pos c5] at H
      have c5b0 : decide (0 ≤ x13_1) = true := decide_eq_true c5
      clear c5
      by_cases c6 : x13_1 < (l0.length : Int)
      ·
       rw [if_pos c6] at H
       have c6b0 : decide (x13_1 < (l0.length : Int)) = true := decide_eq_true c6
       clear c6
       by_cases c7 : x13_1 < (l1.length : Int)
       ·
        rw [if_pos c7] at H
        have c7b0 : decide (x13_1 < (l1.length : Int)) = true := decide_eq_true c7
        clear c7
        by_cases c8 : (!(((rd_T73 l0 x13_1).f0) == ((rd_T73 l1 x13_1).f0)) || (!(((rd_T73 l0 x13_1).f1) == ((rd_T73 l1 x13_1).f1)) || (!(((rd_T73 l0 x13_1).f2) == ((rd_T73 l1 x13_1).f2))))) = true
        ·
         rw [if_pos c8] at H
         have c8b0 : (!(((rd_T73 l0 x13_1).f0) == ((rd_T73 l1 x13_1).f0)) || (!(((rd_T73 l0 x13_1).f1) == ((rd_T73 l1 x13_1).f1)) || (!(((rd_T73 l0 x13_1).f2) == ((rd_T73 l1 x13_1).f2))))) = true := c8
         clear c8
         obtain rfl := Option.some.inj H
         have p182 : 0 ≤ (x13_1 : Int) := of_decide_eq_true aT
         have q182 : x13_1 < (l0.length : Int) := of_decide_eq_true aT
         obtain ⟨ad182, e182, hx182_0, hx182_1, hx182_2⟩ := at_T73 HR0.out x13_1 p182 q182
         cases e182
         replace p182 := eq_true p182
         replace q182 := eq_true q182
         have p183 : 0 ≤ (x13_1 : Int) := of_decide_eq_true aT
         have q183 : x13_1 < (l1.length : Int) := of_decide_eq_true aT
         obtain ⟨ad183, e183, hx183_0, hx183_1, hx183_2⟩ := at_T73 HR1.out x13_1 p183 q183
         cases e183
         replace p183 := eq_true p183
         replace q183 := eq_true q183
         go_wp2
         repeat (go_quiet (fail); try go_wp2)
         go_ret
         exact ⟨sT, by repeat (first | exact Drawn0.refl _ | apply Drawn0.step)⟩
        ·
         rw [if_neg c8] at H
         have c8b0 : (!(((rd_T73 l0 x13_1).f0) == ((rd_T73 l1 x13_1).f0)) || (!(((rd_T73 l0 x13_1).f1) == ((rd_T73 l1 x13_1).f1)) || (!(((rd_T73 l0 x13_1).f2) == ((rd_T73 l1 x13_1).f2))))) = false := by simpa using c8
         clear c8
         have H' := mA H
         clear H
         have p182 : 0 ≤ (x13_1 : Int) := of_decide_eq_true aT
         have q182 : x13_1 < (l0.length : Int) := of_decide_eq_true aT
         obtain ⟨ad182, e182, hx182_0, hx182_1, hx182_2⟩ := at_T73 HR0.out x13_1 p182 q182
         cases e182
         replace p182 := eq_true p182
         replace q182 := eq_true q182
         have p183 : 0 ≤ (x13_1 : Int) := of_decide_eq_true aT
         have q183 : x13_1 < (l1.length : Int) := of_decide_eq_true aT
         obtain ⟨ad183, e183, hx183_0, hx183_1, hx183_2⟩ := at_T73 HR1.out x13_1 p183 q183
         cases e183
         replace p183 := eq_true p183
         replace q183 := eq_true q183
         go_wp2
         repeat (go_quiet (fail); try go_wp2)
         go_roundg k1
         case measure => have := HK1.out; omega
         case rel => exact ⟨(wrap64 (x13_1 + 1)), sT, H', ⟨by have := HK1.out; omega⟩, by repeat (first | exact Drawn0.refl _ | apply Drawn0.step)⟩
       ·
        rw [if_neg c7] at H
        exact absurd H (by simp)
      ·
       rw [if_neg c6] at H
       exact absurd H (by simp)
     ·
      rw [if_neg c5] at H
      exact absurd H (by simp)
    ·
     rw [if_neg c4] at H
     have c4b0 : decide (x13_1 < (l0.length : Int)) = false := decide_eq_false c4
     clear c4
     obtain rfl := Option.some.inj H
     go_wp2
     repeat (go_quiet (fail); try go_wp2)
     go_ret
     exact ⟨sT, by repeat (first | exact Drawn0.refl _ | apply Drawn0.step)⟩
 ·
  rw [if_neg c3] at H
  have c3b0 : ((l0.length : Int) == (l1.length : Int)) = false := beq_eq_false_iff_ne.mpr c3
  have c3b1 : ((l0.length : Int) != (l1.length : Int)) = true := bne_iff_ne.mpr c3
  have c3b2 : (l0.length == l1.length) = false := by first | simpa using c3 | (simp at c3 ⊢; omega)
  obtain rfl := Option.some.inj H
  go_enter Try.func56, Try.ntmps56
  go_wp2
  repeat (go_quiet (fail); try go_wp2)
  go_ret
  exact ⟨sT, by repeat (first | exact Drawn0.refl _ | apply Drawn0.step)⟩

/-! ### impl_EqualAggregators: function 23 -/
mutual
def impl_EqualAggregators.j0 : Nat → Bool → List (S80) → Int → Bool → List (S80) → Int → Bool → Option (Bool)
 | 0, _, _, _, _, _, _, _ => none
 | k + 1, x26, x185000, x185001, x185002, x186000, x186001, x186002 => if x26 = true then (some false) else (impl_EqualAggregators.l0 k (x185000.length : Int) 0 x185000 x185001 x185002 x186000 x186001 x186002)
def impl_EqualAggregators.l0 : Nat → Int → Int → List (S80) → Int → Bool → List (S80) → Int → Bool → Option (Bool)
 | 0, _, _, _, _, _, _, _, _ => none
 | k + 1, x29, x30, x185000, x185001, x185002, x186000, x186001, x186002 => if x30 < x29 then (if 0 ≤ x30 then (if x30 < (x185000.length : Int) then (if x30 < (x186000.length : Int) then (if ((rd_T80 x185000 x30).f1) = ((rd_T80 x186000 x30).f1) then ((impl_equal.f k ((rd_T80 x185000 x30).f0) ((rd_T80 x186000 x30).f0)).bind fun t190 => (if t190 = true then (impl_EqualAggregators.l0 k x29 (wrap64 (x30 + 1)) x185000 x185001 x185002 x186000 x186001 x186002) else (some false))) else (some false)) else (none)) else (none)) else (none)) else (some true)
end
def impl_EqualAggregators.f (k : Nat) (l0_0 : List (S80)) (a0_1 : Int) (a0_2 : Bool) (l1_0 : List (S80)) (a1_1 : Int) (a1_2 : Bool) : Option (Bool) := if a0_1 = a1_1 then (if (a0_2 != a1_2) = true then (impl_EqualAggregators.j0 k true l0_0 a0_1 a0_2 l1_0 a1_1 a1_2) else (impl_EqualAggregators.j0 k ((l0_0.length : Int) != (l1_0.length : Int)) l0_0 a0_1 a0_2 l1_0 a1_1 a1_2)) else (impl_EqualAggregators.j0 k true l0_0 a0_1 a0_2 l1_0 a1_1 a1_2)
theorem impl_EqualAggregators.mono_l : ∀ k, (∀ y0 y1 y2 y3 y4 y5 y6, LeO (impl_EqualAggregators.j0 k y0 y1 y2 y3 y4 y5 y6) (impl_EqualAggregators.j0 (k + 1) y0 y1 y2 y3 y4 y5 y6)) ∧ (∀ y0 y1 y2 y3 y4 y5 y6 y7, LeO (impl_EqualAggregators.l0 k y0 y1 y2 y3 y4 y5 y6 y7) (impl_EqualAggregators.l0 (k + 1) y0 y1 y2 y3 y4 y5 y6 y7))
 | 0 => ⟨fun _ _ _ _ _ _ _ r h => by simp [impl_EqualAggregators.j0] at h, fun _ _ _ _ _ _ _ _ r h => by simp [impl_EqualAggregators.l0] at h⟩
 | k + 1 => by
  obtain ⟨ih0, ih1⟩ := impl_EqualAggregators.mono_l k
  refine ⟨?_, ?_⟩
  ·
   intro y0 y1 y2 y3 y4 y5 y6
   unfold impl_EqualAggregators.j0
   repeat' first
   | (with_reducible exact ih0 _ _ _ _ _ _ _)
   | (with_reducible exact ih1 _ _ _ _ _ _ _ _)
   | (with_reducible exact impl_equal.mono _ _ _)
   | (with_reducible exact LeO.refl _)
   | (with_reducible exact LeO.none _)
   | (with_reducible refine LeO.ite ?_ ?_)
   | (with_reducible refine LeO.bind ?_ (fun _ => ?_))
   | exact ih0 _ _ _ _ _ _ _
   | exact ih1 _ _ _ _ _ _ _ _
   | exact impl_equal.mono _ _ _
   | exact LeO.none _
   | refine LeO.ite ?_ ?_
   | refine LeO.bind ?_ (fun _ => ?_)
  ·
   intro y0 y1 y2 y3 y4 y5 y6 y7
   unfold impl_EqualAggregators.l0
   repeat' first
   | (with_reducible exact ih0 _ _ _ _ _ _ _)
   | (with_reducible exact ih1 _ _ _ _ _ _ _ _)
   | (with_reducible exact impl_equal.mono _ _ _)
   | (with_reducible exact LeO.refl _)
   | (with_reducible exact LeO.none _)
   | (with_reducible refine LeO.ite ?_ ?_)
   | (with_reducible refine LeO.bind ?_ (fun _ => ?_))
   | exact ih0 _ _ _ _ _ _ _
   | exact ih1 _ _ _ _ _ _ _ _
   | exact impl_equal.mono _ _ _
   | exact LeO.none _
   | refine LeO.ite ?_ ?_
   | refine LeO.bind ?_ (fun _ => ?_)
theorem impl_EqualAggregators.mono : ∀ a0 a1 a2 a3 a4 a5 k, LeO (impl_EqualAggregators.f k a0 a1 a2 a3 a4 a5) (impl_EqualAggregators.f (k + 1) a0 a1 a2 a3 a4 a5) := by
 intro a0 a1 a2 a3 a4 a5 k
 obtain ⟨ih0, ih1⟩ := impl_EqualAggregators.mono_l k
 unfold impl_EqualAggregators.f
 repeat' first
   | (with_reducible exact ih0 _ _ _ _ _ _ _)
   | (with_reducible exact ih1 _ _ _ _ _ _ _ _)
   | (with_reducible exact impl_equal.mono _ _ _)
   | (with_reducible exact LeO.refl _)
   | (with_reducible exact LeO.none _)
   | (with_reducible refine LeO.ite ?_ ?_)
   | (with_reducible refine LeO.bind ?_ (fun _ => ?_))
   | exact ih0 _ _ _ _ _ _ _
   | exact ih1 _ _ _ _ _ _ _ _
   | exact impl_equal.mono _ _ _
   | exact LeO.none _
   | refine LeO.ite ?_ ?_
   | refine LeO.bind ?_ (fun _ => ?_)
set_option maxHeartbeats 8000000 in
set_option maxRecDepth 100000 in
theorem impl_EqualAggregators.calls (k : Nat) (A0_0 : Option Addr) (c0_0 : Nat) (l0_0 : List (S80)) (a0_1 : Int) (a0_2 : Bool) (A1_0 : Option Addr) (c1_0 : Nat) (l1_0 : List (S80)) (a1_1 : Int) (a1_2 : Bool) (r : Bool) (w : World) (hr0_0 : Kd.C k80 w A0_0 l0_0.length l0_0) (hc0_0 : l0_0.length ≤ c0_0) (hr1_0 : Kd.C k80 w A1_0 l1_0.length l1_0) (hc1_0 : l1_0.length ≤ c1_0) (h : impl_EqualAggregators.f k l0_0 a0_1 a0_2 l1_0 a1_1 a1_2 = some r) :
  Calls Try.prog 23 #[.agg #[.slice A0_0 l0_0.length c0_0, .int .i64 a0_1, .bool a0_2], .agg #[.slice A1_0 l1_0.length c1_0, .int .i64 a1_1, .bool a1_2]] w fun e w' => e = .returned (.bool r) ∧ Below w.heap.size w w' := by
 have hu40 := Try.underlying40
 have HR0_0 := mA hr0_0
 have HC0_0 := mA hc0_0
 clear hr0_0 hc0_0
 have HR1_0 := mA hr1_0
 have HC1_0 := mA hc1_0
 clear hr1_0 hc1_0
 have HB := mA (Below.refl w.heap.size w)
 have H : (if a0_1 = a1_1 then (if (a0_2 != a1_2) = true then (impl_EqualAggregators.j0 k true l0_0 a0_1 a0_2 l1_0 a1_1 a1_2) else (impl_EqualAggregators.j0 k ((l0_0.length : Int) != (l1_0.length : Int)) l0_0 a0_1 a0_2 l1_0 a1_1 a1_2)) else (impl_EqualAggregators.j0 k true l0_0 a0_1 a0_2 l1_0 a1_1 a1_2)) = some r := h
 clear h
 have HC3 := mA H
 clear H
 go_enter Try.func23, Try.ntmps23
 go_upto_region 1 with (first | ((with_reducible refine gate_dst (N := 2) rfl ?_); (try (refine gate_guard (by rfl) ?_; dsimp only)); refine boxT 2 #[.slice A0_0 l0_0.length c0_0, .int .i64 a0_1, .bool a0_2] 40 ?_; intro gb184 hg w4 hbox hb; have BK184 := mA (hbox); have GW184 := mA ((by rw [hg]; exact (below_size (bT HB)) : w.heap.size ≤ gb184)); have GE184 := GW184; replace HB := mA (below_step (bT HB) hb); clear hb hbox hg) | ((with_reducible refine gate_dst (N := 3) rfl ?_); (try (refine gate_guard (by rfl) ?_; dsimp only)); refine boxT 3 #[.slice A1_0 l1_0.length c1_0, .int .i64 a1_1, .bool a1_2] 40 ?_; intro gb185 hg w5 hbox hb; have BK185 := mA (hbox); have GW185 := mA ((by rw [hg]; exact (below_size (bT1 HB GE184)) : w.heap.size ≤ gb185)); have GE185 := GW185; replace HB := mA (below_step (bT1 HB GE184) hb); have NB184_185 : Aside0 (gb184 ≠ gb185) := nL BK184 hg; have NB185_184 : Aside0 (gb185 ≠ gb184) := nG BK184 hg; replace BK184 := kB BK184 hb; clear hb hbox hg))
 repeat (go_quiet (first | ((with_reducible refine gate_dst (N := 2) rfl ?_); (try (refine gate_guard (by rfl) ?_; dsimp only)); refine boxT 2 #[.slice A0_0 l0_0.length c0_0, .int .i64 a0_1, .bool a0_2] 40 ?_; intro gb184 hg w4 hbox hb; have BK184 := mA (hbox); have GW184 := mA ((by rw [hg]; exact (below_size (bT HB)) : w.heap.size ≤ gb184)); have GE184 := GW184; replace HB := mA (below_step (bT HB) hb); clear hb hbox hg) | ((with_reducible refine gate_dst (N := 3) rfl ?_); (try (refine gate_guard (by rfl) ?_; dsimp only)); refine boxT 3 #[.slice A1_0 l1_0.length c1_0, .int .i64 a1_1, .bool a1_2] 40 ?_; intro gb185 hg w5 hbox hb; have BK185 := mA (hbox); have GW185 := mA ((by rw [hg]; exact (below_size (bT1 HB GE184)) : w.heap.size ≤ gb185)); have GE185 := GW185; replace HB := mA (below_step (bT1 HB GE184) hb); have NB184_185 : Aside0 (gb184 ≠ gb185) := nL BK184 hg; have NB185_184 : Aside0 (gb185 ≠ gb184) := nG BK184 hg; replace BK184 := kB BK184 hb; clear hb hbox hg)); go_upto_region 1 with (first | ((with_reducible refine gate_dst (N := 2) rfl ?_); (try (refine gate_guard (by rfl) ?_; dsimp only)); refine boxT 2 #[.slice A0_0 l0_0.length c0_0, .int .i64 a0_1, .bool a0_2] 40 ?_; intro gb184 hg w4 hbox hb; have BK184 := mA (hbox); have GW184 := mA ((by rw [hg]; exact (below_size (bT HB)) : w.heap.size ≤ gb184)); have GE184 := GW184; replace HB := mA (below_step (bT HB) hb); clear hb hbox hg) | ((with_reducible refine gate_dst (N := 3) rfl ?_); (try (refine gate_guard (by rfl) ?_; dsimp only)); refine boxT 3 #[.slice A1_0 l1_0.length c1_0, .int .i64 a1_1, .bool a1_2] 40 ?_; intro gb185 hg w5 hbox hb; have BK185 := mA (hbox); have GW185 := mA ((by rw [hg]; exact (below_size (bT1 HB GE184)) : w.heap.size ≤ gb185)); have GE185 := GW185; replace HB := mA (below_step (bT1 HB GE184) hb); have NB184_185 : Aside0 (gb184 ≠ gb185) := nL BK184 hg; have NB185_184 : Aside0 (gb185 ≠ gb184) := nG BK184 hg; replace BK184 := kB BK184 hb; clear hb hbox hg)))
 (try simp only [Act.put, List.setIfInBounds_toArray, List.set_cons_zero, List.set_cons_succ])
 go_cut [26] (fun v26 wc => ∃ (kq : Nat) (x26_2 : Bool), v26 = .bool x26_2 ∧ Aside0 (impl_EqualAggregators.j0 kq x26_2 l0_0 a0_1 a0_2 l1_0 a1_1 a1_2 = some r) ∧ Aside0 (kq ≤ k) ∧ Aside0 (wc.heap[gb184]? = some (.cells #[(.slice A0_0 l0_0.length c0_0), .int .i64 a0_1, .bool a0_2] 40 (0, 0))) ∧ Aside0 (wc.heap[gb185]? = some (.cells #[(.slice A1_0 l1_0.length c1_0), .int .i64 a1_1, .bool a1_2] 40 (0, 0))) ∧ Aside0 (Below w.heap.size w wc))
 case first =>
  have H := HC3.out
  clear HC3
  by_cases c6 : a0_1 = a1_1
  ·
   rw [if_pos c6] at H
   have c6b0 : (a0_1 == a1_1) = true := beq_iff_eq.mpr c6
   have c6b1 : (a0_1 != a1_1) = false := bne_eq_false_iff_eq.mpr c6
   clear c6
   (first | rw [c6b0] | (simp only [i64_w, i32_w]; rw [c6b0]) | skip)
   by_cases c7 : (a0_2 != a1_2) = true
   ·
    rw [if_pos c7] at H
    have c7b0 : (a0_2 != a1_2) = true := c7
    (try (have c7b1 : decide (a0_2 = a1_2) = false := by simpa using c7))
    (try (have c7b2 : (a0_2 == a1_2) = false := by simpa using c7))
    (try (have c7b3 : ¬ (a0_2 = a1_2) := by simpa using c7))
    clear c7
    have H' := mA H
    clear H
    have hnb8 := NB184_185.out
    have hnc8 := NB185_184.out
    have hcz9_0 : w5.cell? ⟨gb184, 0, none⟩ = some (.slice A0_0 l0_0.length c0_0) := (blk_cell BK184.out 0).trans rfl
    have hcz9_1 : w5.cell? ⟨gb184, 1, none⟩ = some (.int .i64 a0_1) := (blk_cell BK184.out 1).trans rfl
    have hcz9_2 : w5.cell? ⟨gb184, 2, none⟩ = some (.bool a0_2) := (blk_cell BK184.out 2).trans rfl
    have hfz9_0 := blk_frozen BK184.out 0
    have hfz9_1 := blk_frozen BK184.out 1
    have hfz9_2 := blk_frozen BK184.out 2
    have hcz10_0 : w5.cell? ⟨gb185, 0, none⟩ = some (.slice A1_0 l1_0.length c1_0) := (blk_cell BK185.out 0).trans rfl
    have hcz10_1 : w5.cell? ⟨gb185, 1, none⟩ = some (.int .i64 a1_1) := (blk_cell BK185.out 1).trans rfl
    have hcz10_2 : w5.cell? ⟨gb185, 2, none⟩ = some (.bool a1_2) := (blk_cell BK185.out 2).trans rfl
    have hfz10_0 := blk_frozen BK185.out 0
    have hfz10_1 := blk_frozen BK185.out 1
    have hfz10_2 := blk_frozen BK185.out 2
    go_wp2
    repeat (go_quiet (fail); try go_wp2)
    go_meet
    case rel => exact ⟨_, (true), sT, H', ⟨by first | omega | exact Nat.le_refl _⟩, ⟨kT BK184⟩, ⟨kT BK185⟩, ⟨bT2 HB GE184 GE185⟩⟩
   ·
    rw [if_neg c7] at H
    have c7b0 : (a0_2 != a1_2) = false := by simpa using c7
    (try (have c7b1 : decide (a0_2 = a1_2) = true := by simpa using c7))
    (try (have c7b2 : (a0_2 == a1_2) = true := by simpa using c7))
    clear c7
    have H' := mA H
    clear H
    have hnb11 := NB184_185.out
    have hnc11 := NB185_184.out
    have hcz12_0 : w5.cell? ⟨gb184, 0, none⟩ = some (.slice A0_0 l0_0.length c0_0) := (blk_cell BK184.out 0).trans rfl
    have hcz12_1 : w5.cell? ⟨gb184, 1, none⟩ = some (.int .i64 a0_1) := (blk_cell BK184.out 1).trans rfl
    have hcz12_2 : w5.cell? ⟨gb184, 2, none⟩ = some (.bool a0_2) := (blk_cell BK184.out 2).trans rfl
    have hfz12_0 := blk_frozen BK184.out 0
    have hfz12_1 := blk_frozen BK184.out 1
    have hfz12_2 := blk_frozen BK184.out 2
    have hcz13_0 : w5.cell? ⟨gb185, 0, none⟩ = some (.slice A1_0 l1_0.length c1_0) := (blk_cell BK185.out 0).trans rfl
    have hcz13_1 : w5.cell? ⟨gb185, 1, none⟩ = some (.int .i64 a1_1) := (blk_cell BK185.out 1).trans rfl
    have hcz13_2 : w5.cell? ⟨gb185, 2, none⟩ = some (.bool a1_2) := (blk_cell BK185.out 2).trans rfl
    have hfz13_0 := blk_frozen BK185.out 0
    have hfz13_1 := blk_frozen BK185.out 1
    have hfz13_2 := blk_frozen BK185.out 2
    go_wp2
    repeat (go_quiet (fail); try go_wp2)
    go_meet
    case rel => exact ⟨_, (((l0_0.length : Int) != (l1_0.length : Int))), sT, H', ⟨by first | omega | exact Nat.le_refl _⟩, ⟨kT BK184⟩, ⟨kT BK185⟩, ⟨bT2 HB GE184 GE185⟩⟩
  ·
   rw [if_neg c6] at H
   have c6b0 : (a0_1 == a1_1) = false := beq_eq_false_iff_ne.mpr c6
   have c6b1 : (a0_1 != a1_1) = true := bne_iff_ne.mpr c6
   (first | rw [c6b0] | (simp only [i64_w, i32_w]; rw [c6b0]) | skip)
   have H' := mA H
   clear H
   have hnb14 := NB184_185.out
   have hnc14 := NB185_184.out
   have hcz15_0 : w5.cell? ⟨gb184, 0, none⟩ = some (.slice A0_0 l0_0.length c0_0) := (blk_cell BK184.out 0).trans rfl
   have hcz15_1 : w5.cell? ⟨gb184, 1, none⟩ = some (.int .i64 a0_1) := (blk_cell BK184.out 1).trans rfl
   have hcz15_2 : w5.cell? ⟨gb184, 2, none⟩ = some (.bool a0_2) := (blk_cell BK184.out 2).trans rfl
   have hfz15_0 := blk_frozen BK184.out 0
   have hfz15_1 := blk_frozen BK184.out 1
   have hfz15_2 := blk_frozen BK184.out 2
   have hcz16_0 : w5.cell? ⟨gb185, 0, none⟩ = some (.slice A1_0 l1_0.length c1_0) := (blk_cell BK185.out 0).trans rfl
   have hcz16_1 : w5.cell? ⟨gb185, 1, none⟩ = some (.int .i64 a1_1) := (blk_cell BK185.out 1).trans rfl
   have hcz16_2 : w5.cell? ⟨gb185, 2, none⟩ = some (.bool a1_2) := (blk_cell BK185.out 2).trans rfl
   have hfz16_0 := blk_frozen BK185.out 0
   have hfz16_1 := blk_frozen BK185.out 1
   have hfz16_2 := blk_frozen BK185.out 2
   go_wp2
   repeat (go_quiet (fail); try go_wp2)
   go_meet
   case rel => exact ⟨_, (true), sT, H', ⟨by first | omega | exact Nat.le_refl _⟩, ⟨kT BK184⟩, ⟨kT BK185⟩, ⟨bT2 HB GE184 GE185⟩⟩
 case rest =>
  clear HC3
  try clear c1
  try clear c2
  try clear p2
  try clear c6
  try clear c6b0
  try clear c6b1
  try clear c7
  try clear c7b0
  try clear c7b1
  try clear c7b2
  try clear c8
  try clear c11
  try clear c14
  try clear hcz10_0
  try clear hcz10_1
  try clear hcz10_2
  try clear hcz12_0
  try clear hcz12_1
  try clear hcz12_2
  try clear hcz13_0
  try clear hcz13_1
  try clear hcz13_2
  try clear hcz15_0
  try clear hcz15_1
  try clear hcz15_2
  try clear hcz16_0
  try clear hcz16_1
  try clear hcz16_2
  try clear hcz9_0
  try clear hcz9_1
  try clear hcz9_2
  try clear hfz10_0
  try clear hfz10_1
  try clear hfz10_2
  try clear hfz12_0
  try clear hfz12_1
  try clear hfz12_2
  try clear hfz13_0
  try clear hfz13_1
  try clear hfz13_2
  try clear hfz15_0
  try clear hfz15_1
  try clear hfz15_2
  try clear hfz16_0
  try clear hfz16_1
  try clear hfz16_2
  try clear hfz9_0
  try clear hfz9_1
  try clear hfz9_2
  obtain ⟨kq, x26_2, rfl, HA, HJ2, BK184, BK185, HB⟩ := hcut
  cases kq with
  | zero => exact absurd HA.out (by simp [impl_EqualAggregators.j0])
  | succ kj2 =>
   have H := HA.out
   clear HA
   simp only [impl_EqualAggregators.j0] at H
   by_cases c17 : x26_2 = true
   ·
    subst c17
    rw [if_pos rfl] at H
    obtain rfl := Option.some.inj H
    go_wp2
    repeat (go_quiet (fail); try go_wp2)
    go_ret
    exact ⟨eT, bT2 HB GE184 GE185⟩
   ·
    replace c17 := Bool.eq_false_iff.mpr c17
    subst c17
    rw [if_neg (show ¬ (false = true) by decide)] at H
    have H' := mA H
    clear H
    have hnb18 := NB184_185.out
    have hnc18 := NB185_184.out
    have hcz19_0 : wc.cell? ⟨gb184, 0, none⟩ = some (.slice A0_0 l0_0.length c0_0) := (blk_cell BK184.out 0).trans rfl
    have hcz19_1 : wc.cell? ⟨gb184, 1, none⟩ = some (.int .i64 a0_1) := (blk_cell BK184.out 1).trans rfl
    have hcz19_2 : wc.cell? ⟨gb184, 2, none⟩ = some (.bool a0_2) := (blk_cell BK184.out 2).trans rfl
    have hfz19_0 := blk_frozen BK184.out 0
    have hfz19_1 := blk_frozen BK184.out 1
    have hfz19_2 := blk_frozen BK184.out 2
    go_wp2
    repeat (go_quiet (fail); try go_wp2)
    go_loopg [30] kj2 (fun kq v30 w' => ∃ (x30_2 : Int), v30 = .int .i64 x30_2 ∧ Aside0 (impl_EqualAggregators.l0 kq (l0_0.length : Int) x30_2 l0_0 a0_1 a0_2 l1_0 a1_1 a1_2 = some r) ∧ Aside0 (kq ≤ kj2) ∧ Aside0 (w'.heap[gb184]? = some (.cells #[(.slice A0_0 l0_0.length c0_0), .int .i64 a0_1, .bool a0_2] 40 (0, 0))) ∧ Aside0 (w'.heap[gb185]? = some (.cells #[(.slice A1_0 l1_0.length c1_0), .int .i64 a1_1, .bool a1_2] 40 (0, 0))) ∧ Aside0 (Below w.heap.size w w'))
    case atStart => exact ⟨(0), sT, H', ⟨Nat.le_refl _⟩, ⟨kT BK184⟩, ⟨kT BK185⟩, ⟨bT2 HB GE184 GE185⟩⟩
    case round =>
     clear H'
     try clear c1
     try clear c2
     try clear p2
     try clear c6
     try clear c6b0
     try clear c6b1
     try clear c7
     try clear c7b0
     try clear c7b1
     try clear c7b2
     try clear c8
     try clear c11
     try clear c14
     try clear c17
     try clear c18
     try clear hcz10_0
     try clear hcz10_1
     try clear hcz10_2
     try clear hcz12_0
     try clear hcz12_1
     try clear hcz12_2
     try clear hcz13_0
     try clear hcz13_1
     try clear hcz13_2
     try clear hcz15_0
     try clear hcz15_1
     try clear hcz15_2
     try clear hcz16_0
     try clear hcz16_1
     try clear hcz16_2
     try clear hcz19_0
     try clear hcz19_1
     try clear hcz19_2
     try clear hcz9_0
     try clear hcz9_1
     try clear hcz9_2
     try clear hfz10_0
     try clear hfz10_1
     try clear hfz10_2
     try clear hfz12_0
     try clear hfz12_1
     try clear hfz12_2
     try clear hfz13_0
     try clear hfz13_1
     try clear hfz13_2
     try clear hfz15_0
     try clear hfz15_1
     try clear hfz15_2
     try clear hfz16_0
     try clear hfz16_1
     try clear hfz16_2
     try clear hfz19_0
     try clear hfz19_1
     try clear hfz19_2
     try clear hfz9_0
     try clear hfz9_1
     try clear hfz9_2
     try clear p2
     obtain ⟨x30_2, rfl, HA, HK2, BK184, BK185, HB⟩ := hrel
     cases gk with
     | zero => exact absurd HA.out (by simp [impl_EqualAggregators.l0])
     | succ k2 =>
      have H := HA.out
      clear HA
      simp only [impl_EqualAggregators.l0] at H
      by_cases c20 : x30_2 < (l0_0.length : Int)
      ·
       rw [if_pos c20] at H
       have c20b0 : decide (x30_2 < (l0_0.length : Int)) = true := decide_eq_true c20
       clear c20
       by_cases c21 : 0 ≤ x30_2
       ·
        rw [if_pos c21] at H
        have c21b0 : decide (0 ≤ x30_2) = true := decide_eq_true c21
        clear c21
        by_cases c22 : x30_2 < (l0_0.length : Int)
        ·
         rw [if_pos c22] at H
         have c22b0 : decide (x30_2 < (l0_0.length : Int)) = true := decide_eq_true c22
         clear c22
         by_cases c23 : x30_2 < (l1_0.length : Int)
         ·
          rw [if_pos c23] at H
          have c23b0 : decide (x30_2 < (l1_0.length : Int)) = true := decide_eq_true c23
          clear c23
          by_cases c24 : ((rd_T80 l0_0 x30_2).f1) = ((rd_T80 l1_0 x30_2).f1)
          ·
           rw [if_pos c24] at H
           have c24b0 : (((rd_T80 l0_0 x30_2).f1) == ((rd_T80 l1_0 x30_2).f1)) = true := beq_iff_eq.mpr c24
           have c24b1 : (((rd_T80 l0_0 x30_2).f1) != ((rd_T80 l1_0 x30_2).f1)) = false := bne_eq_false_iff_eq.mpr c24
           clear c24
           obtain ⟨t190, A25, H⟩ := Option.bind_eq_some_iff.mp H
           replace A25 := mA A25
           try dsimp only at H
           by_cases c26 : t190 = true
           ·
            subst c26
            rw [if_pos rfl] at H
            have H' := mA H
            clear H
            have hnb27 := NB184_185.out
            have hnc27 := NB185_184.out
            have hcz28_0 : wr.cell? ⟨gb184, 0, none⟩ = some (.slice A0_0 l0_0.length c0_0) := (blk_cell BK184.out 0).trans rfl
            have hcz28_1 : wr.cell? ⟨gb184, 1, none⟩ = some (.int .i64 a0_1) := (blk_cell BK184.out 1).trans rfl
            have hcz28_2 : wr.cell? ⟨gb184, 2, none⟩ = some (.bool a0_2) := (blk_cell BK184.out 2).trans rfl
            have hfz28_0 := blk_frozen BK184.out 0
            have hfz28_1 := blk_frozen BK184.out 1
            have hfz28_2 := blk_frozen BK184.out 2
            have p186 : 0 ≤ (x30_2 : Int) := of_decide_eq_true aT
            have q186 : x30_2 < (l0_0.length : Int) := of_decide_eq_true aT
            obtain ⟨ad186, A186_0, c186_0, e186, hx186_0, hx186_1, hl186_0, hi186_0⟩ := at_T80 HR0_0.out x30_2 p186 q186
            cases e186
            replace hx186_0 := (HB.out.cell (World.block_lt_of_cell? w _ hx186_0)).trans hx186_0
            replace hx186_1 := (HB.out.cell (World.block_lt_of_cell? w _ hx186_1)).trans hx186_1
            have HR186_0 := mA hi186_0
            have HC186_0 := mA hl186_0
            clear hi186_0 hl186_0
            replace p186 := eq_true p186
            replace q186 := eq_true q186
            have hcz29_0 : wr.cell? ⟨gb185, 0, none⟩ = some (.slice A1_0 l1_0.length c1_0) := (blk_cell BK185.out 0).trans rfl
            have hcz29_1 : wr.cell? ⟨gb185, 1, none⟩ = some (.int .i64 a1_1) := (blk_cell BK185.out 1).trans rfl
            have hcz29_2 : wr.cell? ⟨gb185, 2, none⟩ = some (.bool a1_2) := (blk_cell BK185.out 2).trans rfl
            have hfz29_0 := blk_frozen BK185.out 0
            have hfz29_1 := blk_frozen BK185.out 1
            have hfz29_2 := blk_frozen BK185.out 2
            have p187 : 0 ≤ (x30_2 : Int) := of_decide_eq_true aT
            have q187 : x30_2 < (l1_0.length : Int) := of_decide_eq_true aT
            obtain ⟨ad187, A187_0, c187_0, e187, hx187_0, hx187_1, hl187_0, hi187_0⟩ := at_T80 HR1_0.out x30_2 p187 q187
            cases e187
            replace hx187_0 := (HB.out.cell (World.block_lt_of_cell? w _ hx187_0)).trans hx187_0
            replace hx187_1 := (HB.out.cell (World.block_lt_of_cell? w _ hx187_1)).trans hx187_1
            have HR187_0 := mA hi187_0
            have HC187_0 := mA hl187_0
            clear hi187_0 hl187_0
            replace p187 := eq_true p187
            replace q187 := eq_true q187
            have p188 : 0 ≤ (x30_2 : Int) := of_decide_eq_true aT
            have q188 : x30_2 < (l0_0.length : Int) := of_decide_eq_true aT
            obtain ⟨ad188, A188_0, c188_0, e188, hx188_0, hx188_1, hl188_0, hi188_0⟩ := at_T80 HR0_0.out x30_2 p188 q188
            obtain rfl : ad186 = ad188 := (by injection e188)
            replace hx188_0 := (HB.out.cell (World.block_lt_of_cell? w _ hx188_0)).trans hx188_0
            replace hx188_1 := (HB.out.cell (World.block_lt_of_cell? w _ hx188_1)).trans hx188_1
            have HR188_0 := mA hi188_0
            have HC188_0 := mA hl188_0
            clear hi188_0 hl188_0
            replace p188 := eq_true p188
            replace q188 := eq_true q188
            first | (have ea_ := Option.some.inj (hx186_0.symm.trans hx188_0)) | (have ea_ := Option.some.inj (((HB.out.cell (World.block_lt_of_cell? w _ hw186_0)).trans hw186_0).symm.trans hx188_0))
            injection ea_ with ea_ en_ ec_
            subst ea_
            subst ec_
            clear en_
            have p189 : 0 ≤ (x30_2 : Int) := of_decide_eq_true aT
            have q189 : x30_2 < (l1_0.length : Int) := of_decide_eq_true aT
            obtain ⟨ad189, A189_0, c189_0, e189, hx189_0, hx189_1, hl189_0, hi189_0⟩ := at_T80 HR1_0.out x30_2 p189 q189
            obtain rfl : ad187 = ad189 := (by injection e189)
            replace hx189_0 := (HB.out.cell (World.block_lt_of_cell? w _ hx189_0)).trans hx189_0
            replace hx189_1 := (HB.out.cell (World.block_lt_of_cell? w _ hx189_1)).trans hx189_1
            have HR189_0 := mA hi189_0
            have HC189_0 := mA hl189_0
            clear hi189_0 hl189_0
            replace p189 := eq_true p189
            replace q189 := eq_true q189
            first | (have ea_ := Option.some.inj (hx187_0.symm.trans hx189_0)) | (have ea_ := Option.some.inj (((HB.out.cell (World.block_lt_of_cell? w _ hw187_0)).trans hw187_0).symm.trans hx189_0))
            injection ea_ with ea_ en_ ec_
            subst ea_
            subst ec_
            clear en_
            go_wp2_with (first | (go_at_call 56; (with_reducible refine (impl_equal.calls k2 _ _ ((rd_T80 l0_0 x30_2).f0) _ _ ((rd_T80 l1_0 x30_2).f0) true _ ?side1 ?side2 ?side3 ?side4 A25.out).mono ?_); (case side1 => exact cT (Kd.C_below HR188_0.out HB.out)); (case side2 => exact HC188_0.out); (case side3 => exact cT (Kd.C_below HR189_0.out HB.out)); (case side4 => exact HC189_0.out); rintro e w' ⟨rfl, ⟨nd, rfl⟩⟩; (try first | exact ⟨rfl, _, World.drewN_drewN _ _ _⟩ | exact ⟨rfl, _, Eq.trans (World.drewN_drewN _ _ _) (congrArg (World.drewN _) (Nat.add_assoc _ _ _))⟩)))
            repeat (go_quiet (first | (go_at_call 56; (with_reducible refine (impl_equal.calls k2 _ _ ((rd_T80 l0_0 x30_2).f0) _ _ ((rd_T80 l1_0 x30_2).f0) true _ ?side1 ?side2 ?side3 ?side4 A25.out).mono ?_); (case side1 => exact cT (Kd.C_below HR188_0.out HB.out)); (case side2 => exact HC188_0.out); (case side3 => exact cT (Kd.C_below HR189_0.out HB.out)); (case side4 => exact HC189_0.out); rintro e w' ⟨rfl, ⟨nd, rfl⟩⟩; (try first | exact ⟨rfl, _, World.drewN_drewN _ _ _⟩ | exact ⟨rfl, _, Eq.trans (World.drewN_drewN _ _ _) (congrArg (World.drewN _) (Nat.add_assoc _ _ _))⟩))); try go_wp2_with (first | (go_at_call 56; (with_reducible refine (impl_equal.calls k2 _ _ ((rd_T80 l0_0 x30_2).f0) _ _ ((rd_T80 l1_0 x30_2).f0) true _ ?side1 ?side2 ?side3 ?side4 A25.out).mono ?_); (case side1 => exact cT (Kd.C_below HR188_0.out HB.out)); (case side2 => exact HC188_0.out); (case side3 => exact cT (Kd.C_below HR189_0.out HB.out)); (case side4 => exact HC189_0.out); rintro e w' ⟨rfl, ⟨nd, rfl⟩⟩; (try first | exact ⟨rfl, _, World.drewN_drewN _ _ _⟩ | exact ⟨rfl, _, Eq.trans (World.drewN_drewN _ _ _) (congrArg (World.drewN _) (Nat.add_assoc _ _ _))⟩))))
            go_roundg k2
            case measure => have := HJ2.out; have := HK2.out; omega
            case rel => exact ⟨(wrap64 (x30_2 + 1)), sT, H', ⟨by have := HJ2.out; have := HK2.out; omega⟩, ⟨kT BK184⟩, ⟨kT BK185⟩, ⟨bT2 HB GE184 GE185⟩⟩
           ·
            replace c26 := Bool.eq_false_iff.mpr c26
            subst c26
            rw [if_neg (show ¬ (false = true) by decide)] at H
            obtain rfl := Option.some.inj H
            have hnb30 := NB184_185.out
            have hnc30 := NB185_184.out
            have hcz31_0 : wr.cell? ⟨gb184, 0, none⟩ = some (.slice A0_0 l0_0.length c0_0) := (blk_cell BK184.out 0).trans rfl
            have hcz31_1 : wr.cell? ⟨gb184, 1, none⟩ = some (.int .i64 a0_1) := (blk_cell BK184.out 1).trans rfl
            have hcz31_2 : wr.cell? ⟨gb184, 2, none⟩ = some (.bool a0_2) := (blk_cell BK184.out 2).trans rfl
            have hfz31_0 := blk_frozen BK184.out 0
            have hfz31_1 := blk_frozen BK184.out 1
            have hfz31_2 := blk_frozen BK184.out 2
            have p186 : 0 ≤ (x30_2 : Int) := of_decide_eq_true aT
            have q186 : x30_2 < (l0_0.length : Int) := of_decide_eq_true aT
            obtain ⟨ad186, A186_0, c186_0, e186, hx186_0, hx186_1, hl186_0, hi186_0⟩ := at_T80 HR0_0.out x30_2 p186 q186
            cases e186
            replace hx186_0 := (HB.out.cell (World.block_lt_of_cell? w _ hx186_0)).trans hx186_0
            replace hx186_1 := (HB.out.cell (World.block_lt_of_cell? w _ hx186_1)).trans hx186_1
            have HR186_0 := mA hi186_0
            have HC186_0 := mA hl186_0
            clear hi186_0 hl186_0
            replace p186 := eq_true p186
            replace q186 := eq_true q186
            have hcz32_0 : wr.cell? ⟨gb185, 0, none⟩ = some (.slice A1_0 l1_0.length c1_0) := (blk_cell BK185.out 0).trans rfl
            have hcz32_1 : wr.cell? ⟨gb185, 1, none⟩ = some (.int .i64 a1_1) := (blk_cell BK185.out 1).trans rfl
            have hcz32_2 : wr.cell? ⟨gb185, 2, none⟩ = some (.bool a1_2) := (blk_cell BK185.out 2).trans rfl
            have hfz32_0 := blk_frozen BK185.out 0
            have hfz32_1 := blk_frozen BK185.out 1
            have hfz32_2 := blk_frozen BK185.out 2
            have p187 : 0 ≤ (x30_2 : Int) := of_decide_eq_true aT
            have q187 : x30_2 < (l1_0.length : Int) := of_decide_eq_true aT
            obtain ⟨ad187, A187_0, c187_0, e187, hx187_0, hx187_1, hl187_0, hi187_0⟩ := at_T80 HR1_0.out x30_2 p187 q187
            cases e187
            replace hx187_0 := (HB.out.cell (World.block_lt_of_cell? w _ hx187_0)).trans hx187_0
            replace hx187_1 := (HB.out.cell (World.block_lt_of_cell? w _ hx187_1)).trans hx187_1
            have HR187_0 := mA hi187_0
            have HC187_0 := mA hl187_0
            clear hi187_0 hl187_0
            replace p187 := eq_true p187
            replace q187 := eq_true q187
            have p188 : 0 ≤ (x30_2 : Int) := of_decide_eq_true aT
            have q188 : x30_2 < (l0_0.length : Int) := of_decide_eq_true aT
            obtain ⟨ad188, A188_0, c188_0, e188, hx188_0, hx188_1, hl188_0, hi188_0⟩ := at_T80 HR0_0.out x30_2 p188 q188
            obtain rfl : ad186 = ad188 := (by injection e188)
            replace hx188_0 := (HB.out.cell (World.block_lt_of_cell? w _ hx188_0)).trans hx188_0
            replace hx188_1 := (HB.out.cell (World.block_lt_of_cell? w _ hx188_1)).trans hx188_1
            have HR188_0 := mA hi188_0
            have HC188_0 := mA hl188_0
            clear hi188_0 hl188_0
            replace p188 := eq_true p188
            replace q188 := eq_true q188
            first | (have ea_ := Option.some.inj (hx186_0.symm.trans hx188_0)) | (have ea_ := Option.some.inj (((HB.out.cell (World.block_lt_of_cell? w _ hw186_0)).trans hw186_0).symm.trans hx188_0))
            injection ea_ with ea_ en_ ec_
            subst ea_
            subst ec_
            clear en_
            have p189 : 0 ≤ (x30_2 : Int) := of_decide_eq_true aT
            have q189 : x30_2 < (l1_0.length : Int) := of_decide_eq_true aT
            obtain ⟨ad189, A189_0, c189_0, e189, hx189_0, hx189_1, hl189_0, hi189_0⟩ := at_T80 HR1_0.out x30_2 p189 q189
            obtain rfl : ad187 = ad189 := (by injection e189)
            replace hx189_0 := (HB.out.cell (World.block_lt_of_cell? w _ hx189_0)).trans hx189_0
            replace hx189_1 := (HB.out.cell (World.block_lt_of_cell? w _ hx189_1)).trans hx189_1
            have HR189_0 := mA hi189_0
            have HC189_0 := mA hl189_0
            clear hi189_0 hl189_0
            replace p189 := eq_true p189
            replace q189 := eq_true q189
            first | (have ea_ := Option.some.inj (hx187_0.symm.trans hx189_0)) | (have ea_ := Option.some.inj (((HB.out.cell (World.block_lt_of_cell? w _ hw187_0)).trans hw187_0).symm.trans hx189_0))
            injection ea_ with ea_ en_ ec_
            subst ea_
            subst ec_
            clear en_
            go_wp2_with (first | (go_at_call 56; (with_reducible refine (impl_equal.calls k2 _ _ ((rd_T80 l0_0 x30_2).f0) _ _ ((rd_T80 l1_0 x30_2).f0) false _ ?side1 ?side2 ?side3 ?side4 A25.out).mono ?_); (case side1 => exact cT (Kd.C_below HR188_0.out HB.out)); (case side2 => exact HC188_0.out); (case side3 => exact cT (Kd.C_below HR189_0.out HB.out)); (case side4 => exact HC189_0.out); rintro e w' ⟨rfl, ⟨nd, rfl⟩⟩; (try first | exact ⟨rfl, _, World.drewN_drewN _ _ _⟩ | exact ⟨rfl, _, Eq.trans (World.drewN_drewN _ _ _) (congrArg (World.drewN _) (Nat.add_assoc _ _ _))⟩)))
            repeat (go_quiet (first | (go_at_call 56; (with_reducible refine (impl_equal.calls k2 _ _ ((rd_T80 l0_0 x30_2).f0) _ _ ((rd_T80 l1_0 x30_2).f0) false _ ?side1 ?side2 ?side3 ?side4 A25.out).mono ?_); (case side1 => exact cT (Kd.C_below HR188_0.out HB.out)); (case side2 => exact HC188_0.out); (case side3 => exact cT (Kd.C_below HR189_0.out HB.out)); (case side4 => exact HC189_0.out); rintro e w' ⟨rfl, ⟨nd, rfl⟩⟩; (try first | exact ⟨rfl, _, World.drewN_drewN _ _ _⟩ | exact ⟨rfl, _, Eq.trans (World.drewN_drewN _ _ _) (congrArg (World.drewN _) (Nat.add_assoc _ _ _))⟩))); try go_wp2_with (first | (go_at_call 56; (with_reducible refine (impl_equal.calls k2 _ _ ((rd_T80 l0_0 x30_2).f0) _ _ ((rd_T80 l1_0 x30_2).f0) false _ ?side1 ?side2 ?side3 ?side4 A25.out).mono ?_); (case side1 => exact cT (Kd.C_below HR188_0.out HB.out)); (case side2 => exact HC188_0.out); (case side3 => exact cT (Kd.C_below HR189_0.out HB.out)); (case side4 => exact HC189_0.out); rintro e w' ⟨rfl, ⟨nd, rfl⟩⟩; (try first | exact ⟨rfl, _, World.drewN_drewN _ _ _⟩ | exact ⟨rfl, _, Eq.trans (World.drewN_drewN _ _ _) (congrArg (World.drewN _) (Nat.add_assoc _ _ _))⟩))))
            go_ret
            exact ⟨eT, bT2 HB GE184 GE185⟩
          ·
           rw [if_neg c24] at H
           have c24b0 : (((rd_T80 l0_0 x30_2).f1) == ((rd_T80 l1_0 x30_2).f1)) = false := beq_eq_false_iff_ne.mpr c24
           have c24b1 : (((rd_T80 l0_0 x30_2).f1) != ((rd_T80 l1_0 x30_2).f1)) = true := bne_iff_ne.mpr c24
           obtain rfl := Option.some.inj H
           have hnb33 := NB184_185.out
           have hnc33 := NB185_184.out
           have hcz34_0 : wr.cell? ⟨gb184, 0, none⟩ = some (.slice A0_0 l0_0.length c0_0) := (blk_cell BK184.out 0).trans rfl
           have hcz34_1 : wr.cell? ⟨gb184, 1, none⟩ = some (.int .i64 a0_1) := (blk_cell BK184.out 1).trans rfl
           have hcz34_2 : wr.cell? ⟨gb184, 2, none⟩ = some (.bool a0_2) := (blk_cell BK184.out 2).trans rfl
           have hfz34_0 := blk_frozen BK184.out 0
           have hfz34_1 := blk_frozen BK184.out 1
           have hfz34_2 := blk_frozen BK184.out 2
           have p186 : 0 ≤ (x30_2 : Int) := of_decide_eq_true aT
           have q186 : x30_2 < (l0_0.length : Int) := of_decide_eq_true aT
           obtain ⟨ad186, A186_0, c186_0, e186, hx186_0, hx186_1, hl186_0, hi186_0⟩ := at_T80 HR0_0.out x30_2 p186 q186
           cases e186
           replace hx186_0 := (HB.out.cell (World.block_lt_of_cell? w _ hx186_0)).trans hx186_0
           replace hx186_1 := (HB.out.cell (World.block_lt_of_cell? w _ hx186_1)).trans hx186_1
           have HR186_0 := mA hi186_0
           have HC186_0 := mA hl186_0
           clear hi186_0 hl186_0
           replace p186 := eq_true p186
           replace q186 := eq_true q186
           have hcz35_0 : wr.cell? ⟨gb185, 0, none⟩ = some (.slice A1_0 l1_0.length c1_0) := (blk_cell BK185.out 0).trans rfl
           have hcz35_1 : wr.cell? ⟨gb185, 1, none⟩ = some (.int .i64 a1_1) := (blk_cell BK185.out 1).trans rfl
           have hcz35_2 : wr.cell? ⟨gb185, 2, none⟩ = some (.bool a1_2) := (blk_cell BK185.out 2).trans rfl
           have hfz35_0 := blk_frozen BK185.out 0
           have hfz35_1 := blk_frozen BK185.out 1
           have hfz35_2 := blk_frozen BK185.out 2
           have p187 : 0 ≤ (x30_2 : Int) := of_decide_eq_true aT
           have q187 : x30_2 < (l1_0.length : Int) := of_decide_eq_true aT
           obtain ⟨ad187, A187_0, c187_0, e187, hx187_0, hx187_1, hl187_0, hi187_0⟩ := at_T80 HR1_0.out x30_2 p187 q187
           cases e187
           replace hx187_0 := (HB.out.cell (World.block_lt_of_cell? w _ hx187_0)).trans hx187_0
           replace hx187_1 := (HB.out.cell (World.block_lt_of_cell? w _ hx187_1)).trans hx187_1
           have HR187_0 := mA hi187_0
           have HC187_0 := mA hl187_0
           clear hi187_0 hl187_0
           replace p187 := eq_true p187
           replace q187 := eq_true q187
           go_wp2
           repeat (go_quiet (fail); try go_wp2)
           go_ret
           exact ⟨eT, bT2 HB GE184 GE185⟩
         ·
          rw [if_neg c23] at H
          exact absurd H (by simp)
        ·
         rw [if_neg c22] at H
         exact absurd H (by simp)
       ·
        rw [if_neg c21] at H
        exact absurd H (by simp)
      ·
       rw [if_neg c20] at H
       have c20b0 : decide (x30_2 < (l0_0.length : Int)) = false := decide_eq_false c20
       clear c20
       obtain rfl := Option.some.inj H
       go_wp2
       repeat (go_quiet (fail); try go_wp2)
       go_ret
       exact ⟨eT, bT2 HB GE184 GE185⟩

/-! ### laws_FnExactEqualAggregators: function 4 -/
def laws_FnExactEqualAggregators.f (k : Nat) (l0_0 : List (S107)) (a0_1 : Int) (a0_2 : Bool) (l1_0 : List (S107)) (a1_1 : Int) (a1_2 : Bool) : Option (Bool) := (laws_szAggregator.f k l0_0 a0_1 a0_2 1048576).bind fun t202 => (if t202 < 0 then (some true) else ((laws_szAggregator.f k l1_0 a1_1 a1_2 t202).bind fun t203 => (if t203 < 0 then (some true) else ((laws_toAggregator.f k l0_0 a0_1 a0_2).bind fun bt204 => ((laws_toAggregator.f k l1_0 a1_1 a1_2).bind fun bt209 => ((spec_EqualAggregators.f k bt204.1 bt204.2.1 bt204.2.2 bt209.1 bt209.2.1 bt209.2.2).bind fun t214 => ((laws_toAggregator.f k l0_0 a0_1 a0_2).bind fun bt215 => ((laws_toAggregator.f k l1_0 a1_1 a1_2).bind fun bt221 => ((impl_EqualAggregators.f k bt215.1 bt215.2.1 bt215.2.2 bt221.1 bt221.2.1 bt221.2.2).bind fun t227 => (if (t227 != t214) = true then (some false) else ((laws_toAggregator.f k l0_0 a0_1 a0_2).bind fun bt228 => ((laws_eqAggregator.f k bt215.1 bt215.2.1 bt215.2.2 bt228.1 bt228.2.1 bt228.2.2).bind fun t233 => (if t233 = true then ((laws_toAggregator.f k l1_0 a1_1 a1_2).bind fun bt234 => ((laws_eqAggregator.f k bt221.1 bt221.2.1 bt221.2.2 bt234.1 bt234.2.1 bt234.2.2).bind fun t239 => (if t239 = true then (some true) else (some false)))) else (some false))))))))))))))
theorem laws_FnExactEqualAggregators.mono : ∀ a0 a1 a2 a3 a4 a5 k, LeO (laws_FnExactEqualAggregators.f k a0 a1 a2 a3 a4 a5) (laws_FnExactEqualAggregators.f (k + 1) a0 a1 a2 a3 a4 a5) := by
 intro a0 a1 a2 a3 a4 a5 k
 unfold laws_FnExactEqualAggregators.f
 repeat' first
   | (with_reducible exact impl_EqualAggregators.mono _ _ _ _ _ _ _)
   | (with_reducible exact laws_eqAggregator.mono _ _ _ _ _ _ _)
   | (with_reducible exact laws_szAggregator.mono _ _ _ _ _)
   | (with_reducible exact laws_toAggregator.mono _ _ _ _)
   | (with_reducible exact spec_EqualAggregators.mono _ _ _ _ _ _ _)
   | (with_reducible exact LeO.refl _)
   | (with_reducible exact LeO.none _)
   | (with_reducible refine LeO.ite ?_ ?_)
   | (with_reducible refine LeO.bind ?_ (fun _ => ?_))
   | exact impl_EqualAggregators.mono _ _ _ _ _ _ _
   | exact laws_eqAggregator.mono _ _ _ _ _ _ _
   | exact laws_szAggregator.mono _ _ _ _ _
   | exact laws_toAggregator.mono _ _ _ _
   | exact spec_EqualAggregators.mono _ _ _ _ _ _ _
   | exact LeO.none _
   | refine LeO.ite ?_ ?_
   | refine LeO.bind ?_ (fun _ => ?_)
set_option maxHeartbeats 8000000 in
set_option maxRecDepth 100000 in
theorem laws_FnExactEqualAggregators.calls (k : Nat) (A0_0 : Option Addr) (c0_0 : Nat) (l0_0 : List (S107)) (a0_1 : Int) (a0_2 : Bool) (A1_0 : Option Addr) (c1_0 : Nat) (l1_0 : List (S107)) (a1_1 : Int) (a1_2 : Bool) (r : Bool) (w : World) (hr0_0 : Kd.C k107 w A0_0 l0_0.length l0_0) (hc0_0 : l0_0.length ≤ c0_0) (hr1_0 : Kd.C k107 w A1_0 l1_0.length l1_0) (hc1_0 : l1_0.length ≤ c1_0) (ht : r = true) (h : laws_FnExactEqualAggregators.f k l0_0 a0_1 a0_2 l1_0 a1_1 a1_2 = some r) :
  Calls Try.prog 4 #[.agg #[.slice A0_0 l0_0.length c0_0, .int .i64 a0_1, .bool a0_2], .agg #[.slice A1_0 l1_0.length c1_0, .int .i64 a1_1, .bool a1_2]] w fun e w' => e = .returned (.bool r) ∧ Below w.heap.size w w' := by
 have hu35 := Try.underlying35
 have hu40 := Try.underlying40
 have HR0_0 := mA hr0_0
 have HC0_0 := mA hc0_0
 clear hr0_0 hc0_0
 have HR1_0 := mA hr1_0
 have HC1_0 := mA hc1_0
 clear hr1_0 hc1_0
 have HB := mA (Below.refl w.heap.size w)
 have HT := mA ht
 clear ht
 have H : ((laws_szAggregator.f k l0_0 a0_1 a0_2 1048576).bind fun t202 => (if t202 < 0 then (some true) else ((laws_szAggregator.f k l1_0 a1_1 a1_2 t202).bind fun t203 => (if t203 < 0 then (some true) else ((laws_toAggregator.f k l0_0 a0_1 a0_2).bind fun bt204 => ((laws_toAggregator.f k l1_0 a1_1 a1_2).bind fun bt209 => ((spec_EqualAggregators.f k bt204.1 bt204.2.1 bt204.2.2 bt209.1 bt209.2.1 bt209.2.2).bind fun t214 => ((laws_toAggregator.f k l0_0 a0_1 a0_2).bind fun bt215 => ((laws_toAggregator.f k l1_0 a1_1 a1_2).bind fun bt221 => ((impl_EqualAggregators.f k bt215.1 bt215.2.1 bt215.2.2 bt221.1 bt221.2.1 bt221.2.2).bind fun t227 => (if (t227 != t214) = true then (some false) else ((laws_toAggregator.f k l0_0 a0_1 a0_2).bind fun bt228 => ((laws_eqAggregator.f k bt215.1 bt215.2.1 bt215.2.2 bt228.1 bt228.2.1 bt228.2.2).bind fun t233 => (if t233 = true then ((laws_toAggregator.f k l1_0 a1_1 a1_2).bind fun bt234 => ((laws_eqAggregator.f k bt221.1 bt221.2.1 bt221.2.2 bt234.1 bt234.2.1 bt234.2.2).bind fun t239 => (if t239 = true then (some true) else (some false)))) else (some false))))))))))))))) = some r := h
 clear h
 obtain ⟨t202, A3, H⟩ := Option.bind_eq_some_iff.mp H
 replace A3 := mA A3
 try dsimp only at H
 by_cases c4 : t202 < 0
 ·
  rw [if_pos c4] at H
  have c4b0 : decide (t202 < 0) = true := decide_eq_true c4
  clear c4
  obtain rfl := Option.some.inj H
  go_enter Try.func4, Try.ntmps4
  go_wp2_with (first | ((with_reducible refine gate_dst (N := 2) rfl ?_); refine boxT 2 #[.slice A0_0 l0_0.length c0_0, .int .i64 a0_1, .bool a0_2] 35 ?_; intro gb200 hg w5 hbox hb; have BK200 := mA (hbox); have GW200 := mA ((by rw [hg]; exact (below_size (bT HB)) : w.heap.size ≤ gb200)); have GE200 := GW200; replace HB := mA (below_step (bT HB) hb); clear hb hbox hg) | ((with_reducible refine gate_dst (N := 3) rfl ?_); refine boxT 3 #[.slice A1_0 l1_0.length c1_0, .int .i64 a1_1, .bool a1_2] 35 ?_; intro gb201 hg w6 hbox hb; have GW201 := mA ((by rw [hg]; exact (below_size (bT1 HB GE200)) : w.heap.size ≤ gb201)); have GE201 := GW201; replace HB := mA (below_step (bT1 HB GE200) hb); have NB200_201 : Aside0 (gb200 ≠ gb201) := nL BK200 hg; have NB201_200 : Aside0 (gb201 ≠ gb200) := nG BK200 hg; replace BK200 := kB BK200 hb; clear hb hbox hg; have hnb7 := NB200_201.out; have hnc7 := NB201_200.out; obtain ⟨hcz8_0, hcz8_1, hcz8_2, hfz8_0, hfz8_1, hfz8_2⟩ := blk3 BK200.out) | ((with_reducible refine gate_callee (f := 20) rfl ?_); refine goesT (some 12) Try.func20 #[.agg #[.slice A0_0 l0_0.length c0_0, .int .i64 a0_1, .bool a0_2], .int .i64 1048576] ?_; (with_reducible refine (laws_szAggregator.calls k _ _ l0_0 a0_1 a0_2 1048576 t202 _ ?side1 ?side2 A3.out).mono ?_); (case side1 => exact cT (Kd.C_below HR0_0.out HB.out)); (case side2 => exact HC0_0.out); rintro e w9 ⟨rfl, hb⟩; refine ⟨_, rfl, ?_⟩; replace HB := mA (below_step (bT2 HB GE200 GE201) hb); (try clear hb)))
  go_ret
  exact ⟨eT, bT2 HB GE200 GE201⟩
 ·
  rw [if_neg c4] at H
  have c4b0 : decide (t202 < 0) = false := decide_eq_false c4
  clear c4
  obtain ⟨t203, A10, H⟩ := Option.bind_eq_some_iff.mp H
  replace A10 := mA A10
  try dsimp only at H
  by_cases c11 : t203 < 0
  ·
   rw [if_pos c11] at H
   have c11b0 : decide (t203 < 0) = true := decide_eq_true c11
   clear c11
   obtain rfl := Option.some.inj H
   go_enter Try.func4, Try.ntmps4
   go_wp2_with (first | ((with_reducible refine gate_dst (N := 2) rfl ?_); refine boxT 2 #[.slice A0_0 l0_0.length c0_0, .int .i64 a0_1, .bool a0_2] 35 ?_; intro gb200 hg w12 hbox hb; have BK200 := mA (hbox); have GW200 := mA ((by rw [hg]; exact (below_size (bT HB)) : w.heap.size ≤ gb200)); have GE200 := GW200; replace HB := mA (below_step (bT HB) hb); clear hb hbox hg) | ((with_reducible refine gate_dst (N := 3) rfl ?_); refine boxT 3 #[.slice A1_0 l1_0.length c1_0, .int .i64 a1_1, .bool a1_2] 35 ?_; intro gb201 hg w13 hbox hb; have BK201 := mA (hbox); have GW201 := mA ((by rw [hg]; exact (below_size (bT1 HB GE200)) : w.heap.size ≤ gb201)); have GE201 := GW201; replace HB := mA (below_step (bT1 HB GE200) hb); have NB200_201 : Aside0 (gb200 ≠ gb201) := nL BK200 hg; have NB201_200 : Aside0 (gb201 ≠ gb200) := nG BK200 hg; replace BK200 := kB BK200 hb; clear hb hbox hg; have hnb14 := NB200_201.out; have hnc14 := NB201_200.out; obtain ⟨hcz15_0, hcz15_1, hcz15_2, hfz15_0, hfz15_1, hfz15_2⟩ := blk3 BK200.out) | ((with_reducible refine gate_callee (f := 20) rfl ?_); refine goesT (some 12) Try.func20 #[.agg #[.slice A0_0 l0_0.length c0_0, .int .i64 a0_1, .bool a0_2], .int .i64 1048576] ?_; (with_reducible refine (laws_szAggregator.calls k _ _ l0_0 a0_1 a0_2 1048576 t202 _ ?side1 ?side2 A3.out).mono ?_); (case side1 => exact cT (Kd.C_below HR0_0.out HB.out)); (case side2 => exact HC0_0.out); rintro e w16 ⟨rfl, hb⟩; refine ⟨_, rfl, ?_⟩; replace BK201 := kB BK201 hb; replace HB := mA (below_step (bT2 HB GE200 GE201) hb); (try clear hb); obtain ⟨hcz17_0, hcz17_1, hcz17_2, hfz17_0, hfz17_1, hfz17_2⟩ := blk3 BK201.out) | ((with_reducible refine gate_callee (f := 20) rfl ?_); refine goesT (some 17) Try.func20 #[.agg #[.slice A1_0 l1_0.length c1_0, .int .i64 a1_1, .bool a1_2], .int .i64 t202] ?_; (with_reducible refine (laws_szAggregator.calls k _ _ l1_0 a1_1 a1_2 t202 t203 _ ?side1 ?side2 A10.out).mono ?_); (case side1 => exact cT (Kd.C_below HR1_0.out HB.out)); (case side2 => exact HC1_0.out); rintro e w18 ⟨rfl, hb⟩; refine ⟨_, rfl, ?_⟩; replace HB := mA (below_step (bT2 HB GE200 GE201) hb); (try clear hb)))
   go_ret
   exact ⟨eT, bT2 HB GE200 GE201⟩
  ·
   rw [if_neg c11] at H
   have c11b0 : decide (t203 < 0) = false := decide_eq_false c11
   clear c11
   obtain ⟨⟨t204, t207, t208⟩, A19, H⟩ := Option.bind_eq_some_iff.mp H
   replace A19 := mA A19
   try dsimp only at H
   obtain ⟨⟨t209, t212, t213⟩, A20, H⟩ := Option.bind_eq_some_iff.mp H
   replace A20 := mA A20
   try dsimp only at H
   obtain ⟨t214, A21, H⟩ := Option.bind_eq_some_iff.mp H
   replace A21 := mA A21
   try dsimp only at H
   obtain ⟨⟨t215, t218, t219⟩, A22, H⟩ := Option.bind_eq_some_iff.mp H
   replace A22 := mA A22
   try dsimp only at H
   obtain ⟨⟨t221, t224, t225⟩, A23, H⟩ := Option.bind_eq_some_iff.mp H
   replace A23 := mA A23
   try dsimp only at H
   obtain ⟨t227, A24, H⟩ := Option.bind_eq_some_iff.mp H
   replace A24 := mA A24
   try dsimp only at H
   by_cases c25 : (t227 != t214) = true
   ·
    rw [if_pos c25] at H
    have c25b0 : (t227 != t214) = true := c25
    (try (have c25b1 : decide (t227 = t214) = false := by simpa using c25))
    (try (have c25b2 : (t227 == t214) = false := by simpa using c25))
    (try (have c25b3 : ¬ (t227 = t214) := by simpa using c25))
    clear c25
    exact absurd ((Option.some.inj H).trans HT.out) (by simp)
   ·
    rw [if_neg c25] at H
    have c25b0 : (t227 != t214) = false := by simpa using c25
    (try (have c25b1 : decide (t227 = t214) = true := by simpa using c25))
    (try (have c25b2 : (t227 == t214) = true := by simpa using c25))
    clear c25
    obtain ⟨⟨t228, t231, t232⟩, A26, H⟩ := Option.bind_eq_some_iff.mp H
    replace A26 := mA A26
    try dsimp only at H
    obtain ⟨t233, A27, H⟩ := Option.bind_eq_some_iff.mp H
    replace A27 := mA A27
    try dsimp only at H
    by_cases c28 : t233 = true
    ·
     subst c28
     rw [if_pos rfl] at H
     obtain ⟨⟨t234, t237, t238⟩, A29, H⟩ := Option.bind_eq_some_iff.mp H
     replace A29 := mA A29
     try dsimp only at H
     obtain ⟨t239, A30, H⟩ := Option.bind_eq_some_iff.mp H
     replace A30 := mA A30
     replace H : (if t239 = true then (some true) else (some false)) = some r := H
     by_cases c31 : t239 = true
     ·
      subst c31
      rw [if_pos rfl] at H
      obtain rfl := Option.some.inj H
      go_enter Try.func4, Try.ntmps4
      try go_wp2_with (first | ((with_reducible refine gate_dst (N := 2) rfl ?_); refine boxT 2 #[.slice A0_0 l0_0.length c0_0, .int .i64 a0_1, .bool a0_2] 35 ?_; intro gb200 hg w32 hbox hb; have BK200 := mA (hbox); have GW200 := mA ((by rw [hg]; exact (below_size (bT HB)) : w.heap.size ≤ gb200)); have GE200 := GW200; replace HB := mA (below_step (bT HB) hb); clear hb hbox hg) | ((with_reducible refine gate_dst (N := 3) rfl ?_); refine boxT 3 #[.slice A1_0 l1_0.length c1_0, .int .i64 a1_1, .bool a1_2] 35 ?_; intro gb201 hg w33 hbox hb; have BK201 := mA (hbox); have GW201 := mA ((by rw [hg]; exact (below_size (bT1 HB GE200)) : w.heap.size ≤ gb201)); have GE201 := GW201; replace HB := mA (below_step (bT1 HB GE200) hb); have NB200_201 : Aside0 (gb200 ≠ gb201) := nL BK200 hg; have NB201_200 : Aside0 (gb201 ≠ gb200) := nG BK200 hg; replace BK200 := kB BK200 hb; clear hb hbox hg; have hnb34 := NB200_201.out; have hnc34 := NB201_200.out; obtain ⟨hcz35_0, hcz35_1, hcz35_2, hfz35_0, hfz35_1, hfz35_2⟩ := blk3 BK200.out) | ((with_reducible refine gate_callee (f := 20) rfl ?_); refine goesT (some 12) Try.func20 #[.agg #[.slice A0_0 l0_0.length c0_0, .int .i64 a0_1, .bool a0_2], .int .i64 1048576] ?_; (with_reducible refine (laws_szAggregator.calls k _ _ l0_0 a0_1 a0_2 1048576 t202 _ ?side1 ?side2 A3.out).mono ?_); (case side1 => exact cT (Kd.C_below HR0_0.out HB.out)); (case side2 => exact HC0_0.out); rintro e w36 ⟨rfl, hb⟩; refine ⟨_, rfl, ?_⟩; replace BK200 := kB BK200 hb; replace BK201 := kB BK201 hb; replace HB := mA (below_step (bT2 HB GE200 GE201) hb); (try clear hb); obtain ⟨hcz37_0, hcz37_1, hcz37_2, hfz37_0, hfz37_1, hfz37_2⟩ := blk3 BK201.out) | ((with_reducible refine gate_callee (f := 20) rfl ?_); refine goesT (some 17) Try.func20 #[.agg #[.slice A1_0 l1_0.length c1_0, .int .i64 a1_1, .bool a1_2], .int .i64 t202] ?_; (with_reducible refine (laws_szAggregator.calls k _ _ l1_0 a1_1 a1_2 t202 t203 _ ?side1 ?side2 A10.out).mono ?_); (case side1 => exact cT (Kd.C_below HR1_0.out HB.out)); (case side2 => exact HC1_0.out); rintro e w38 ⟨rfl, hb⟩; refine ⟨_, rfl, ?_⟩; replace BK200 := kB BK200 hb; replace BK201 := kB BK201 hb; replace HB := mA (below_step (bT2 HB GE200 GE201) hb); (try clear hb)))
      replace BK200 := mA (blk_drew BK200.out)
      replace BK201 := mA (blk_drew BK201.out)
      replace HB := mA (below_drew1 HB.out)
      refine start_ (n := 6) (S := fun w' => w'.cell? ⟨gb200, 0, none⟩ = some (.slice A0_0 l0_0.length c0_0) ∧ w'.cell? ⟨gb200, 1, none⟩ = some (.int .i64 a0_1) ∧ w'.cell? ⟨gb200, 2, none⟩ = some (.bool a0_2) ∧ w'.cell? ⟨gb201, 0, none⟩ = some (.slice A1_0 l1_0.length c1_0) ∧ w'.cell? ⟨gb201, 1, none⟩ = some (.int .i64 a1_1) ∧ w'.cell? ⟨gb201, 2, none⟩ = some (.bool a1_2)) (ds := []) #[false, false, false, false, false, false] (by kernel_rfl) rfl rfl ⟨(blk_cell BK200.out 0).trans rfl, (blk_cell BK200.out 1).trans rfl, (blk_cell BK200.out 2).trans rfl, (blk_cell BK201.out 0).trans rfl, (blk_cell BK201.out 1).trans rfl, (blk_cell BK201.out 2).trans rfl⟩ (fun hHeld => ?_)
      generalize w38.drew = w39 at BK200 BK201 HB hHeld ⊢
      refine take_ (i := 0) (N := some 20) (v := ?_) (a' := ?_) #[true, false, false, false, false, false] rfl rfl (by kernel_rfl) (fun _ _ _ h => h) (Or.inl ⟨by rfl, ?_⟩) hHeld ?_ ?_
      rotate_left
      ·
       rintro w' ⟨s0, s1, s2, s3, s4, s5⟩
       go_simp
       with_reducible rfl
      rotate_left
      ·
       simp only [Act.put, List.setIfInBounds_toArray, List.set_cons_zero, List.set_cons_succ, i64_w, i32_w]
       rfl
      refine take_ (i := 2) (N := some 22) (v := ?_) (a' := ?_) #[true, false, true, false, false, false] rfl rfl (by kernel_rfl) (fun _ _ _ h => h) (Or.inl ⟨by rfl, ?_⟩) hHeld ?_ ?_
      rotate_left
      ·
       rintro w' ⟨s0, s1, s2, s3, s4, s5⟩
       go_simp
       with_reducible rfl
      rotate_left
      ·
       simp only [Act.put, List.setIfInBounds_toArray, List.set_cons_zero, List.set_cons_succ, i64_w, i32_w]
       rfl
      refine one_ (i := 1) (N := some 21) #[true, true, true, false, false, false] rfl rfl (by kernel_rfl) (by decide) (fun K hK => ?_)
      refine goes_ Try.func22 (by kernel_rfl) rfl #[.agg #[.slice A0_0 l0_0.length c0_0, .int .i64 a0_1, .bool a0_2]] (by rfl) rfl rfl mT ?_
      with_reducible refine (laws_toAggregator.calls k _ _ l0_0 a0_1 a0_2 t204 t207 t208 _ ?side1 ?side2 A19.out).mono ?_
      (case side1 => exact cT (Kd.C_below HR0_0.out HB.out))
      (case side2 => exact HC0_0.out)
      rintro e w40 ⟨v205, rfl, ho0, hb⟩
      refine ⟨_, rfl, ?_⟩
      have HO206 := mA (Kd.S_lower ho0 (below_size (bT2 HB GE200 GE201)))
      replace BK200 := kB BK200 hb
      replace BK201 := kB BK201 hb
      replace HB := mA (below_step (bT2 HB GE200 GE201) hb)
      (try clear hb)
      (try clear hb2)
      (try clear hk)
      (try clear hi)
      (try clear ho0)
      refine hK.out _ _ ⟨(blk_cell BK200.out 0).trans rfl, (blk_cell BK200.out 1).trans rfl, (blk_cell BK200.out 2).trans rfl, (blk_cell BK201.out 0).trans rfl, (blk_cell BK201.out 1).trans rfl, (blk_cell BK201.out 2).trans rfl⟩ (fun hHeld => ?_)
      clear hK K
      refine norm_ (a' := ?_) ?_ ?_
      rotate_left
      ·
       show Act.put _ (some 21) _ = _
       simp only [Act.put, List.setIfInBounds_toArray, List.set_cons_zero, List.set_cons_succ, i64_w, i32_w]
       rfl
      refine one_ (i := 3) (N := some 23) #[true, true, true, true, false, false] rfl rfl (by kernel_rfl) (by decide) (fun K hK => ?_)
      refine goes_ Try.func22 (by kernel_rfl) rfl #[.agg #[.slice A1_0 l1_0.length c1_0, .int .i64 a1_1, .bool a1_2]] (by rfl) rfl rfl mT ?_
      with_reducible refine (laws_toAggregator.calls k _ _ l1_0 a1_1 a1_2 t209 t212 t213 _ ?side1 ?side2 A20.out).mono ?_
      (case side1 => exact cT (Kd.C_below HR1_0.out HB.out))
      (case side2 => exact HC1_0.out)
      rintro e w41 ⟨v210, rfl, ho0, hb⟩
      refine ⟨_, rfl, ?_⟩
      have HO211 := mA (Kd.S_lower (Kd.S_new' ho0 (Kd.S_lt (rTS HO206))) (below_size (bT2 HB GE200 GE201)))
      replace HO206 := mA (Kd.S_elder' (rTS HO206) (Kd.S_base ho0) hb)
      replace BK200 := kB BK200 hb
      replace BK201 := kB BK201 hb
      replace HB := mA (below_step (bT2 HB GE200 GE201) hb)
      (try clear hb)
      (try clear hb2)
      (try clear hk)
      (try clear hi)
      (try clear ho0)
      obtain ⟨Ao42, co42, eo42⟩ := Kd.S_slice HO206.out
      (first | subst eo42 | (injection eo42 with f1_ f2_ f3_; have f4_ := f1_.symm; have f5_ := f3_.symm; clear f1_ f2_ f3_; subst f4_; subst f5_))
      obtain ⟨Ao43, co43, eo43⟩ := Kd.S_slice HO211.out
      (first | subst eo43 | (injection eo43 with f1_ f2_ f3_; have f4_ := f1_.symm; have f5_ := f3_.symm; clear f1_ f2_ f3_; subst f4_; subst f5_))
      refine hK.out _ _ ⟨(blk_cell BK200.out 0).trans rfl, (blk_cell BK200.out 1).trans rfl, (blk_cell BK200.out 2).trans rfl, (blk_cell BK201.out 0).trans rfl, (blk_cell BK201.out 1).trans rfl, (blk_cell BK201.out 2).trans rfl⟩ (fun hHeld => ?_)
      clear hK K
      refine norm_ (a' := ?_) ?_ ?_
      rotate_left
      ·
       show Act.put _ (some 23) _ = _
       simp only [Act.put, List.setIfInBounds_toArray, List.set_cons_zero, List.set_cons_succ, i64_w, i32_w]
       rfl
      refine one_ (i := 4) (N := some 24) #[true, true, true, true, true, false] rfl rfl (by kernel_rfl) (by decide) (fun K hK => ?_)
      refine goes_ Try.func21 (by kernel_rfl) rfl #[.agg #[.slice Ao42 t204.length co42, .int .i64 t207, .bool t208], .agg #[.slice Ao43 t209.length co43, .int .i64 t212, .bool t213]] (by rfl) rfl rfl mT ?_
      with_reducible refine (spec_EqualAggregators.calls k _ _ t204 t207 t208 _ _ t209 t212 t213 t214 _ ?side1 ?side2 ?side3 ?side4 A21.out).mono ?_
      (case side1 => exact cT ((Kd.S_reads' HO206.out).2.2))
      (case side2 => exact (Kd.S_reads' HO206.out).2.1)
      (case side3 => exact cT ((Kd.S_reads' HO211.out).2.2))
      (case side4 => exact (Kd.S_reads' HO211.out).2.1)
      rintro e w44 ⟨rfl, hb⟩
      refine ⟨_, rfl, ?_⟩
      replace HO206 := rBS HO206 hb
      replace HO211 := rBS HO211 hb
      replace BK200 := kB BK200 hb
      replace BK201 := kB BK201 hb
      replace HB := mA (below_step (bT2 HB GE200 GE201) hb)
      (try clear hb)
      (try clear hb2)
      (try clear hk)
      (try clear hi)
      refine hK.out _ _ ⟨(blk_cell BK200.out 0).trans rfl, (blk_cell BK200.out 1).trans rfl, (blk_cell BK200.out 2).trans rfl, (blk_cell BK201.out 0).trans rfl, (blk_cell BK201.out 1).trans rfl, (blk_cell BK201.out 2).trans rfl⟩ (fun hHeld => ?_)
      clear hK K
      refine norm_ (a' := ?_) ?_ ?_
      rotate_left
      ·
       show Act.put _ (some 24) _ = _
       simp only [Act.put, List.setIfInBounds_toArray, List.set_cons_zero, List.set_cons_succ, i64_w, i32_w]
       rfl
      refine pureT (i := 5) (N := some 6) #[true, true, true, true, true, true] (by kernel_rfl) ?_
      refine done_ (by kernel_rfl) ?_
      have hcz45_0 : w44.cell? ⟨gb200, 0, none⟩ = some (.slice A0_0 l0_0.length c0_0) := (blk_cell BK200.out 0).trans rfl
      have hcz45_1 : w44.cell? ⟨gb200, 1, none⟩ = some (.int .i64 a0_1) := (blk_cell BK200.out 1).trans rfl
      have hcz45_2 : w44.cell? ⟨gb200, 2, none⟩ = some (.bool a0_2) := (blk_cell BK200.out 2).trans rfl
      have hfz45_0 := blk_frozen BK200.out 0
      have hfz45_1 := blk_frozen BK200.out 1
      have hfz45_2 := blk_frozen BK200.out 2
      try go_wp2_with (first | ((with_reducible refine gate_callee (f := 22) rfl ?_); refine goesT (some 26) Try.func22 #[.agg #[.slice A0_0 l0_0.length c0_0, .int .i64 a0_1, .bool a0_2]] ?_; (with_reducible refine (laws_toAggregator.calls k _ _ l0_0 a0_1 a0_2 t215 t218 t219 _ ?side1 ?side2 A22.out).mono ?_); (case side1 => exact cT (Kd.C_below HR0_0.out HB.out)); (case side2 => exact HC0_0.out); rintro e w46 ⟨v216, rfl, ho0, hb⟩; refine ⟨_, rfl, ?_⟩; have HO217 := mA (Kd.S_lower (Kd.S_new' (Kd.S_new' ho0 (Kd.S_lt (rTS HO206))) (Kd.S_lt (rTS HO211))) (below_size (bT2 HB GE200 GE201))); replace HO206 := mA (Kd.S_elder' (rTS HO206) (Kd.S_base ho0) hb); replace HO211 := mA (Kd.S_elder' (rTS HO211) (Kd.S_base ho0) hb); replace BK200 := kB BK200 hb; replace BK201 := kB BK201 hb; replace HB := mA (below_step (bT2 HB GE200 GE201) hb); (try clear hb); (try clear hk); (try clear ho0)) | ((with_reducible refine gate_dst (N := 7) rfl ?_); refine boxT 7 #[.slice none 0 0, .int .i64 0, .bool false] 40 ?_; intro gb220 hg w47 hbox hb; replace HO206 := rBS HO206 hb; replace HO211 := rBS HO211 hb; replace HO217 := rBS HO217 hb; have BK220 := mA (hbox); have GW220 := mA ((by rw [hg]; exact (below_size (bT2 HB GE200 GE201)) : w.heap.size ≤ gb220)); have GE220 := GW220; replace HB := mA (below_step (bT2 HB GE200 GE201) hb); have NB200_220 : Aside0 (gb200 ≠ gb220) := nL BK200 hg; have NB220_200 : Aside0 (gb220 ≠ gb200) := nG BK200 hg; replace BK200 := kB BK200 hb; have NB201_220 : Aside0 (gb201 ≠ gb220) := nL BK201 hg; have NB220_201 : Aside0 (gb220 ≠ gb201) := nG BK201 hg; replace BK201 := kB BK201 hb; clear hb hbox hg; obtain ⟨Ao48, co48, eo48⟩ := Kd.S_slice HO217.out; subst eo48; have hnb49 := NB220_200.out; have hnc49 := NB200_220.out; have hnb50 := NB220_201.out; have hnc50 := NB201_220.out; obtain ⟨hcz51_0, hcz51_1, hcz51_2, hfz51_0, hfz51_1, hfz51_2⟩ := blk3 BK220.out; obtain ⟨hcz52_0, hcz52_1, hcz52_2, hfz52_0, hfz52_1, hfz52_2⟩ := blk3 BK201.out) | ((with_reducible refine gate_callee (f := 22) rfl ?_); refine goesT (some 28) Try.func22 #[.agg #[.slice A1_0 l1_0.length c1_0, .int .i64 a1_1, .bool a1_2]] ?_; (with_reducible refine (laws_toAggregator.calls k _ _ l1_0 a1_1 a1_2 t221 t224 t225 _ ?side1 ?side2 A23.out).mono ?_); (case side1 => exact Kd.C_below HR1_0.out (bT3 HB GE200 GE201 GE220)); (case side2 => exact HC1_0.out); rintro e w53 ⟨v222, rfl, ho0, hb⟩; refine ⟨_, rfl, ?_⟩; have HO223 := mA (Kd.S_lower (Kd.S_new' (Kd.S_new' (Kd.S_new' ho0 (Kd.S_lt (by (with_reducible repeat (first | apply Kd.S_alloc | apply Kd.S_drewN | apply Kd.S_drew)); exact (Kd.S_mono (Kd.S_far (p := ⟨gb220, 2, none⟩) (Kd.S_far (p := ⟨gb220, 1, none⟩) (Kd.S_far (p := ⟨gb220, 0, none⟩) (Kd.S_types HO206.out BK220.out (by decide)) (fun _ hk => hk.2) (.slice Ao48 t215.length co48)) (fun _ hk => hk.2) (.int .i64 t218)) (fun _ hk => hk.2) (.bool t219)) (fun _ h_ => h_.1))))) (Kd.S_lt (by (with_reducible repeat (first | apply Kd.S_alloc | apply Kd.S_drewN | apply Kd.S_drew)); exact (Kd.S_mono (Kd.S_far (p := ⟨gb220, 2, none⟩) (Kd.S_far (p := ⟨gb220, 1, none⟩) (Kd.S_far (p := ⟨gb220, 0, none⟩) (Kd.S_types HO211.out BK220.out (by decide)) (fun _ hk => hk.2) (.slice Ao48 t215.length co48)) (fun _ hk => hk.2) (.int .i64 t218)) (fun _ hk => hk.2) (.bool t219)) (fun _ h_ => h_.1))))) (Kd.S_lt (by (with_reducible repeat (first | apply Kd.S_alloc | apply Kd.S_drewN | apply Kd.S_drew)); exact (Kd.S_mono (Kd.S_far (p := ⟨gb220, 2, none⟩) (Kd.S_far (p := ⟨gb220, 1, none⟩) (Kd.S_far (p := ⟨gb220, 0, none⟩) (Kd.S_types HO217.out BK220.out (by decide)) (fun _ hk => hk.2) (.slice Ao48 t215.length co48)) (fun _ hk => hk.2) (.int .i64 t218)) (fun _ hk => hk.2) (.bool t219)) (fun _ h_ => h_.1))))) (below_size (bT3 HB GE200 GE201 GE220))); replace HO206 := mA (Kd.S_elder' (by (with_reducible repeat (first | apply Kd.S_alloc | apply Kd.S_drewN | apply Kd.S_drew)); exact (Kd.S_mono (Kd.S_far (p := ⟨gb220, 2, none⟩) (Kd.S_far (p := ⟨gb220, 1, none⟩) (Kd.S_far (p := ⟨gb220, 0, none⟩) (Kd.S_types HO206.out BK220.out (by decide)) (fun _ hk => hk.2) (.slice Ao48 t215.length co48)) (fun _ hk => hk.2) (.int .i64 t218)) (fun _ hk => hk.2) (.bool t219)) (fun _ h_ => h_.1))) (Kd.S_base ho0) hb); replace HO211 := mA (Kd.S_elder' (by (with_reducible repeat (first | apply Kd.S_alloc | apply Kd.S_drewN | apply Kd.S_drew)); exact (Kd.S_mono (Kd.S_far (p := ⟨gb220, 2, none⟩) (Kd.S_far (p := ⟨gb220, 1, none⟩) (Kd.S_far (p := ⟨gb220, 0, none⟩) (Kd.S_types HO211.out BK220.out (by decide)) (fun _ hk => hk.2) (.slice Ao48 t215.length co48)) (fun _ hk => hk.2) (.int .i64 t218)) (fun _ hk => hk.2) (.bool t219)) (fun _ h_ => h_.1))) (Kd.S_base ho0) hb); replace HO217 := mA (Kd.S_elder' (by (with_reducible repeat (first | apply Kd.S_alloc | apply Kd.S_drewN | apply Kd.S_drew)); exact (Kd.S_mono (Kd.S_far (p := ⟨gb220, 2, none⟩) (Kd.S_far (p := ⟨gb220, 1, none⟩) (Kd.S_far (p := ⟨gb220, 0, none⟩) (Kd.S_types HO217.out BK220.out (by decide)) (fun _ hk => hk.2) (.slice Ao48 t215.length co48)) (fun _ hk => hk.2) (.int .i64 t218)) (fun _ hk => hk.2) (.bool t219)) (fun _ h_ => h_.1))) (Kd.S_base ho0) hb); replace BK200 := mA (blk_below (g := gb200) (o := .cells #[.slice A0_0 l0_0.length c0_0, .int .i64 a0_1, .bool a0_2] 35 (0, 0)) (by (with_reducible repeat (first | refine blk_drewN ?_ _ | refine blk_drew ?_ | refine blk_alloc ?_ _)); refine blk_far ?_ NB200_220.out _; (with_reducible repeat (first | refine blk_drewN ?_ _ | refine blk_drew ?_ | refine blk_alloc ?_ _)); refine blk_far ?_ NB200_220.out _; (with_reducible repeat (first | refine blk_drewN ?_ _ | refine blk_drew ?_ | refine blk_alloc ?_ _)); refine blk_far ?_ NB200_220.out _; (with_reducible repeat (first | refine blk_drewN ?_ _ | refine blk_drew ?_ | refine blk_alloc ?_ _)); exact BK200.out) hb); replace BK201 := mA (blk_below (g := gb201) (o := .cells #[.slice A1_0 l1_0.length c1_0, .int .i64 a1_1, .bool a1_2] 35 (0, 0)) (by (with_reducible repeat (first | refine blk_drewN ?_ _ | refine blk_drew ?_ | refine blk_alloc ?_ _)); refine blk_far ?_ NB201_220.out _; (with_reducible repeat (first | refine blk_drewN ?_ _ | refine blk_drew ?_ | refine blk_alloc ?_ _)); refine blk_far ?_ NB201_220.out _; (with_reducible repeat (first | refine blk_drewN ?_ _ | refine blk_drew ?_ | refine blk_alloc ?_ _)); refine blk_far ?_ NB201_220.out _; (with_reducible repeat (first | refine blk_drewN ?_ _ | refine blk_drew ?_ | refine blk_alloc ?_ _)); exact BK201.out) hb); replace BK220 := mA (blk_below (g := gb220) (o := .cells #[.slice Ao48 t215.length co48, .int .i64 t218, .bool t219] 40 (0, 0)) (by (with_reducible repeat (first | refine blk_drewN ?_ _ | refine blk_drew ?_ | refine blk_alloc ?_ _)); refine blk_put (cs := #[.slice Ao48 t215.length co48, .int .i64 t218, .bool false]) ?_ 2 _ rfl; (with_reducible repeat (first | refine blk_drewN ?_ _ | refine blk_drew ?_ | refine blk_alloc ?_ _)); refine blk_put (cs := #[.slice Ao48 t215.length co48, .int .i64 0, .bool false]) ?_ 1 _ rfl; (with_reducible repeat (first | refine blk_drewN ?_ _ | refine blk_drew ?_ | refine blk_alloc ?_ _)); refine blk_put (cs := #[.slice none 0 0, .int .i64 0, .bool false]) ?_ 0 _ rfl; (with_reducible repeat (first | refine blk_drewN ?_ _ | refine blk_drew ?_ | refine blk_alloc ?_ _)); exact BK220.out) hb); replace HB := mA (below_step (bT3 HB GE200 GE201 GE220) hb); (try clear hb); (try clear hk); (try clear ho0)) | ((with_reducible refine gate_dst (N := 8) rfl ?_); refine boxT 8 #[.slice none 0 0, .int .i64 0, .bool false] 40 ?_; intro gb226 hg w54 hbox hb; replace HO206 := rBS HO206 hb; replace HO211 := rBS HO211 hb; replace HO217 := rBS HO217 hb; replace HO223 := rBS HO223 hb; have BK226 := mA (hbox); have GW226 := mA ((by rw [hg]; exact (below_size (bT3 HB GE200 GE201 GE220)) : w.heap.size ≤ gb226)); have GE226 := GW226; replace HB := mA (below_step (bT3 HB GE200 GE201 GE220) hb); have NB200_226 : Aside0 (gb200 ≠ gb226) := nL BK200 hg; have NB226_200 : Aside0 (gb226 ≠ gb200) := nG BK200 hg; replace BK200 := kB BK200 hb; have NB201_226 : Aside0 (gb201 ≠ gb226) := nL BK201 hg; have NB226_201 : Aside0 (gb226 ≠ gb201) := nG BK201 hg; replace BK201 := kB BK201 hb; have NB220_226 : Aside0 (gb220 ≠ gb226) := nL BK220 hg; have NB226_220 : Aside0 (gb226 ≠ gb220) := nG BK220 hg; replace BK220 := kB BK220 hb; clear hb hbox hg; obtain ⟨Ao55, co55, eo55⟩ := Kd.S_slice HO223.out; subst eo55; have hnb56 := NB226_200.out; have hnc56 := NB200_226.out; have hnb57 := NB226_201.out; have hnc57 := NB201_226.out; have hnb58 := NB226_220.out; have hnc58 := NB220_226.out; obtain ⟨hcz59_0, hcz59_1, hcz59_2, hfz59_0, hfz59_1, hfz59_2⟩ := blk3 BK226.out; obtain ⟨hcz60_0, hcz60_1, hcz60_2, hfz60_0, hfz60_1, hfz60_2⟩ := blk3 BK220.out) | ((with_reducible refine gate_callee (f := 23) rfl ?_); refine goesT (some 31) Try.func23 #[.agg #[.slice Ao48 t215.length co48, .int .i64 t218, .bool t219], .agg #[.slice Ao55 t221.length co55, .int .i64 t224, .bool t225]] ?_; (with_reducible refine (impl_EqualAggregators.calls k _ _ t215 t218 t219 _ _ t221 t224 t225 t227 _ ?side1 ?side2 ?side3 ?side4 A24.out).mono ?_); (case side1 => refine (Kd.S_reads' (e := 80) (base := w.heap.size) (ok := fun k_ => (((True ∧ some k_ ≠ (.slice Ao42 t204.length co42 : Value).ownBlock) ∧ some k_ ≠ (.slice Ao43 t209.length co43 : Value).ownBlock) ∧ some k_ ≠ (.slice Ao55 t221.length co55 : Value).ownBlock)) (n := t215.length) (c := co48) ?_).2.2; exact (by (with_reducible repeat (first | apply Kd.S_alloc | apply Kd.S_drewN | apply Kd.S_drew)); exact (Kd.S_mono (Kd.S_far (p := ⟨gb226, 2, none⟩) (Kd.S_far (p := ⟨gb226, 1, none⟩) (Kd.S_far (p := ⟨gb226, 0, none⟩) (Kd.S_types HO217.out BK226.out (by decide)) (fun _ hk => hk.2) (.slice Ao55 t221.length co55)) (fun _ hk => hk.2) (.int .i64 t224)) (fun _ hk => hk.2) (.bool t225)) (fun _ h_ => h_.1)))); (case side2 => exact (Kd.S_reads' HO217.out).2.1); (case side3 => refine (Kd.S_reads' (e := 80) (base := w.heap.size) (ok := fun k_ => (((True ∧ some k_ ≠ (.slice Ao42 t204.length co42 : Value).ownBlock) ∧ some k_ ≠ (.slice Ao43 t209.length co43 : Value).ownBlock) ∧ some k_ ≠ (.slice Ao48 t215.length co48 : Value).ownBlock)) (n := t221.length) (c := co55) ?_).2.2; exact (by (with_reducible repeat (first | apply Kd.S_alloc | apply Kd.S_drewN | apply Kd.S_drew)); exact (Kd.S_mono (Kd.S_far (p := ⟨gb226, 2, none⟩) (Kd.S_far (p := ⟨gb226, 1, none⟩) (Kd.S_far (p := ⟨gb226, 0, none⟩) (Kd.S_types HO223.out BK226.out (by decide)) (fun _ hk => hk.2) (.slice Ao55 t221.length co55)) (fun _ hk => hk.2) (.int .i64 t224)) (fun _ hk => hk.2) (.bool t225)) (fun _ h_ => h_.1)))); (case side4 => exact (Kd.S_reads' HO223.out).2.1); rintro e w61 ⟨rfl, hb⟩; refine ⟨_, rfl, ?_⟩; replace HO206 := mA (Kd.S_below (by (with_reducible repeat (first | apply Kd.S_alloc | apply Kd.S_drewN | apply Kd.S_drew)); exact (Kd.S_mono (Kd.S_far (p := ⟨gb226, 2, none⟩) (Kd.S_far (p := ⟨gb226, 1, none⟩) (Kd.S_far (p := ⟨gb226, 0, none⟩) (Kd.S_types HO206.out BK226.out (by decide)) (fun _ hk => hk.2) (.slice Ao55 t221.length co55)) (fun _ hk => hk.2) (.int .i64 t224)) (fun _ hk => hk.2) (.bool t225)) (fun _ h_ => h_.1))) hb); replace HO211 := mA (Kd.S_below (by (with_reducible repeat (first | apply Kd.S_alloc | apply Kd.S_drewN | apply Kd.S_drew)); exact (Kd.S_mono (Kd.S_far (p := ⟨gb226, 2, none⟩) (Kd.S_far (p := ⟨gb226, 1, none⟩) (Kd.S_far (p := ⟨gb226, 0, none⟩) (Kd.S_types HO211.out BK226.out (by decide)) (fun _ hk => hk.2) (.slice Ao55 t221.length co55)) (fun _ hk => hk.2) (.int .i64 t224)) (fun _ hk => hk.2) (.bool t225)) (fun _ h_ => h_.1))) hb); replace HO217 := mA (Kd.S_below (by (with_reducible repeat (first | apply Kd.S_alloc | apply Kd.S_drewN | apply Kd.S_drew)); exact (Kd.S_mono (Kd.S_far (p := ⟨gb226, 2, none⟩) (Kd.S_far (p := ⟨gb226, 1, none⟩) (Kd.S_far (p := ⟨gb226, 0, none⟩) (Kd.S_types HO217.out BK226.out (by decide)) (fun _ hk => hk.2) (.slice Ao55 t221.length co55)) (fun _ hk => hk.2) (.int .i64 t224)) (fun _ hk => hk.2) (.bool t225)) (fun _ h_ => h_.1))) hb); replace HO223 := mA (Kd.S_below (by (with_reducible repeat (first | apply Kd.S_alloc | apply Kd.S_drewN | apply Kd.S_drew)); exact (Kd.S_mono (Kd.S_far (p := ⟨gb226, 2, none⟩) (Kd.S_far (p := ⟨gb226, 1, none⟩) (Kd.S_far (p := ⟨gb226, 0, none⟩) (Kd.S_types HO223.out BK226.out (by decide)) (fun _ hk => hk.2) (.slice Ao55 t221.length co55)) (fun _ hk => hk.2) (.int .i64 t224)) (fun _ hk => hk.2) (.bool t225)) (fun _ h_ => h_.1))) hb); replace BK200 := mA (blk_below (g := gb200) (o := .cells #[.slice A0_0 l0_0.length c0_0, .int .i64 a0_1, .bool a0_2] 35 (0, 0)) (by (with_reducible repeat (first | refine blk_drewN ?_ _ | refine blk_drew ?_ | refine blk_alloc ?_ _)); refine blk_far ?_ NB200_226.out _; (with_reducible repeat (first | refine blk_drewN ?_ _ | refine blk_drew ?_ | refine blk_alloc ?_ _)); refine blk_far ?_ NB200_226.out _; (with_reducible repeat (first | refine blk_drewN ?_ _ | refine blk_drew ?_ | refine blk_alloc ?_ _)); refine blk_far ?_ NB200_226.out _; (with_reducible repeat (first | refine blk_drewN ?_ _ | refine blk_drew ?_ | refine blk_alloc ?_ _)); exact BK200.out) hb); replace BK201 := mA (blk_below (g := gb201) (o := .cells #[.slice A1_0 l1_0.length c1_0, .int .i64 a1_1, .bool a1_2] 35 (0, 0)) (by (with_reducible repeat (first | refine blk_drewN ?_ _ | refine blk_drew ?_ | refine blk_alloc ?_ _)); refine blk_far ?_ NB201_226.out _; (with_reducible repeat (first | refine blk_drewN ?_ _ | refine blk_drew ?_ | refine blk_alloc ?_ _)); refine blk_far ?_ NB201_226.out _; (with_reducible repeat (first | refine blk_drewN ?_ _ | refine blk_drew ?_ | refine blk_alloc ?_ _)); refine blk_far ?_ NB201_226.out _; (with_reducible repeat (first | refine blk_drewN ?_ _ | refine blk_drew ?_ | refine blk_alloc ?_ _)); exact BK201.out) hb); replace BK220 := mA (blk_below (g := gb220) (o := .cells #[.slice Ao48 t215.length co48, .int .i64 t218, .bool t219] 40 (0, 0)) (by (with_reducible repeat (first | refine blk_drewN ?_ _ | refine blk_drew ?_ | refine blk_alloc ?_ _)); refine blk_far ?_ NB220_226.out _; (with_reducible repeat (first | refine blk_drewN ?_ _ | refine blk_drew ?_ | refine blk_alloc ?_ _)); refine blk_far ?_ NB220_226.out _; (with_reducible repeat (first | refine blk_drewN ?_ _ | refine blk_drew ?_ | refine blk_alloc ?_ _)); refine blk_far ?_ NB220_226.out _; (with_reducible repeat (first | refine blk_drewN ?_ _ | refine blk_drew ?_ | refine blk_alloc ?_ _)); exact BK220.out) hb); replace BK226 := mA (blk_below (g := gb226) (o := .cells #[.slice Ao55 t221.length co55, .int .i64 t224, .bool t225] 40 (0, 0)) (by (with_reducible repeat (first | refine blk_drewN ?_ _ | refine blk_drew ?_ | refine blk_alloc ?_ _)); refine blk_put (cs := #[.slice Ao55 t221.length co55, .int .i64 t224, .bool false]) ?_ 2 _ rfl; (with_reducible repeat (first | refine blk_drewN ?_ _ | refine blk_drew ?_ | refine blk_alloc ?_ _)); refine blk_put (cs := #[.slice Ao55 t221.length co55, .int .i64 0, .bool false]) ?_ 1 _ rfl; (with_reducible repeat (first | refine blk_drewN ?_ _ | refine blk_drew ?_ | refine blk_alloc ?_ _)); refine blk_put (cs := #[.slice none 0 0, .int .i64 0, .bool false]) ?_ 0 _ rfl; (with_reducible repeat (first | refine blk_drewN ?_ _ | refine blk_drew ?_ | refine blk_alloc ?_ _)); exact BK226.out) hb); replace HB := mA (below_step (bT4 HB GE200 GE201 GE220 GE226) hb); (try clear hb); (try clear hk)))
      replace HO206 := mA (Kd.S_drew HO206.out)
      replace HO211 := mA (Kd.S_drew HO211.out)
      replace HO217 := mA (Kd.S_drew HO217.out)
      replace HO223 := mA (Kd.S_drew HO223.out)
      replace BK200 := mA (blk_drew BK200.out)
      replace BK201 := mA (blk_drew BK201.out)
      replace BK220 := mA (blk_drew BK220.out)
      replace BK226 := mA (blk_drew BK226.out)
      replace HB := mA (below_drew1 HB.out)
      refine start_ (n := 5) (S := fun w' => w'.cell? ⟨gb220, 0, none⟩ = some (.slice Ao48 t215.length co48) ∧ w'.cell? ⟨gb220, 1, none⟩ = some (.int .i64 t218) ∧ w'.cell? ⟨gb220, 2, none⟩ = some (.bool t219) ∧ w'.cell? ⟨gb200, 0, none⟩ = some (.slice A0_0 l0_0.length c0_0) ∧ w'.cell? ⟨gb200, 1, none⟩ = some (.int .i64 a0_1) ∧ w'.cell? ⟨gb200, 2, none⟩ = some (.bool a0_2)) (ds := []) #[false, false, false, false, false] (by kernel_rfl) rfl rfl ⟨(blk_cell BK220.out 0).trans rfl, (blk_cell BK220.out 1).trans rfl, (blk_cell BK220.out 2).trans rfl, (blk_cell BK200.out 0).trans rfl, (blk_cell BK200.out 1).trans rfl, (blk_cell BK200.out 2).trans rfl⟩ (fun hHeld => ?_)
      generalize w61.drew = w62 at HO206 HO211 HO217 HO223 BK200 BK201 BK220 BK226 HB hHeld ⊢
      refine take_ (i := 0) (N := some 35) (v := ?_) (a' := ?_) #[true, false, false, false, false] rfl rfl (by kernel_rfl) (fun _ _ _ h => h) (Or.inl ⟨by rfl, ?_⟩) hHeld ?_ ?_
      rotate_left
      ·
       rintro w' ⟨s0, s1, s2, s3, s4, s5⟩
       go_simp
       with_reducible rfl
      rotate_left
      ·
       simp only [Act.put, List.setIfInBounds_toArray, List.set_cons_zero, List.set_cons_succ, i64_w, i32_w]
       rfl
      refine take_ (i := 1) (N := some 36) (v := ?_) (a' := ?_) #[true, true, false, false, false] rfl rfl (by kernel_rfl) (fun _ _ _ h => h) (Or.inl ⟨by rfl, ?_⟩) hHeld ?_ ?_
      rotate_left
      ·
       rintro w' ⟨s0, s1, s2, s3, s4, s5⟩
       go_simp
       with_reducible rfl
      rotate_left
      ·
       simp only [Act.put, List.setIfInBounds_toArray, List.set_cons_zero, List.set_cons_succ, i64_w, i32_w]
       rfl
      refine one_ (i := 2) (N := some 37) #[true, true, true, false, false] rfl rfl (by kernel_rfl) (by decide) (fun K hK => ?_)
      refine goes_ Try.func22 (by kernel_rfl) rfl #[.agg #[.slice A0_0 l0_0.length c0_0, .int .i64 a0_1, .bool a0_2]] (by rfl) rfl rfl mT ?_
      with_reducible refine (laws_toAggregator.calls k _ _ l0_0 a0_1 a0_2 t228 t231 t232 _ ?side1 ?side2 A26.out).mono ?_
      (case side1 => exact cT (Kd.C_below HR0_0.out HB.out))
      (case side2 => exact HC0_0.out)
      rintro e w63 ⟨v229, rfl, ho0, hb⟩
      refine ⟨_, rfl, ?_⟩
      have HO230 := mA (Kd.S_lower (Kd.S_new' (Kd.S_new' (Kd.S_new' (Kd.S_new' ho0 (Kd.S_lt (rTS HO206))) (Kd.S_lt (rTS HO211))) (Kd.S_lt (rTS HO217))) (Kd.S_lt (rTS HO223))) (below_size (bT4 HB GE200 GE201 GE220 GE226)))
      replace HO206 := mA (Kd.S_elder' (rTS HO206) (Kd.S_base ho0) hb)
      replace HO211 := mA (Kd.S_elder' (rTS HO211) (Kd.S_base ho0) hb)
      replace HO217 := mA (Kd.S_elder' (rTS HO217) (Kd.S_base ho0) hb)
      replace HO223 := mA (Kd.S_elder' (rTS HO223) (Kd.S_base ho0) hb)
      replace BK200 := kB BK200 hb
      replace BK201 := kB BK201 hb
      replace BK220 := kB BK220 hb
      replace BK226 := kB BK226 hb
      replace HB := mA (below_step (bT4 HB GE200 GE201 GE220 GE226) hb)
      (try clear hb)
      (try clear hb2)
      (try clear hk)
      (try clear hi)
      (try clear ho0)
      obtain ⟨Ao64, co64, eo64⟩ := Kd.S_slice HO230.out
      (first | subst eo64 | (injection eo64 with f1_ f2_ f3_; have f4_ := f1_.symm; have f5_ := f3_.symm; clear f1_ f2_ f3_; subst f4_; subst f5_))
      refine hK.out _ _ ⟨(blk_cell BK220.out 0).trans rfl, (blk_cell BK220.out 1).trans rfl, (blk_cell BK220.out 2).trans rfl, (blk_cell BK200.out 0).trans rfl, (blk_cell BK200.out 1).trans rfl, (blk_cell BK200.out 2).trans rfl⟩ (fun hHeld => ?_)
      clear hK K
      refine norm_ (a' := ?_) ?_ ?_
      rotate_left
      ·
       show Act.put _ (some 37) _ = _
       simp only [Act.put, List.setIfInBounds_toArray, List.set_cons_zero, List.set_cons_succ, i64_w, i32_w]
       rfl
      refine one_ (i := 3) (N := some 38) #[true, true, true, true, false] rfl rfl (by kernel_rfl) (by decide) (fun K hK => ?_)
      refine goes_ Try.func24 (by kernel_rfl) rfl #[.agg #[.slice Ao48 t215.length co48, .int .i64 t218, .bool t219], .agg #[.slice Ao64 t228.length co64, .int .i64 t231, .bool t232]] (by rfl) rfl rfl mT ?_
      with_reducible refine (laws_eqAggregator.calls k _ _ t215 t218 t219 _ _ t228 t231 t232 true _ ?side1 ?side2 ?side3 ?side4 A27.out).mono ?_
      (case side1 => exact cT ((Kd.S_reads' HO217.out).2.2))
      (case side2 => exact (Kd.S_reads' HO217.out).2.1)
      (case side3 => exact cT ((Kd.S_reads' HO230.out).2.2))
      (case side4 => exact (Kd.S_reads' HO230.out).2.1)
      rintro e w65 ⟨rfl, hb⟩
      refine ⟨_, rfl, ?_⟩
      replace HO206 := rBS HO206 hb
      replace HO211 := rBS HO211 hb
      replace HO217 := rBS HO217 hb
      replace HO223 := rBS HO223 hb
      replace HO230 := rBS HO230 hb
      replace BK200 := kB BK200 hb
      replace BK201 := kB BK201 hb
      replace BK220 := kB BK220 hb
      replace BK226 := kB BK226 hb
      replace HB := mA (below_step (bT4 HB GE200 GE201 GE220 GE226) hb)
      (try clear hb)
      (try clear hb2)
      (try clear hk)
      (try clear hi)
      refine hK.out _ _ ⟨(blk_cell BK220.out 0).trans rfl, (blk_cell BK220.out 1).trans rfl, (blk_cell BK220.out 2).trans rfl, (blk_cell BK200.out 0).trans rfl, (blk_cell BK200.out 1).trans rfl, (blk_cell BK200.out 2).trans rfl⟩ (fun hHeld => ?_)
      clear hK K
      refine norm_ (a' := ?_) ?_ ?_
      rotate_left
      ·
       show Act.put _ (some 38) _ = _
       simp only [Act.put, List.setIfInBounds_toArray, List.set_cons_zero, List.set_cons_succ, i64_w, i32_w]
       rfl
      refine pureT (i := 4) (N := some 39) #[true, true, true, true, true] (by kernel_rfl) ?_
      refine done_ (by kernel_rfl) ?_
      try go_wp2
      replace HO206 := mA (Kd.S_drew HO206.out)
      replace HO211 := mA (Kd.S_drew HO211.out)
      replace HO217 := mA (Kd.S_drew HO217.out)
      replace HO223 := mA (Kd.S_drew HO223.out)
      replace HO230 := mA (Kd.S_drew HO230.out)
      replace BK201 := mA (blk_drew BK201.out)
      replace BK226 := mA (blk_drew BK226.out)
      replace HB := mA (below_drew1 HB.out)
      refine start_ (n := 5) (S := fun w' => w'.cell? ⟨gb226, 0, none⟩ = some (.slice Ao55 t221.length co55) ∧ w'.cell? ⟨gb226, 1, none⟩ = some (.int .i64 t224) ∧ w'.cell? ⟨gb226, 2, none⟩ = some (.bool t225) ∧ w'.cell? ⟨gb201, 0, none⟩ = some (.slice A1_0 l1_0.length c1_0) ∧ w'.cell? ⟨gb201, 1, none⟩ = some (.int .i64 a1_1) ∧ w'.cell? ⟨gb201, 2, none⟩ = some (.bool a1_2)) (ds := []) #[false, false, false, false, false] (by kernel_rfl) rfl rfl ⟨(blk_cell BK226.out 0).trans rfl, (blk_cell BK226.out 1).trans rfl, (blk_cell BK226.out 2).trans rfl, (blk_cell BK201.out 0).trans rfl, (blk_cell BK201.out 1).trans rfl, (blk_cell BK201.out 2).trans rfl⟩ (fun hHeld => ?_)
      generalize w65.drew = w66 at HO206 HO211 HO217 HO223 HO230 BK201 BK226 HB hHeld ⊢
      refine take_ (i := 0) (N := some 40) (v := ?_) (a' := ?_) #[true, false, false, false, false] rfl rfl (by kernel_rfl) (fun _ _ _ h => h) (Or.inl ⟨by rfl, ?_⟩) hHeld ?_ ?_
      rotate_left
      ·
       rintro w' ⟨s0, s1, s2, s3, s4, s5⟩
       go_simp
       with_reducible rfl
      rotate_left
      ·
       simp only [Act.put, List.setIfInBounds_toArray, List.set_cons_zero, List.set_cons_succ, i64_w, i32_w]
       rfl
      refine take_ (i := 1) (N := some 41) (v := ?_) (a' := ?_) #[true, true, false, false, false] rfl rfl (by kernel_rfl) (fun _ _ _ h => h) (Or.inl ⟨by rfl, ?_⟩) hHeld ?_ ?_
      rotate_left
      ·
       rintro w' ⟨s0, s1, s2, s3, s4, s5⟩
       go_simp
       with_reducible rfl
      rotate_left
      ·
       simp only [Act.put, List.setIfInBounds_toArray, List.set_cons_zero, List.set_cons_succ, i64_w, i32_w]
       rfl
      refine one_ (i := 2) (N := some 42) #[true, true, true, false, false] rfl rfl (by kernel_rfl) (by decide) (fun K hK => ?_)
      refine goes_ Try.func22 (by kernel_rfl) rfl #[.agg #[.slice A1_0 l1_0.length c1_0, .int .i64 a1_1, .bool a1_2]] (by rfl) rfl rfl mT ?_
      with_reducible refine (laws_toAggregator.calls k _ _ l1_0 a1_1 a1_2 t234 t237 t238 _ ?side1 ?side2 A29.out).mono ?_
      (case side1 => exact cT (Kd.C_below HR1_0.out HB.out))
      (case side2 => exact HC1_0.out)
      rintro e w67 ⟨v235, rfl, ho0, hb⟩
      refine ⟨_, rfl, ?_⟩
      have HO236 := mA (Kd.S_lower (Kd.S_new' (Kd.S_new' (Kd.S_new' (Kd.S_new' (Kd.S_new' ho0 (Kd.S_lt (rTS HO206))) (Kd.S_lt (rTS HO211))) (Kd.S_lt (rTS HO217))) (Kd.S_lt (rTS HO223))) (Kd.S_lt (rTS HO230))) (below_size (bT4 HB GE200 GE201 GE220 GE226)))
      replace HO223 := mA (Kd.S_elder' (rTS HO223) (Kd.S_base ho0) hb)
      replace BK201 := kB BK201 hb
      replace BK226 := kB BK226 hb
      replace HB := mA (below_step (bT4 HB GE200 GE201 GE220 GE226) hb)
      (try clear hb)
      (try clear hb2)
      (try clear hk)
      (try clear hi)
      (try clear ho0)
      obtain ⟨Ao68, co68, eo68⟩ := Kd.S_slice HO236.out
      (first | subst eo68 | (injection eo68 with f1_ f2_ f3_; have f4_ := f1_.symm; have f5_ := f3_.symm; clear f1_ f2_ f3_; subst f4_; subst f5_))
      refine hK.out _ _ ⟨(blk_cell BK226.out 0).trans rfl, (blk_cell BK226.out 1).trans rfl, (blk_cell BK226.out 2).trans rfl, (blk_cell BK201.out 0).trans rfl, (blk_cell BK201.out 1).trans rfl, (blk_cell BK201.out 2).trans rfl⟩ (fun hHeld => ?_)
      clear hK K
      refine norm_ (a' := ?_) ?_ ?_
      rotate_left
      ·
       show Act.put _ (some 42) _ = _
       simp only [Act.put, List.setIfInBounds_toArray, List.set_cons_zero, List.set_cons_succ, i64_w, i32_w]
       rfl
      refine one_ (i := 3) (N := some 43) #[true, true, true, true, false] rfl rfl (by kernel_rfl) (by decide) (fun K hK => ?_)
      refine goes_ Try.func24 (by kernel_rfl) rfl #[.agg #[.slice Ao55 t221.length co55, .int .i64 t224, .bool t225], .agg #[.slice Ao68 t234.length co68, .int .i64 t237, .bool t238]] (by rfl) rfl rfl mT ?_
      with_reducible refine (laws_eqAggregator.calls k _ _ t221 t224 t225 _ _ t234 t237 t238 true _ ?side1 ?side2 ?side3 ?side4 A30.out).mono ?_
      (case side1 => exact cT ((Kd.S_reads' HO223.out).2.2))
      (case side2 => exact (Kd.S_reads' HO223.out).2.1)
      (case side3 => exact cT ((Kd.S_reads' HO236.out).2.2))
      (case side4 => exact (Kd.S_reads' HO236.out).2.1)
      rintro e w69 ⟨rfl, hb⟩
      refine ⟨_, rfl, ?_⟩
      replace BK201 := kB BK201 hb
      replace BK226 := kB BK226 hb
      replace HB := mA (below_step (bT4 HB GE200 GE201 GE220 GE226) hb)
      (try clear hb)
      (try clear hb2)
      (try clear hk)
      (try clear hi)
      refine hK.out _ _ ⟨(blk_cell BK226.out 0).trans rfl, (blk_cell BK226.out 1).trans rfl, (blk_cell BK226.out 2).trans rfl, (blk_cell BK201.out 0).trans rfl, (blk_cell BK201.out 1).trans rfl, (blk_cell BK201.out 2).trans rfl⟩ (fun hHeld => ?_)
      clear hK K
      refine norm_ (a' := ?_) ?_ ?_
      rotate_left
      ·
       show Act.put _ (some 43) _ = _
       simp only [Act.put, List.setIfInBounds_toArray, List.set_cons_zero, List.set_cons_succ, i64_w, i32_w]
       rfl
      refine pureT (i := 4) (N := some 44) #[true, true, true, true, true] (by kernel_rfl) ?_
      refine done_ (by kernel_rfl) ?_
      try go_wp2
      go_ret
      exact ⟨eT, bT4 HB GE200 GE201 GE220 GE226⟩
     ·
      replace c31 := Bool.eq_false_iff.mpr c31
      subst c31
      rw [if_neg (show ¬ (false = true) by decide)] at H
      exact absurd ((Option.some.inj H).trans HT.out) (by simp)
    ·
     replace c28 := Bool.eq_false_iff.mpr c28
     subst c28
     rw [if_neg (show ¬ (false = true) by decide)] at H
     exact absurd ((Option.some.inj H).trans HT.out) (by simp)

end Go.Proofs.Ytoncjohnkiilcaa.P
