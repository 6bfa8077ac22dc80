/- Written by tools/seatprint.py over the translation. Lean checks it. -/
import Derived.Test.YthciieopabndcaaP0
namespace Go.Proofs.Ythciieopabndcaa.P
open Go.RowKit Go.Proofs.YthciieopabndcaaW.PrintWords Go.Proofs.YthciieopabndcaaW.PrintLast Go.Proofs.YthciieopabndcaaW.PrintMore
attribute [local go_sem] max2_int min2_int max_two min_two max_three min_three max_four min_four
set_option linter.unusedVariables false
set_option linter.unusedSimpArgs false

/-! ### spec_AllSameKey: function 58 -/
def spec_AllSameKey.l0 : Nat → List (S62) → Int → Option (Bool)
 | 0, _, _ => none
 | k + 1, x0, x3 => if x3 < (x0.length : Int) then (if 0 ≤ x3 then (if 0 < (x0.length : Int) then (if ((rd_T62 x0 x3).f0) = ((rd_T62 x0 0).f0) then (spec_AllSameKey.l0 k x0 (wrap64 (x3 + 1))) else (some false)) else (none)) else (none)) else (some true)
def spec_AllSameKey.f (k : Nat) (l0 : List (S62)) : Option (Bool) := spec_AllSameKey.l0 k l0 1
theorem spec_AllSameKey.mono_l : ∀ k, (∀ y0 y1, LeO (spec_AllSameKey.l0 k y0 y1) (spec_AllSameKey.l0 (k + 1) y0 y1))
 | 0 => fun _ _ r h => by simp [spec_AllSameKey.l0] at h
 | k + 1 => by
  have ih0 := spec_AllSameKey.mono_l k
  ·
   intro y0 y1
   unfold spec_AllSameKey.l0
   repeat' first
   | (with_reducible exact ih0 _ _)
   | (with_reducible exact LeO.refl _)
   | (with_reducible exact LeO.none _)
   | (with_reducible refine LeO.ite ?_ ?_)
   | (with_reducible refine LeO.bind ?_ (fun _ => ?_))
   | exact ih0 _ _
   | exact LeO.none _
   | refine LeO.ite ?_ ?_
   | refine LeO.bind ?_ (fun _ => ?_)
theorem spec_AllSameKey.mono : ∀ a0 k, LeO (spec_AllSameKey.f k a0) (spec_AllSameKey.f (k + 1) a0) := by
 intro a0 k
 have ih0 := spec_AllSameKey.mono_l k
 unfold spec_AllSameKey.f
 repeat' first
   | (with_reducible exact ih0 _ _)
   | (with_reducible exact LeO.refl _)
   | (with_reducible exact LeO.none _)
   | (with_reducible refine LeO.ite ?_ ?_)
   | (with_reducible refine LeO.bind ?_ (fun _ => ?_))
   | exact ih0 _ _
   | exact LeO.none _
   | refine LeO.ite ?_ ?_
   | refine LeO.bind ?_ (fun _ => ?_)
set_option maxHeartbeats 8000000 in
set_option maxRecDepth 100000 in
theorem spec_AllSameKey.calls (k : Nat) (A0 : Option Addr) (c0 : Nat) (l0 : List (S62)) (r : Bool) (w : World) (hr0 : Kd.C k62 w A0 l0.length l0) (hc0 : l0.length ≤ c0) (h : spec_AllSameKey.f k l0 = some r) :
  Calls Try.prog 58 #[.slice A0 l0.length c0] w fun e w' => e = .returned (.bool r) ∧ Drawn0 w w' := by
 have HR0 := mA hr0
 have HC0 := mA hc0
 clear hr0 hc0
 have H : (spec_AllSameKey.l0 k l0 1) = some r := h
 clear h
 have H' := mA H
 clear H
 go_enter Try.func58, Try.ntmps58
 go_wp2
 repeat (go_quiet (fail); try go_wp2)
 go_loopg [3] k (fun kq v3 w' => ∃ (x3_1 : Int), v3 = .int .i64 x3_1 ∧ Aside0 (spec_AllSameKey.l0 kq l0 x3_1 = some r) ∧ Aside0 (kq ≤ k) ∧ Drawn0 w w')
 case atStart => exact ⟨(1), sT, H', ⟨Nat.le_refl _⟩, by repeat (first | exact Drawn0.refl _ | apply Drawn0.step)⟩
 case round =>
  clear H'
  obtain ⟨x3_1, rfl, HA, HK1, ⟨m1, rfl⟩⟩ := hrel
  cases gk with
  | zero => exact absurd HA.out (by simp [spec_AllSameKey.l0])
  | succ k1 =>
   have H := HA.out
   clear HA
   simp only [spec_AllSameKey.l0] at H
   by_cases c2 : x3_1 < (l0.length : Int)
   ·
    rw [if_pos c2] at H
    have c2b0 : decide (x3_1 < (l0.length : Int)) = true := decide_eq_true c2
    clear c2
    by_cases c3 : 0 ≤ x3_1
    ·
     rw [if_pos c3] at H
     have c3b0 : decide (0 ≤ x3_1) = true := decide_eq_true c3
     clear c3
     by_cases c4 : 0 < (l0.length : Int)
     ·
      rw [if_pos c4] at H
      have c4b0 : decide (0 < (l0.length : Int)) = true := decide_eq_true c4
      have c4b1 : decide (0 < l0.length) = true := decide_eq_true (by omega)
      clear c4
      by_cases c5 : ((rd_T62 l0 x3_1).f0) = ((rd_T62 l0 0).f0)
      ·
       rw [if_pos c5] at H
       have c5b0 : (((rd_T62 l0 x3_1).f0) == ((rd_T62 l0 0).f0)) = true := beq_iff_eq.mpr c5
       have c5b1 : (((rd_T62 l0 x3_1).f0) != ((rd_T62 l0 0).f0)) = false := bne_eq_false_iff_eq.mpr c5
       clear c5
       have H' := mA H
       clear H
       have p236 : 0 ≤ (x3_1 : Int) := of_decide_eq_true aT
       have q236 : x3_1 < (l0.length : Int) := of_decide_eq_true aT
       obtain ⟨ad236, e236, hx236_0, hx236_1, hx236_2⟩ := at_T62 HR0.out x3_1 p236 q236
       cases e236
       replace p236 := eq_true p236
       replace q236 := eq_true q236
       have p237 : 0 ≤ (0 : Int) := (by omega)
       have q237 : 0 < (l0.length : Int) := of_decide_eq_true aT
       obtain ⟨ad237, e237, hx237_0, hx237_1, hx237_2⟩ := at_T62 HR0.out 0 p237 q237
       obtain rfl : ad236 = ad237 := (by injection e237)
       have qi237 : (0 < l0.length) = True := eq_true (by omega)
       (try rw [show ((0 : Int)).toNat = 0 from rfl] at hx237_0)
       (try rw [show 0 * 3 = 0 from rfl] at hx237_0)
       (try rw [Addr.add_zero'] at hx237_0)
       (try rw [show ((0 : Int)).toNat = 0 from rfl] at hx237_1)
       (try rw [show 0 * 3 = 0 from rfl] at hx237_1)
       (try rw [Addr.add_zero'] at hx237_1)
       (try rw [show ((0 : Int)).toNat = 0 from rfl] at hx237_2)
       (try rw [show 0 * 3 = 0 from rfl] at hx237_2)
       (try rw [Addr.add_zero'] at hx237_2)
       replace p237 := eq_true p237
       replace q237 := eq_true q237
       go_wp2
       repeat (go_quiet (fail); try go_wp2)
       go_roundg k1
       case measure => have := HK1.out; omega
       case rel => exact ⟨(wrap64 (x3_1 + 1)), sT, H', ⟨by have := HK1.out; omega⟩, by repeat (first | exact Drawn0.refl _ | apply Drawn0.step)⟩
      ·
       rw [if_neg c5] at H
       have c5b0 : (((rd_T62 l0 x3_1).f0) == ((rd_T62 l0 0).f0)) = false := beq_eq_false_iff_ne.mpr c5
       have c5b1 : (((rd_T62 l0 x3_1).f0) != ((rd_T62 l0 0).f0)) = true := bne_iff_ne.mpr c5
       obtain rfl := Option.some.inj H
       have p236 : 0 ≤ (x3_1 : Int) := of_decide_eq_true aT
       have q236 : x3_1 < (l0.length : Int) := of_decide_eq_true aT
       obtain ⟨ad236, e236, hx236_0, hx236_1, hx236_2⟩ := at_T62 HR0.out x3_1 p236 q236
       cases e236
       replace p236 := eq_true p236
       replace q236 := eq_true q236
       have p237 : 0 ≤ (0 : Int) := (by omega)
       have q237 : 0 < (l0.length : Int) := of_decide_eq_true aT
       obtain ⟨ad237, e237, hx237_0, hx237_1, hx237_2⟩ := at_T62 HR0.out 0 p237 q237
       obtain rfl : ad236 = ad237 := (by injection e237)
       have qi237 : (0 < l0.length) = True := eq_true (by omega)
       (try rw [show ((0 : Int)).toNat = 0 from rfl] at hx237_0)
       (try rw [show 0 * 3 = 0 from rfl] at hx237_0)
       (try rw [Addr.add_zero'] at hx237_0)
       (try rw [show ((0 : Int)).toNat = 0 from rfl] at hx237_1)
       (try rw [show 0 * 3 = 0 from rfl] at hx237_1)
       (try rw [Addr.add_zero'] at hx237_1)
       (try rw [show ((0 : Int)).toNat = 0 from rfl] at hx237_2)
       (try rw [show 0 * 3 = 0 from rfl] at hx237_2)
       (try rw [Addr.add_zero'] at hx237_2)
       replace p237 := eq_true p237
       replace q237 := eq_true q237
       go_wp2
       repeat (go_quiet (fail); try go_wp2)
       go_ret
       exact ⟨sT, by repeat (first | exact Drawn0.refl _ | apply Drawn0.step)⟩
     ·
      rw [if_neg c4] at H
      exact absurd H (by simp)
    ·
     rw [if_neg c3] at H
     exact absurd H (by simp)
   ·
    rw [if_neg c2] at H
    have c2b0 : decide (x3_1 < (l0.length : Int)) = false := decide_eq_false c2
    clear c2
    obtain rfl := Option.some.inj H
    go_wp2
    repeat (go_quiet (fail); try go_wp2)
    go_ret
    exact ⟨sT, by repeat (first | exact Drawn0.refl _ | apply Drawn0.step)⟩

/-! ### spec_NeedsNestedLoop: function 23 -/
def spec_NeedsNestedLoop.f (k : Nat) (a0_0 : Int) (l0_1 : List (S62)) (l0_2 : List (S62)) (l0_3 : List Bool) (a0_4 : Int) : Option (Bool) := if a0_4 ≥ 4 then (some true) else ((spec_AllSameKey.f k l0_2).bind fun t239 => (some t239))
theorem spec_NeedsNestedLoop.mono : ∀ a0 a1 a2 a3 a4 k, LeO (spec_NeedsNestedLoop.f k a0 a1 a2 a3 a4) (spec_NeedsNestedLoop.f (k + 1) a0 a1 a2 a3 a4) := by
 intro a0 a1 a2 a3 a4 k
 unfold spec_NeedsNestedLoop.f
 repeat' first
   | (with_reducible exact spec_AllSameKey.mono _ _)
   | (with_reducible exact LeO.refl _)
   | (with_reducible exact LeO.none _)
   | (with_reducible refine LeO.ite ?_ ?_)
   | (with_reducible refine LeO.bind ?_ (fun _ => ?_))
   | exact spec_AllSameKey.mono _ _
   | exact LeO.none _
   | refine LeO.ite ?_ ?_
   | refine LeO.bind ?_ (fun _ => ?_)
set_option maxHeartbeats 8000000 in
set_option maxRecDepth 100000 in
theorem spec_NeedsNestedLoop.calls (k : Nat) (a0_0 : Int) (A0_1 : Option Addr) (c0_1 : Nat) (l0_1 : List (S62)) (A0_2 : Option Addr) (c0_2 : Nat) (l0_2 : List (S62)) (A0_3 : Option Addr) (c0_3 : Nat) (l0_3 : List Bool) (a0_4 : Int) (r : Bool) (w : World) (hr0_1 : Kd.C k62 w A0_1 l0_1.length l0_1) (hc0_1 : l0_1.length ≤ c0_1) (hr0_2 : Kd.C k62 w A0_2 l0_2.length l0_2) (hc0_2 : l0_2.length ≤ c0_2) (hr0_3 : Kd.C Kd.bool w A0_3 l0_3.length l0_3) (hc0_3 : l0_3.length ≤ c0_3) (h : spec_NeedsNestedLoop.f k a0_0 l0_1 l0_2 l0_3 a0_4 = some r) :
  Calls Try.prog 23 #[.agg #[.int .i64 a0_0, .slice A0_1 l0_1.length c0_1, .slice A0_2 l0_2.length c0_2, .slice A0_3 l0_3.length c0_3, .int .i64 a0_4]] w fun e w' => e = .returned (.bool r) ∧ Below w.heap.size w w' := by
 have hu37 := Try.underlying37
 have HR0_1 := mA hr0_1
 have HC0_1 := mA hc0_1
 clear hr0_1 hc0_1
 have HR0_2 := mA hr0_2
 have HC0_2 := mA hc0_2
 clear hr0_2 hc0_2
 have HR0_3 := mA hr0_3
 have HC0_3 := mA hc0_3
 clear hr0_3 hc0_3
 have HB := mA (Below.refl w.heap.size w)
 have H : (if a0_4 ≥ 4 then (some true) else ((spec_AllSameKey.f k l0_2).bind fun t239 => (some t239))) = some r := h
 clear h
 by_cases c2 : a0_4 ≥ 4
 ·
  rw [if_pos c2] at H
  have c2b0 : decide (4 ≤ a0_4) = true := decide_eq_true c2
  clear c2
  obtain rfl := Option.some.inj H
  go_enter Try.func23, Try.ntmps23
  go_wp2_with (first | ((with_reducible refine gate_dst (N := 1) rfl ?_); refine boxT 1 #[.int .i64 a0_0, .slice A0_1 l0_1.length c0_1, .slice A0_2 l0_2.length c0_2, .slice A0_3 l0_3.length c0_3, .int .i64 a0_4] 37 ?_; intro gb238 hg w3 hbox hb; have BK238 := mA (hbox); have GW238 := mA ((by rw [hg]; exact (below_size (bT HB)) : w.heap.size ≤ gb238)); have GE238 := GW238; replace HB := mA (below_step (bT HB) hb); clear hb hbox hg; obtain ⟨hcz4_0, hcz4_1, hcz4_2, hcz4_3, hcz4_4, hfz4_0, hfz4_1, hfz4_2, hfz4_3, hfz4_4⟩ := blk5 BK238.out))
  go_ret
  exact ⟨eT, bT1 HB GE238⟩
 ·
  rw [if_neg c2] at H
  have c2b0 : decide (4 ≤ a0_4) = false := decide_eq_false c2
  clear c2
  obtain ⟨t239, A5, H⟩ := Option.bind_eq_some_iff.mp H
  replace A5 := mA A5
  replace H : (some t239) = some r := H
  obtain rfl := Option.some.inj H
  go_enter Try.func23, Try.ntmps23
  go_wp2_with (first | ((with_reducible refine gate_dst (N := 1) rfl ?_); refine boxT 1 #[.int .i64 a0_0, .slice A0_1 l0_1.length c0_1, .slice A0_2 l0_2.length c0_2, .slice A0_3 l0_3.length c0_3, .int .i64 a0_4] 37 ?_; intro gb238 hg w6 hbox hb; have BK238 := mA (hbox); have GW238 := mA ((by rw [hg]; exact (below_size (bT HB)) : w.heap.size ≤ gb238)); have GE238 := GW238; replace HB := mA (below_step (bT HB) hb); clear hb hbox hg; obtain ⟨hcz7_0, hcz7_1, hcz7_2, hcz7_3, hcz7_4, hfz7_0, hfz7_1, hfz7_2, hfz7_3, hfz7_4⟩ := blk5 BK238.out) | (go_at_call 58; (with_reducible refine (spec_AllSameKey.calls k _ _ l0_2 t239 _ ?side1 ?side2 A5.out).mono ?_); (case side1 => exact cT (Kd.C_below HR0_2.out HB.out)); (case side2 => exact HC0_2.out); rintro e w' ⟨rfl, ⟨nd, rfl⟩⟩))
  go_ret
  exact ⟨eT, bT1 HB GE238⟩

/-! ### impl_AllSameKey: function 60 -/
def impl_AllSameKey.l0 : Nat → List (S62) → List (S62) → Int → Int → Option (Bool)
 | 0, _, _, _, _ => none
 | k + 1, x0, x5, x6, x7 => if x7 < x6 then (if 0 ≤ x7 then (if x7 < (x5.length : Int) then (if 0 < (x0.length : Int) then (if ((rd_T62 x5 x7).f0) = ((rd_T62 x0 0).f0) then (impl_AllSameKey.l0 k x0 x5 x6 (wrap64 (x7 + 1))) else (some false)) else (none)) else (none)) else (none)) else (some true)
def impl_AllSameKey.f (k : Nat) (l0 : List (S62)) : Option (Bool) := impl_AllSameKey.l0 k l0 l0 (l0.length : Int) 0
theorem impl_AllSameKey.mono_l : ∀ k, (∀ y0 y1 y2 y3, LeO (impl_AllSameKey.l0 k y0 y1 y2 y3) (impl_AllSameKey.l0 (k + 1) y0 y1 y2 y3))
 | 0 => fun _ _ _ _ r h => by simp [impl_AllSameKey.l0] at h
 | k + 1 => by
  have ih0 := impl_AllSameKey.mono_l k
  ·
   intro y0 y1 y2 y3
   unfold impl_AllSameKey.l0
   repeat' first
   | (with_reducible exact ih0 _ _ _ _)
   | (with_reducible exact LeO.refl _)
   | (with_reducible exact LeO.none _)
   | (with_reducible refine LeO.ite ?_ ?_)
   | (with_reducible refine LeO.bind ?_ (fun _ => ?_))
   | exact ih0 _ _ _ _
   | exact LeO.none _
   | refine LeO.ite ?_ ?_
   | refine LeO.bind ?_ (fun _ => ?_)
theorem impl_AllSameKey.mono : ∀ a0 k, LeO (impl_AllSameKey.f k a0) (impl_AllSameKey.f (k + 1) a0) := by
 intro a0 k
 have ih0 := impl_AllSameKey.mono_l k
 unfold impl_AllSameKey.f
 repeat' first
   | (with_reducible exact ih0 _ _ _ _)
   | (with_reducible exact LeO.refl _)
   | (with_reducible exact LeO.none _)
   | (with_reducible refine LeO.ite ?_ ?_)
   | (with_reducible refine LeO.bind ?_ (fun _ => ?_))
   | exact ih0 _ _ _ _
   | exact LeO.none _
   | refine LeO.ite ?_ ?_
   | refine LeO.bind ?_ (fun _ => ?_)
set_option maxHeartbeats 8000000 in
set_option maxRecDepth 100000 in
theorem impl_AllSameKey.calls (k : Nat) (A0 : Option Addr) (c0 : Nat) (l0 : List (S62)) (r : Bool) (w : World) (hr0 : Kd.C k62 w A0 l0.length l0) (hc0 : l0.length ≤ c0) (h : impl_AllSameKey.f k l0 = some r) :
  Calls Try.prog 60 #[.slice A0 l0.length c0] w fun e w' => e = .returned (.bool r) ∧ Below w.heap.size w w' := by
 have hu62 := Try.underlying62
 have HR0 := mA hr0
 have HC0 := mA hc0
 clear hr0 hc0
 have HB := mA (Below.refl w.heap.size w)
 have H : (impl_AllSameKey.l0 k l0 l0 (l0.length : Int) 0) = some r := h
 clear h
 have H' := mA H
 clear H
 go_enter Try.func60, Try.ntmps60
 go_wp2
 repeat (go_quiet (fail); try go_wp2)
 go_loopg [7] k (fun kq v7 w' => ∃ (x7_1 : Int), v7 = .int .i64 x7_1 ∧ Aside0 (impl_AllSameKey.l0 kq l0 l0 (l0.length : Int) x7_1 = some r) ∧ Aside0 (kq ≤ k) ∧ Aside0 (Below w.heap.size w w'))
 case atStart => exact ⟨(0), sT, H', ⟨Nat.le_refl _⟩, ⟨bT HB⟩⟩
 case round =>
  clear H'
  obtain ⟨x7_1, rfl, HA, HK1, HB⟩ := hrel
  cases gk with
  | zero => exact absurd HA.out (by simp [impl_AllSameKey.l0])
  | succ k1 =>
   have H := HA.out
   clear HA
   simp only [impl_AllSameKey.l0] at H
   by_cases c2 : x7_1 < (l0.length : Int)
   ·
    rw [if_pos c2] at H
    have c2b0 : decide (x7_1 < (l0.length : Int)) = true := decide_eq_true c2
    clear c2
    by_cases c3 : 0 ≤ x7_1
    ·
     rw [if_pos c3] at H
     have c3b0 : decide (0 ≤ x7_1) = true := decide_eq_true c3
     clear c3
     by_cases c4 : x7_1 < (l0.length : Int)
     ·
      rw [if_pos c4] at H
      have c4b0 : decide (x7_1 < (l0.length : Int)) = true := decide_eq_true c4
      clear c4
      by_cases c5 : 0 < (l0.length : Int)
      ·
       rw [if_pos c5] at H
       have c5b0 : decide (0 < (l0.length : Int)) = true := decide_eq_true c5
       have c5b1 : decide (0 < l0.length) = true := decide_eq_true (by omega)
       clear c5
       by_cases c6 : ((rd_T62 l0 x7_1).f0) = ((rd_T62 l0 0).f0)
       ·
        rw [if_pos c6] at H
        have c6b0 : (((rd_T62 l0 x7_1).f0) == ((rd_T62 l0 0).f0)) = true := beq_iff_eq.mpr c6
        have c6b1 : (((rd_T62 l0 x7_1).f0) != ((rd_T62 l0 0).f0)) = false := bne_eq_false_iff_eq.mpr c6
        clear c6
        have H' := mA H
        clear H
        have p257 : 0 ≤ (x7_1 : Int) := of_decide_eq_true aT
        have q257 : x7_1 < (l0.length : Int) := of_decide_eq_true aT
        obtain ⟨ad257, e257, hx257_0, hx257_1, hx257_2⟩ := at_T62 HR0.out x7_1 p257 q257
        cases e257
        replace hx257_0 := (HB.out.cell (World.block_lt_of_cell? w _ hx257_0)).trans hx257_0
        replace hx257_1 := (HB.out.cell (World.block_lt_of_cell? w _ hx257_1)).trans hx257_1
        replace hx257_2 := (HB.out.cell (World.block_lt_of_cell? w _ hx257_2)).trans hx257_2
        replace p257 := eq_true p257
        replace q257 := eq_true q257
        go_wp2_with (first | ((with_reducible refine gate_dst (N := 4) rfl ?_); refine boxT 4 #[.int .i64 0, .int .i64 0, .int .i64 0] 62 ?_; intro gb258 hg w7 hbox hb; have BK258 := mA (hbox); have GW258 := mA ((by rw [hg]; exact (below_size (bT HB)) : w.heap.size ≤ gb258)); have GE258 := GW258; replace HB := mA (below_step (bT HB) hb); clear hb hbox hg; obtain ⟨hcz8_0, hcz8_1, hcz8_2, hfz8_0, hfz8_1, hfz8_2⟩ := blk3 BK258.out; have p259 : 0 ≤ (0 : Int) := (by omega); have q259 : 0 < (l0.length : Int) := of_decide_eq_true aT; obtain ⟨ad259, e259, hx259_0, hx259_1, hx259_2⟩ := at_T62 HR0.out 0 p259 q259; obtain rfl : ad257 = ad259 := (by injection e259); have qi259 : (0 < l0.length) = True := eq_true (by omega); (try rw [show ((0 : Int)).toNat = 0 from rfl] at hx259_0); (try rw [show 0 * 3 = 0 from rfl] at hx259_0); (try rw [Addr.add_zero'] at hx259_0); (try rw [show ((0 : Int)).toNat = 0 from rfl] at hx259_1); (try rw [show 0 * 3 = 0 from rfl] at hx259_1); (try rw [Addr.add_zero'] at hx259_1); (try rw [show ((0 : Int)).toNat = 0 from rfl] at hx259_2); (try rw [show 0 * 3 = 0 from rfl] at hx259_2); (try rw [Addr.add_zero'] at hx259_2); have hn259_0 : ad257.block ≠ gb258 := Nat.ne_of_lt (Nat.lt_of_lt_of_le (by have := World.block_lt_of_cell? _ _ hx259_0; first | rwa [add_block] at this | exact this) GW258.out); have hn259_1 : ad257.block ≠ gb258 := Nat.ne_of_lt (Nat.lt_of_lt_of_le (by have := World.block_lt_of_cell? _ _ hx259_0; first | rwa [add_block] at this | exact this) GW258.out); have hn259_2 : ad257.block ≠ gb258 := Nat.ne_of_lt (Nat.lt_of_lt_of_le (by have := World.block_lt_of_cell? _ _ hx259_0; first | rwa [add_block] at this | exact this) GW258.out); replace hx259_0 := (HB.out.cell (World.block_lt_of_cell? w _ hx259_0)).trans hx259_0; replace hx259_1 := (HB.out.cell (World.block_lt_of_cell? w _ hx259_1)).trans hx259_1; replace hx259_2 := (HB.out.cell (World.block_lt_of_cell? w _ hx259_2)).trans hx259_2; replace hx259_0 := (cell_far (p := ⟨gb258, 0, none⟩) (by first | (rw [add_block]; exact hn259_0) | (show (Addr.add _ _).block ≠ _; rw [add_block]; exact hn259_0) | exact hn259_0) (.int .i64 ((rd_T62 l0 x7_1).f0))).trans hx259_0; replace hx259_1 := (cell_far (p := ⟨gb258, 0, none⟩) (by first | (rw [add_block]; exact hn259_0) | (show (Addr.add _ _).block ≠ _; rw [add_block]; exact hn259_0) | exact hn259_0) (.int .i64 ((rd_T62 l0 x7_1).f0))).trans hx259_1; replace hx259_2 := (cell_far (p := ⟨gb258, 0, none⟩) (by first | (rw [add_block]; exact hn259_0) | (show (Addr.add _ _).block ≠ _; rw [add_block]; exact hn259_0) | exact hn259_0) (.int .i64 ((rd_T62 l0 x7_1).f0))).trans hx259_2; replace hx259_0 := (cell_far (p := ⟨gb258, 1, none⟩) (by first | (rw [add_block]; exact hn259_1) | (show (Addr.add _ _).block ≠ _; rw [add_block]; exact hn259_1) | exact hn259_1) (.int .i64 ((rd_T62 l0 x7_1).f1))).trans hx259_0; replace hx259_1 := (cell_far (p := ⟨gb258, 1, none⟩) (by first | (rw [add_block]; exact hn259_1) | (show (Addr.add _ _).block ≠ _; rw [add_block]; exact hn259_1) | exact hn259_1) (.int .i64 ((rd_T62 l0 x7_1).f1))).trans hx259_1; replace hx259_2 := (cell_far (p := ⟨gb258, 1, none⟩) (by first | (rw [add_block]; exact hn259_1) | (show (Addr.add _ _).block ≠ _; rw [add_block]; exact hn259_1) | exact hn259_1) (.int .i64 ((rd_T62 l0 x7_1).f1))).trans hx259_2; replace hx259_0 := (cell_far (p := ⟨gb258, 2, none⟩) (by first | (rw [add_block]; exact hn259_2) | (show (Addr.add _ _).block ≠ _; rw [add_block]; exact hn259_2) | exact hn259_2) (.int .i64 ((rd_T62 l0 x7_1).f2))).trans hx259_0; replace hx259_1 := (cell_far (p := ⟨gb258, 2, none⟩) (by first | (rw [add_block]; exact hn259_2) | (show (Addr.add _ _).block ≠ _; rw [add_block]; exact hn259_2) | exact hn259_2) (.int .i64 ((rd_T62 l0 x7_1).f2))).trans hx259_1; replace hx259_2 := (cell_far (p := ⟨gb258, 2, none⟩) (by first | (rw [add_block]; exact hn259_2) | (show (Addr.add _ _).block ≠ _; rw [add_block]; exact hn259_2) | exact hn259_2) (.int .i64 ((rd_T62 l0 x7_1).f2))).trans hx259_2; (try have hy259_0 := fun (n_ : Nat) => (show (((((w7.drewN n_).setCell ⟨gb258, 0, none⟩ (.int .i64 ((rd_T62 l0 x7_1).f0))).setCell ⟨gb258, 1, none⟩ (.int .i64 ((rd_T62 l0 x7_1).f1))).setCell ⟨gb258, 2, none⟩ (.int .i64 ((rd_T62 l0 x7_1).f2)))).cell? _ = some _ from hx259_0)); (try have hy259_1 := fun (n_ : Nat) => (show (((((w7.drewN n_).setCell ⟨gb258, 0, none⟩ (.int .i64 ((rd_T62 l0 x7_1).f0))).setCell ⟨gb258, 1, none⟩ (.int .i64 ((rd_T62 l0 x7_1).f1))).setCell ⟨gb258, 2, none⟩ (.int .i64 ((rd_T62 l0 x7_1).f2)))).cell? _ = some _ from hx259_1)); (try have hy259_2 := fun (n_ : Nat) => (show (((((w7.drewN n_).setCell ⟨gb258, 0, none⟩ (.int .i64 ((rd_T62 l0 x7_1).f0))).setCell ⟨gb258, 1, none⟩ (.int .i64 ((rd_T62 l0 x7_1).f1))).setCell ⟨gb258, 2, none⟩ (.int .i64 ((rd_T62 l0 x7_1).f2)))).cell? _ = some _ from hx259_2)); clear hn259_0; clear hn259_1; clear hn259_2; replace p259 := eq_true p259; replace q259 := eq_true q259))
        repeat (go_quiet (first | ((with_reducible refine gate_dst (N := 4) rfl ?_); refine boxT 4 #[.int .i64 0, .int .i64 0, .int .i64 0] 62 ?_; intro gb258 hg w7 hbox hb; have BK258 := mA (hbox); have GW258 := mA ((by rw [hg]; exact (below_size (bT HB)) : w.heap.size ≤ gb258)); have GE258 := GW258; replace HB := mA (below_step (bT HB) hb); clear hb hbox hg; obtain ⟨hcz8_0, hcz8_1, hcz8_2, hfz8_0, hfz8_1, hfz8_2⟩ := blk3 BK258.out; have p259 : 0 ≤ (0 : Int) := (by omega); have q259 : 0 < (l0.length : Int) := of_decide_eq_true aT; obtain ⟨ad259, e259, hx259_0, hx259_1, hx259_2⟩ := at_T62 HR0.out 0 p259 q259; obtain rfl : ad257 = ad259 := (by injection e259); have qi259 : (0 < l0.length) = True := eq_true (by omega); (try rw [show ((0 : Int)).toNat = 0 from rfl] at hx259_0); (try rw [show 0 * 3 = 0 from rfl] at hx259_0); (try rw [Addr.add_zero'] at hx259_0); (try rw [show ((0 : Int)).toNat = 0 from rfl] at hx259_1); (try rw [show 0 * 3 = 0 from rfl] at hx259_1); (try rw [Addr.add_zero'] at hx259_1); (try rw [show ((0 : Int)).toNat = 0 from rfl] at hx259_2); (try rw [show 0 * 3 = 0 from rfl] at hx259_2); (try rw [Addr.add_zero'] at hx259_2); have hn259_0 : ad257.block ≠ gb258 := Nat.ne_of_lt (Nat.lt_of_lt_of_le (by have := World.block_lt_of_cell? _ _ hx259_0; first | rwa [add_block] at this | exact this) GW258.out); have hn259_1 : ad257.block ≠ gb258 := Nat.ne_of_lt (Nat.lt_of_lt_of_le (by have := World.block_lt_of_cell? _ _ hx259_0; first | rwa [add_block] at this | exact this) GW258.out); have hn259_2 : ad257.block ≠ gb258 := Nat.ne_of_lt (Nat.lt_of_lt_of_le (by have := World.block_lt_of_cell? _ _ hx259_0; first | rwa [add_block] at this | exact this) GW258.out); replace hx259_0 := (HB.out.cell (World.block_lt_of_cell? w _ hx259_0)).trans hx259_0; replace hx259_1 := (HB.out.cell (World.block_lt_of_cell? w _ hx259_1)).trans hx259_1; replace hx259_2 := (HB.out.cell (World.block_lt_of_cell? w _ hx259_2)).trans hx259_2; replace hx259_0 := (cell_far (p := ⟨gb258, 0, none⟩) (by first | (rw [add_block]; exact hn259_0) | (show (Addr.add _ _).block ≠ _; rw [add_block]; exact hn259_0) | exact hn259_0) (.int .i64 ((rd_T62 l0 x7_1).f0))).trans hx259_0; replace hx259_1 := (cell_far (p := ⟨gb258, 0, none⟩) (by first | (rw [add_block]; exact hn259_0) | (show (Addr.add _ _).block ≠ _; rw [add_block]; exact hn259_0) | exact hn259_0) (.int .i64 ((rd_T62 l0 x7_1).f0))).trans hx259_1; replace hx259_2 := (cell_far (p := ⟨gb258, 0, none⟩) (by first | (rw [add_block]; exact hn259_0) | (show (Addr.add _ _).block ≠ _; rw [add_block]; exact hn259_0) | exact hn259_0) (.int .i64 ((rd_T62 l0 x7_1).f0))).trans hx259_2; replace hx259_0 := (cell_far (p := ⟨gb258, 1, none⟩) (by first | (rw [add_block]; exact hn259_1) | (show (Addr.add _ _).block ≠ _; rw [add_block]; exact hn259_1) | exact hn259_1) (.int .i64 ((rd_T62 l0 x7_1).f1))).trans hx259_0; replace hx259_1 := (cell_far (p := ⟨gb258, 1, none⟩) (by first | (rw [add_block]; exact hn259_1) | (show (Addr.add _ _).block ≠ _; rw [add_block]; exact hn259_1) | exact hn259_1) (.int .i64 ((rd_T62 l0 x7_1).f1))).trans hx259_1; replace hx259_2 := (cell_far (p := ⟨gb258, 1, none⟩) (by first | (rw [add_block]; exact hn259_1) | (show (Addr.add _ _).block ≠ _; rw [add_block]; exact hn259_1) | exact hn259_1) (.int .i64 ((rd_T62 l0 x7_1).f1))).trans hx259_2; replace hx259_0 := (cell_far (p := ⟨gb258, 2, none⟩) (by first | (rw [add_block]; exact hn259_2) | (show (Addr.add _ _).block ≠ _; rw [add_block]; exact hn259_2) | exact hn259_2) (.int .i64 ((rd_T62 l0 x7_1).f2))).trans hx259_0; replace hx259_1 := (cell_far (p := ⟨gb258, 2, none⟩) (by first | (rw [add_block]; exact hn259_2) | (show (Addr.add _ _).block ≠ _; rw [add_block]; exact hn259_2) | exact hn259_2) (.int .i64 ((rd_T62 l0 x7_1).f2))).trans hx259_1; replace hx259_2 := (cell_far (p := ⟨gb258, 2, none⟩) (by first | (rw [add_block]; exact hn259_2) | (show (Addr.add _ _).block ≠ _; rw [add_block]; exact hn259_2) | exact hn259_2) (.int .i64 ((rd_T62 l0 x7_1).f2))).trans hx259_2; (try have hy259_0 := fun (n_ : Nat) => (show (((((w7.drewN n_).setCell ⟨gb258, 0, none⟩ (.int .i64 ((rd_T62 l0 x7_1).f0))).setCell ⟨gb258, 1, none⟩ (.int .i64 ((rd_T62 l0 x7_1).f1))).setCell ⟨gb258, 2, none⟩ (.int .i64 ((rd_T62 l0 x7_1).f2)))).cell? _ = some _ from hx259_0)); (try have hy259_1 := fun (n_ : Nat) => (show (((((w7.drewN n_).setCell ⟨gb258, 0, none⟩ (.int .i64 ((rd_T62 l0 x7_1).f0))).setCell ⟨gb258, 1, none⟩ (.int .i64 ((rd_T62 l0 x7_1).f1))).setCell ⟨gb258, 2, none⟩ (.int .i64 ((rd_T62 l0 x7_1).f2)))).cell? _ = some _ from hx259_1)); (try have hy259_2 := fun (n_ : Nat) => (show (((((w7.drewN n_).setCell ⟨gb258, 0, none⟩ (.int .i64 ((rd_T62 l0 x7_1).f0))).setCell ⟨gb258, 1, none⟩ (.int .i64 ((rd_T62 l0 x7_1).f1))).setCell ⟨gb258, 2, none⟩ (.int .i64 ((rd_T62 l0 x7_1).f2)))).cell? _ = some _ from hx259_2)); clear hn259_0; clear hn259_1; clear hn259_2; replace p259 := eq_true p259; replace q259 := eq_true q259)); try go_wp2_with (first | ((with_reducible refine gate_dst (N := 4) rfl ?_); refine boxT 4 #[.int .i64 0, .int .i64 0, .int .i64 0] 62 ?_; intro gb258 hg w7 hbox hb; have BK258 := mA (hbox); have GW258 := mA ((by rw [hg]; exact (below_size (bT HB)) : w.heap.size ≤ gb258)); have GE258 := GW258; replace HB := mA (below_step (bT HB) hb); clear hb hbox hg; obtain ⟨hcz8_0, hcz8_1, hcz8_2, hfz8_0, hfz8_1, hfz8_2⟩ := blk3 BK258.out; have p259 : 0 ≤ (0 : Int) := (by omega); have q259 : 0 < (l0.length : Int) := of_decide_eq_true aT; obtain ⟨ad259, e259, hx259_0, hx259_1, hx259_2⟩ := at_T62 HR0.out 0 p259 q259; obtain rfl : ad257 = ad259 := (by injection e259); have qi259 : (0 < l0.length) = True := eq_true (by omega); (try rw [show ((0 : Int)).toNat = 0 from rfl] at hx259_0); (try rw [show 0 * 3 = 0 from rfl] at hx259_0); (try rw [Addr.add_zero'] at hx259_0); (try rw [show ((0 : Int)).toNat = 0 from rfl] at hx259_1); (try rw [show 0 * 3 = 0 from rfl] at hx259_1); (try rw [Addr.add_zero'] at hx259_1); (try rw [show ((0 : Int)).toNat = 0 from rfl] at hx259_2); (try rw [show 0 * 3 = 0 from rfl] at hx259_2); (try rw [Addr.add_zero'] at hx259_2); have hn259_0 : ad257.block ≠ gb258 := Nat.ne_of_lt (Nat.lt_of_lt_of_le (by have := World.block_lt_of_cell? _ _ hx259_0; first | rwa [add_block] at this | exact this) GW258.out); have hn259_1 : ad257.block ≠ gb258 := Nat.ne_of_lt (Nat.lt_of_lt_of_le (by have := World.block_lt_of_cell? _ _ hx259_0; first | rwa [add_block] at this | exact this) GW258.out); have hn259_2 : ad257.block ≠ gb258 := Nat.ne_of_lt (Nat.lt_of_lt_of_le (by have := World.block_lt_of_cell? _ _ hx259_0; first | rwa [add_block] at this | exact this) GW258.out); replace hx259_0 := (HB.out.cell (World.block_lt_of_cell? w _ hx259_0)).trans hx259_0; replace hx259_1 := (HB.out.cell (World.block_lt_of_cell? w _ hx259_1)).trans hx259_1; replace hx259_2 := (HB.out.cell (World.block_lt_of_cell? w _ hx259_2)).trans hx259_2; replace hx259_0 := (cell_far (p := ⟨gb258, 0, none⟩) (by first | (rw [add_block]; exact hn259_0) | (show (Addr.add _ _).block ≠ _; rw [add_block]; exact hn259_0) | exact hn259_0) (.int .i64 ((rd_T62 l0 x7_1).f0))).trans hx259_0; replace hx259_1 := (cell_far (p := ⟨gb258, 0, none⟩) (by first | (rw [add_block]; exact hn259_0) | (show (Addr.add _ _).block ≠ _; rw [add_block]; exact hn259_0) | exact hn259_0) (.int .i64 ((rd_T62 l0 x7_1).f0))).trans hx259_1; replace hx259_2 := (cell_far (p := ⟨gb258, 0, none⟩) (by first | (rw [add_block]; exact hn259_0) | (show (Addr.add _ _).block ≠ _; rw [add_block]; exact hn259_0) | exact hn259_0) (.int .i64 ((rd_T62 l0 x7_1).f0))).trans hx259_2; replace hx259_0 := (cell_far (p := ⟨gb258, 1, none⟩) (by first | (rw [add_block]; exact hn259_1) | (show (Addr.add _ _).block ≠ _; rw [add_block]; exact hn259_1) | exact hn259_1) (.int .i64 ((rd_T62 l0 x7_1).f1))).trans hx259_0; replace hx259_1 := (cell_far (p := ⟨gb258, 1, none⟩) (by first | (rw [add_block]; exact hn259_1) | (show (Addr.add _ _).block ≠ _; rw [add_block]; exact hn259_1) | exact hn259_1) (.int .i64 ((rd_T62 l0 x7_1).f1))).trans hx259_1; replace hx259_2 := (cell_far (p := ⟨gb258, 1, none⟩) (by first | (rw [add_block]; exact hn259_1) | (show (Addr.add _ _).block ≠ _; rw [add_block]; exact hn259_1) | exact hn259_1) (.int .i64 ((rd_T62 l0 x7_1).f1))).trans hx259_2; replace hx259_0 := (cell_far (p := ⟨gb258, 2, none⟩) (by first | (rw [add_block]; exact hn259_2) | (show (Addr.add _ _).block ≠ _; rw [add_block]; exact hn259_2) | exact hn259_2) (.int .i64 ((rd_T62 l0 x7_1).f2))).trans hx259_0; replace hx259_1 := (cell_far (p := ⟨gb258, 2, none⟩) (by first | (rw [add_block]; exact hn259_2) | (show (Addr.add _ _).block ≠ _; rw [add_block]; exact hn259_2) | exact hn259_2) (.int .i64 ((rd_T62 l0 x7_1).f2))).trans hx259_1; replace hx259_2 := (cell_far (p := ⟨gb258, 2, none⟩) (by first | (rw [add_block]; exact hn259_2) | (show (Addr.add _ _).block ≠ _; rw [add_block]; exact hn259_2) | exact hn259_2) (.int .i64 ((rd_T62 l0 x7_1).f2))).trans hx259_2; (try have hy259_0 := fun (n_ : Nat) => (show (((((w7.drewN n_).setCell ⟨gb258, 0, none⟩ (.int .i64 ((rd_T62 l0 x7_1).f0))).setCell ⟨gb258, 1, none⟩ (.int .i64 ((rd_T62 l0 x7_1).f1))).setCell ⟨gb258, 2, none⟩ (.int .i64 ((rd_T62 l0 x7_1).f2)))).cell? _ = some _ from hx259_0)); (try have hy259_1 := fun (n_ : Nat) => (show (((((w7.drewN n_).setCell ⟨gb258, 0, none⟩ (.int .i64 ((rd_T62 l0 x7_1).f0))).setCell ⟨gb258, 1, none⟩ (.int .i64 ((rd_T62 l0 x7_1).f1))).setCell ⟨gb258, 2, none⟩ (.int .i64 ((rd_T62 l0 x7_1).f2)))).cell? _ = some _ from hx259_1)); (try have hy259_2 := fun (n_ : Nat) => (show (((((w7.drewN n_).setCell ⟨gb258, 0, none⟩ (.int .i64 ((rd_T62 l0 x7_1).f0))).setCell ⟨gb258, 1, none⟩ (.int .i64 ((rd_T62 l0 x7_1).f1))).setCell ⟨gb258, 2, none⟩ (.int .i64 ((rd_T62 l0 x7_1).f2)))).cell? _ = some _ from hx259_2)); clear hn259_0; clear hn259_1; clear hn259_2; replace p259 := eq_true p259; replace q259 := eq_true q259)))
        go_roundg k1
        case measure => have := HK1.out; omega
        case rel => exact ⟨(wrap64 (x7_1 + 1)), sT, H', ⟨by have := HK1.out; omega⟩, ⟨bT1 HB GE258⟩⟩
       ·
        rw [if_neg c6] at H
        have c6b0 : (((rd_T62 l0 x7_1).f0) == ((rd_T62 l0 0).f0)) = false := beq_eq_false_iff_ne.mpr c6
        have c6b1 : (((rd_T62 l0 x7_1).f0) != ((rd_T62 l0 0).f0)) = true := bne_iff_ne.mpr c6
        obtain rfl := Option.some.inj H
        have p257 : 0 ≤ (x7_1 : Int) := of_decide_eq_true aT
        have q257 : x7_1 < (l0.length : Int) := of_decide_eq_true aT
        obtain ⟨ad257, e257, hx257_0, hx257_1, hx257_2⟩ := at_T62 HR0.out x7_1 p257 q257
        cases e257
        replace hx257_0 := (HB.out.cell (World.block_lt_of_cell? w _ hx257_0)).trans hx257_0
        replace hx257_1 := (HB.out.cell (World.block_lt_of_cell? w _ hx257_1)).trans hx257_1
        replace hx257_2 := (HB.out.cell (World.block_lt_of_cell? w _ hx257_2)).trans hx257_2
        replace p257 := eq_true p257
        replace q257 := eq_true q257
        go_wp2_with (first | ((with_reducible refine gate_dst (N := 4) rfl ?_); refine boxT 4 #[.int .i64 0, .int .i64 0, .int .i64 0] 62 ?_; intro gb258 hg w9 hbox hb; have BK258 := mA (hbox); have GW258 := mA ((by rw [hg]; exact (below_size (bT HB)) : w.heap.size ≤ gb258)); have GE258 := GW258; replace HB := mA (below_step (bT HB) hb); clear hb hbox hg; obtain ⟨hcz10_0, hcz10_1, hcz10_2, hfz10_0, hfz10_1, hfz10_2⟩ := blk3 BK258.out; have p259 : 0 ≤ (0 : Int) := (by omega); have q259 : 0 < (l0.length : Int) := of_decide_eq_true aT; obtain ⟨ad259, e259, hx259_0, hx259_1, hx259_2⟩ := at_T62 HR0.out 0 p259 q259; obtain rfl : ad257 = ad259 := (by injection e259); have qi259 : (0 < l0.length) = True := eq_true (by omega); (try rw [show ((0 : Int)).toNat = 0 from rfl] at hx259_0); (try rw [show 0 * 3 = 0 from rfl] at hx259_0); (try rw [Addr.add_zero'] at hx259_0); (try rw [show ((0 : Int)).toNat = 0 from rfl] at hx259_1); (try rw [show 0 * 3 = 0 from rfl] at hx259_1); (try rw [Addr.add_zero'] at hx259_1); (try rw [show ((0 : Int)).toNat = 0 from rfl] at hx259_2); (try rw [show 0 * 3 = 0 from rfl] at hx259_2); (try rw [Addr.add_zero'] at hx259_2); have hn259_0 : ad257.block ≠ gb258 := Nat.ne_of_lt (Nat.lt_of_lt_of_le (by have := World.block_lt_of_cell? _ _ hx259_0; first | rwa [add_block] at this | exact this) GW258.out); have hn259_1 : ad257.block ≠ gb258 := Nat.ne_of_lt (Nat.lt_of_lt_of_le (by have := World.block_lt_of_cell? _ _ hx259_0; first | rwa [add_block] at this | exact this) GW258.out); have hn259_2 : ad257.block ≠ gb258 := Nat.ne_of_lt (Nat.lt_of_lt_of_le (by have := World.block_lt_of_cell? _ _ hx259_0; first | rwa [add_block] at this | exact this) GW258.out); replace hx259_0 := (HB.out.cell (World.block_lt_of_cell? w _ hx259_0)).trans hx259_0; replace hx259_1 := (HB.out.cell (World.block_lt_of_cell? w _ hx259_1)).trans hx259_1; replace hx259_2 := (HB.out.cell (World.block_lt_of_cell? w _ hx259_2)).trans hx259_2; replace hx259_0 := (cell_far (p := ⟨gb258, 0, none⟩) (by first | (rw [add_block]; exact hn259_0) | (show (Addr.add _ _).block ≠ _; rw [add_block]; exact hn259_0) | exact hn259_0) (.int .i64 ((rd_T62 l0 x7_1).f0))).trans hx259_0; replace hx259_1 := (cell_far (p := ⟨gb258, 0, none⟩) (by first | (rw [add_block]; exact hn259_0) | (show (Addr.add _ _).block ≠ _; rw [add_block]; exact hn259_0) | exact hn259_0) (.int .i64 ((rd_T62 l0 x7_1).f0))).trans hx259_1; replace hx259_2 := (cell_far (p := ⟨gb258, 0, none⟩) (by first | (rw [add_block]; exact hn259_0) | (show (Addr.add _ _).block ≠ _; rw [add_block]; exact hn259_0) | exact hn259_0) (.int .i64 ((rd_T62 l0 x7_1).f0))).trans hx259_2; replace hx259_0 := (cell_far (p := ⟨gb258, 1, none⟩) (by first | (rw [add_block]; exact hn259_1) | (show (Addr.add _ _).block ≠ _; rw [add_block]; exact hn259_1) | exact hn259_1) (.int .i64 ((rd_T62 l0 x7_1).f1))).trans hx259_0; replace hx259_1 := (cell_far (p := ⟨gb258, 1, none⟩) (by first | (rw [add_block]; exact hn259_1) | (show (Addr.add _ _).block ≠ _; rw [add_block]; exact hn259_1) | exact hn259_1) (.int .i64 ((rd_T62 l0 x7_1).f1))).trans hx259_1; replace hx259_2 := (cell_far (p := ⟨gb258, 1, none⟩) (by first | (rw [add_block]; exact hn259_1) | (show (Addr.add _ _).block ≠ _; rw [add_block]; exact hn259_1) | exact hn259_1) (.int .i64 ((rd_T62 l0 x7_1).f1))).trans hx259_2; replace hx259_0 := (cell_far (p := ⟨gb258, 2, none⟩) (by first | (rw [add_block]; exact hn259_2) | (show (Addr.add _ _).block ≠ _; rw [add_block]; exact hn259_2) | exact hn259_2) (.int .i64 ((rd_T62 l0 x7_1).f2))).trans hx259_0; replace hx259_1 := (cell_far (p := ⟨gb258, 2, none⟩) (by first | (rw [add_block]; exact hn259_2) | (show (Addr.add _ _).block ≠ _; rw [add_block]; exact hn259_2) | exact hn259_2) (.int .i64 ((rd_T62 l0 x7_1).f2))).trans hx259_1; replace hx259_2 := (cell_far (p := ⟨gb258, 2, none⟩) (by first | (rw [add_block]; exact hn259_2) | (show (Addr.add _ _).block ≠ _; rw [add_block]; exact hn259_2) | exact hn259_2) (.int .i64 ((rd_T62 l0 x7_1).f2))).trans hx259_2; (try have hy259_0 := fun (n_ : Nat) => (show (((((w9.drewN n_).setCell ⟨gb258, 0, none⟩ (.int .i64 ((rd_T62 l0 x7_1).f0))).setCell ⟨gb258, 1, none⟩ (.int .i64 ((rd_T62 l0 x7_1).f1))).setCell ⟨gb258, 2, none⟩ (.int .i64 ((rd_T62 l0 x7_1).f2)))).cell? _ = some _ from hx259_0)); (try have hy259_1 := fun (n_ : Nat) => (show (((((w9.drewN n_).setCell ⟨gb258, 0, none⟩ (.int .i64 ((rd_T62 l0 x7_1).f0))).setCell ⟨gb258, 1, none⟩ (.int .i64 ((rd_T62 l0 x7_1).f1))).setCell ⟨gb258, 2, none⟩ (.int .i64 ((rd_T62 l0 x7_1).f2)))).cell? _ = some _ from hx259_1)); (try have hy259_2 := fun (n_ : Nat) => (show (((((w9.drewN n_).setCell ⟨gb258, 0, none⟩ (.int .i64 ((rd_T62 l0 x7_1).f0))).setCell ⟨gb258, 1, none⟩ (.int .i64 ((rd_T62 l0 x7_1).f1))).setCell ⟨gb258, 2, none⟩ (.int .i64 ((rd_T62 l0 x7_1).f2)))).cell? _ = some _ from hx259_2)); clear hn259_0; clear hn259_1; clear hn259_2; replace p259 := eq_true p259; replace q259 := eq_true q259))
        repeat (go_quiet (first | ((with_reducible refine gate_dst (N := 4) rfl ?_); refine boxT 4 #[.int .i64 0, .int .i64 0, .int .i64 0] 62 ?_; intro gb258 hg w9 hbox hb; have BK258 := mA (hbox); have GW258 := mA ((by rw [hg]; exact (below_size (bT HB)) : w.heap.size ≤ gb258)); have GE258 := GW258; replace HB := mA (below_step (bT HB) hb); clear hb hbox hg; obtain ⟨hcz10_0, hcz10_1, hcz10_2, hfz10_0, hfz10_1, hfz10_2⟩ := blk3 BK258.out; have p259 : 0 ≤ (0 : Int) := (by omega); have q259 : 0 < (l0.length : Int) := of_decide_eq_true aT; obtain ⟨ad259, e259, hx259_0, hx259_1, hx259_2⟩ := at_T62 HR0.out 0 p259 q259; obtain rfl : ad257 = ad259 := (by injection e259); have qi259 : (0 < l0.length) = True := eq_true (by omega); (try rw [show ((0 : Int)).toNat = 0 from rfl] at hx259_0); (try rw [show 0 * 3 = 0 from rfl] at hx259_0); (try rw [Addr.add_zero'] at hx259_0); (try rw [show ((0 : Int)).toNat = 0 from rfl] at hx259_1); (try rw [show 0 * 3 = 0 from rfl] at hx259_1); (try rw [Addr.add_zero'] at hx259_1); (try rw [show ((0 : Int)).toNat = 0 from rfl] at hx259_2); (try rw [show 0 * 3 = 0 from rfl] at hx259_2); (try rw [Addr.add_zero'] at hx259_2); have hn259_0 : ad257.block ≠ gb258 := Nat.ne_of_lt (Nat.lt_of_lt_of_le (by have := World.block_lt_of_cell? _ _ hx259_0; first | rwa [add_block] at this | exact this) GW258.out); have hn259_1 : ad257.block ≠ gb258 := Nat.ne_of_lt (Nat.lt_of_lt_of_le (by have := World.block_lt_of_cell? _ _ hx259_0; first | rwa [add_block] at this | exact this) GW258.out); have hn259_2 : ad257.block ≠ gb258 := Nat.ne_of_lt (Nat.lt_of_lt_of_le (by have := World.block_lt_of_cell? _ _ hx259_0; first | rwa [add_block] at this | exact this) GW258.out); replace hx259_0 := (HB.out.cell (World.block_lt_of_cell? w _ hx259_0)).trans hx259_0; replace hx259_1 := (HB.out.cell (World.block_lt_of_cell? w _ hx259_1)).trans hx259_1; replace hx259_2 := (HB.out.cell (World.block_lt_of_cell? w _ hx259_2)).trans hx259_2; replace hx259_0 := (cell_far (p := ⟨gb258, 0, none⟩) (by first | (rw [add_block]; exact hn259_0) | (show (Addr.add _ _).block ≠ _; rw [add_block]; exact hn259_0) | exact hn259_0) (.int .i64 ((rd_T62 l0 x7_1).f0))).trans hx259_0; replace hx259_1 := (cell_far (p := ⟨gb258, 0, none⟩) (by first | (rw [add_block]; exact hn259_0) | (show (Addr.add _ _).block ≠ _; rw [add_block]; exact hn259_0) | exact hn259_0) (.int .i64 ((rd_T62 l0 x7_1).f0))).trans hx259_1; replace hx259_2 := (cell_far (p := ⟨gb258, 0, none⟩) (by first | (rw [add_block]; exact hn259_0) | (show (Addr.add _ _).block ≠ _; rw [add_block]; exact hn259_0) | exact hn259_0) (.int .i64 ((rd_T62 l0 x7_1).f0))).trans hx259_2; replace hx259_0 := (cell_far (p := ⟨gb258, 1, none⟩) (by first | (rw [add_block]; exact hn259_1) | (show (Addr.add _ _).block ≠ _; rw [add_block]; exact hn259_1) | exact hn259_1) (.int .i64 ((rd_T62 l0 x7_1).f1))).trans hx259_0; replace hx259_1 := (cell_far (p := ⟨gb258, 1, none⟩) (by first | (rw [add_block]; exact hn259_1) | (show (Addr.add _ _).block ≠ _; rw [add_block]; exact hn259_1) | exact hn259_1) (.int .i64 ((rd_T62 l0 x7_1).f1))).trans hx259_1; replace hx259_2 := (cell_far (p := ⟨gb258, 1, none⟩) (by first | (rw [add_block]; exact hn259_1) | (show (Addr.add _ _).block ≠ _; rw [add_block]; exact hn259_1) | exact hn259_1) (.int .i64 ((rd_T62 l0 x7_1).f1))).trans hx259_2; replace hx259_0 := (cell_far (p := ⟨gb258, 2, none⟩) (by first | (rw [add_block]; exact hn259_2) | (show (Addr.add _ _).block ≠ _; rw [add_block]; exact hn259_2) | exact hn259_2) (.int .i64 ((rd_T62 l0 x7_1).f2))).trans hx259_0; replace hx259_1 := (cell_far (p := ⟨gb258, 2, none⟩) (by first | (rw [add_block]; exact hn259_2) | (show (Addr.add _ _).block ≠ _; rw [add_block]; exact hn259_2) | exact hn259_2) (.int .i64 ((rd_T62 l0 x7_1).f2))).trans hx259_1; replace hx259_2 := (cell_far (p := ⟨gb258, 2, none⟩) (by first | (rw [add_block]; exact hn259_2) | (show (Addr.add _ _).block ≠ _; rw [add_block]; exact hn259_2) | exact hn259_2) (.int .i64 ((rd_T62 l0 x7_1).f2))).trans hx259_2; (try have hy259_0 := fun (n_ : Nat) => (show (((((w9.drewN n_).setCell ⟨gb258, 0, none⟩ (.int .i64 ((rd_T62 l0 x7_1).f0))).setCell ⟨gb258, 1, none⟩ (.int .i64 ((rd_T62 l0 x7_1).f1))).setCell ⟨gb258, 2, none⟩ (.int .i64 ((rd_T62 l0 x7_1).f2)))).cell? _ = some _ from hx259_0)); (try have hy259_1 := fun (n_ : Nat) => (show (((((w9.drewN n_).setCell ⟨gb258, 0, none⟩ (.int .i64 ((rd_T62 l0 x7_1).f0))).setCell ⟨gb258, 1, none⟩ (.int .i64 ((rd_T62 l0 x7_1).f1))).setCell ⟨gb258, 2, none⟩ (.int .i64 ((rd_T62 l0 x7_1).f2)))).cell? _ = some _ from hx259_1)); (try have hy259_2 := fun (n_ : Nat) => (show (((((w9.drewN n_).setCell ⟨gb258, 0, none⟩ (.int .i64 ((rd_T62 l0 x7_1).f0))).setCell ⟨gb258, 1, none⟩ (.int .i64 ((rd_T62 l0 x7_1).f1))).setCell ⟨gb258, 2, none⟩ (.int .i64 ((rd_T62 l0 x7_1).f2)))).cell? _ = some _ from hx259_2)); clear hn259_0; clear hn259_1; clear hn259_2; replace p259 := eq_true p259; replace q259 := eq_true q259)); try go_wp2_with (first | ((with_reducible refine gate_dst (N := 4) rfl ?_); refine boxT 4 #[.int .i64 0, .int .i64 0, .int .i64 0] 62 ?_; intro gb258 hg w9 hbox hb; have BK258 := mA (hbox); have GW258 := mA ((by rw [hg]; exact (below_size (bT HB)) : w.heap.size ≤ gb258)); have GE258 := GW258; replace HB := mA (below_step (bT HB) hb); clear hb hbox hg; obtain ⟨hcz10_0, hcz10_1, hcz10_2, hfz10_0, hfz10_1, hfz10_2⟩ := blk3 BK258.out; have p259 : 0 ≤ (0 : Int) := (by omega); have q259 : 0 < (l0.length : Int) := of_decide_eq_true aT; obtain ⟨ad259, e259, hx259_0, hx259_1, hx259_2⟩ := at_T62 HR0.out 0 p259 q259; obtain rfl : ad257 = ad259 := (by injection e259); have qi259 : (0 < l0.length) = True := eq_true (by omega); (try rw [show ((0 : Int)).toNat = 0 from rfl] at hx259_0); (try rw [show 0 * 3 = 0 from rfl] at hx259_0); (try rw [Addr.add_zero'] at hx259_0); (try rw [show ((0 : Int)).toNat = 0 from rfl] at hx259_1); (try rw [show 0 * 3 = 0 from rfl] at hx259_1); (try rw [Addr.add_zero'] at hx259_1); (try rw [show ((0 : Int)).toNat = 0 from rfl] at hx259_2); (try rw [show 0 * 3 = 0 from rfl] at hx259_2); (try rw [Addr.add_zero'] at hx259_2); have hn259_0 : ad257.block ≠ gb258 := Nat.ne_of_lt (Nat.lt_of_lt_of_le (by have := World.block_lt_of_cell? _ _ hx259_0; first | rwa [add_block] at this | exact this) GW258.out); have hn259_1 : ad257.block ≠ gb258 := Nat.ne_of_lt (Nat.lt_of_lt_of_le (by have := World.block_lt_of_cell? _ _ hx259_0; first | rwa [add_block] at this | exact this) GW258.out); have hn259_2 : ad257.block ≠ gb258 := Nat.ne_of_lt (Nat.lt_of_lt_of_le (by have := World.block_lt_of_cell? _ _ hx259_0; first | rwa [add_block] at this | exact this) GW258.out); replace hx259_0 := (HB.out.cell (World.block_lt_of_cell? w _ hx259_0)).trans hx259_0; replace hx259_1 := (HB.out.cell (World.block_lt_of_cell? w _ hx259_1)).trans hx259_1; replace hx259_2 := (HB.out.cell (World.block_lt_of_cell? w _ hx259_2)).trans hx259_2; replace hx259_0 := (cell_far (p := ⟨gb258, 0, none⟩) (by first | (rw [add_block]; exact hn259_0) | (show (Addr.add _ _).block ≠ _; rw [add_block]; exact hn259_0) | exact hn259_0) (.int .i64 ((rd_T62 l0 x7_1).f0))).trans hx259_0; replace hx259_1 := (cell_far (p := ⟨gb258, 0, none⟩) (by first | (rw [add_block]; exact hn259_0) | (show (Addr.add _ _).block ≠ _; rw [add_block]; exact hn259_0) | exact hn259_0) (.int .i64 ((rd_T62 l0 x7_1).f0))).trans hx259_1; replace hx259_2 := (cell_far (p := ⟨gb258, 0, none⟩) (by first | (rw [add_block]; exact hn259_0) | (show (Addr.add _ _).block ≠ _; rw [add_block]; exact hn259_0) | exact hn259_0) (.int .i64 ((rd_T62 l0 x7_1).f0))).trans hx259_2; replace hx259_0 := (cell_far (p := ⟨gb258, 1, none⟩) (by first | (rw [add_block]; exact hn259_1) | (show (Addr.add _ _).block ≠ _; rw [add_block]; exact hn259_1) | exact hn259_1) (.int .i64 ((rd_T62 l0 x7_1).f1))).trans hx259_0; replace hx259_1 := (cell_far (p := ⟨gb258, 1, none⟩) (by first | (rw [add_block]; exact hn259_1) | (show (Addr.add _ _).block ≠ _; rw [add_block]; exact hn259_1) | exact hn259_1) (.int .i64 ((rd_T62 l0 x7_1).f1))).trans hx259_1; replace hx259_2 := (cell_far (p := ⟨gb258, 1, none⟩) (by first | (rw [add_block]; exact hn259_1) | (show (Addr.add _ _).block ≠ _; rw [add_block]; exact hn259_1) | exact hn259_1) (.int .i64 ((rd_T62 l0 x7_1).f1))).trans hx259_2; replace hx259_0 := (cell_far (p := ⟨gb258, 2, none⟩) (by first | (rw [add_block]; exact hn259_2) | (show (Addr.add _ _).block ≠ _; rw [add_block]; exact hn259_2) | exact hn259_2) (.int .i64 ((rd_T62 l0 x7_1).f2))).trans hx259_0; replace hx259_1 := (cell_far (p := ⟨gb258, 2, none⟩) (by first | (rw [add_block]; exact hn259_2) | (show (Addr.add _ _).block ≠ _; rw [add_block]; exact hn259_2) | exact hn259_2) (.int .i64 ((rd_T62 l0 x7_1).f2))).trans hx259_1; replace hx259_2 := (cell_far (p := ⟨gb258, 2, none⟩) (by first | (rw [add_block]; exact hn259_2) | (show (Addr.add _ _).block ≠ _; rw [add_block]; exact hn259_2) | exact hn259_2) (.int .i64 ((rd_T62 l0 x7_1).f2))).trans hx259_2; (try have hy259_0 := fun (n_ : Nat) => (show (((((w9.drewN n_).setCell ⟨gb258, 0, none⟩ (.int .i64 ((rd_T62 l0 x7_1).f0))).setCell ⟨gb258, 1, none⟩ (.int .i64 ((rd_T62 l0 x7_1).f1))).setCell ⟨gb258, 2, none⟩ (.int .i64 ((rd_T62 l0 x7_1).f2)))).cell? _ = some _ from hx259_0)); (try have hy259_1 := fun (n_ : Nat) => (show (((((w9.drewN n_).setCell ⟨gb258, 0, none⟩ (.int .i64 ((rd_T62 l0 x7_1).f0))).setCell ⟨gb258, 1, none⟩ (.int .i64 ((rd_T62 l0 x7_1).f1))).setCell ⟨gb258, 2, none⟩ (.int .i64 ((rd_T62 l0 x7_1).f2)))).cell? _ = some _ from hx259_1)); (try have hy259_2 := fun (n_ : Nat) => (show (((((w9.drewN n_).setCell ⟨gb258, 0, none⟩ (.int .i64 ((rd_T62 l0 x7_1).f0))).setCell ⟨gb258, 1, none⟩ (.int .i64 ((rd_T62 l0 x7_1).f1))).setCell ⟨gb258, 2, none⟩ (.int .i64 ((rd_T62 l0 x7_1).f2)))).cell? _ = some _ from hx259_2)); clear hn259_0; clear hn259_1; clear hn259_2; replace p259 := eq_true p259; replace q259 := eq_true q259)))
        go_ret
        exact ⟨eT, bT1 HB GE258⟩
      ·
       rw [if_neg c5] at H
       exact absurd H (by simp)
     ·
      rw [if_neg c4] at H
      exact absurd H (by simp)
    ·
     rw [if_neg c3] at H
     exact absurd H (by simp)
   ·
    rw [if_neg c2] at H
    have c2b0 : decide (x7_1 < (l0.length : Int)) = false := decide_eq_false c2
    clear c2
    obtain rfl := Option.some.inj H
    go_wp2
    repeat (go_quiet (fail); try go_wp2)
    go_ret
    exact ⟨eT, bT HB⟩

/-! ### impl_NeedsNestedLoop: function 25 -/
def impl_NeedsNestedLoop.f (k : Nat) (a0_0 : Int) (l0_1 : List (S62)) (l0_2 : List (S62)) (l0_3 : List Bool) (a0_4 : Int) : Option (Bool) := if a0_4 ≥ 4 then (some true) else ((impl_AllSameKey.f k l0_2).bind fun t261 => (some t261))
theorem impl_NeedsNestedLoop.mono : ∀ a0 a1 a2 a3 a4 k, LeO (impl_NeedsNestedLoop.f k a0 a1 a2 a3 a4) (impl_NeedsNestedLoop.f (k + 1) a0 a1 a2 a3 a4) := by
 intro a0 a1 a2 a3 a4 k
 unfold impl_NeedsNestedLoop.f
 repeat' first
   | (with_reducible exact impl_AllSameKey.mono _ _)
   | (with_reducible exact LeO.refl _)
   | (with_reducible exact LeO.none _)
   | (with_reducible refine LeO.ite ?_ ?_)
   | (with_reducible refine LeO.bind ?_ (fun _ => ?_))
   | exact impl_AllSameKey.mono _ _
   | exact LeO.none _
   | refine LeO.ite ?_ ?_
   | refine LeO.bind ?_ (fun _ => ?_)
set_option maxHeartbeats 8000000 in
set_option maxRecDepth 100000 in
theorem impl_NeedsNestedLoop.calls (k : Nat) (a0_0 : Int) (A0_1 : Option Addr) (c0_1 : Nat) (l0_1 : List (S62)) (A0_2 : Option Addr) (c0_2 : Nat) (l0_2 : List (S62)) (A0_3 : Option Addr) (c0_3 : Nat) (l0_3 : List Bool) (a0_4 : Int) (r : Bool) (w : World) (hr0_1 : Kd.C k62 w A0_1 l0_1.length l0_1) (hc0_1 : l0_1.length ≤ c0_1) (hr0_2 : Kd.C k62 w A0_2 l0_2.length l0_2) (hc0_2 : l0_2.length ≤ c0_2) (hr0_3 : Kd.C Kd.bool w A0_3 l0_3.length l0_3) (hc0_3 : l0_3.length ≤ c0_3) (h : impl_NeedsNestedLoop.f k a0_0 l0_1 l0_2 l0_3 a0_4 = some r) :
  Calls Try.prog 25 #[.agg #[.int .i64 a0_0, .slice A0_1 l0_1.length c0_1, .slice A0_2 l0_2.length c0_2, .slice A0_3 l0_3.length c0_3, .int .i64 a0_4]] w fun e w' => e = .returned (.bool r) ∧ Below w.heap.size w w' := by
 have hu37 := Try.underlying37
 have HR0_1 := mA hr0_1
 have HC0_1 := mA hc0_1
 clear hr0_1 hc0_1
 have HR0_2 := mA hr0_2
 have HC0_2 := mA hc0_2
 clear hr0_2 hc0_2
 have HR0_3 := mA hr0_3
 have HC0_3 := mA hc0_3
 clear hr0_3 hc0_3
 have HB := mA (Below.refl w.heap.size w)
 have H : (if a0_4 ≥ 4 then (some true) else ((impl_AllSameKey.f k l0_2).bind fun t261 => (some t261))) = some r := h
 clear h
 by_cases c2 : a0_4 ≥ 4
 ·
  rw [if_pos c2] at H
  have c2b0 : decide (4 ≤ a0_4) = true := decide_eq_true c2
  clear c2
  obtain rfl := Option.some.inj H
  go_enter Try.func25, Try.ntmps25
  go_wp2_with (first | ((with_reducible refine gate_dst (N := 1) rfl ?_); refine boxT 1 #[.int .i64 a0_0, .slice A0_1 l0_1.length c0_1, .slice A0_2 l0_2.length c0_2, .slice A0_3 l0_3.length c0_3, .int .i64 a0_4] 37 ?_; intro gb260 hg w3 hbox hb; have BK260 := mA (hbox); have GW260 := mA ((by rw [hg]; exact (below_size (bT HB)) : w.heap.size ≤ gb260)); have GE260 := GW260; replace HB := mA (below_step (bT HB) hb); clear hb hbox hg; obtain ⟨hcz4_0, hcz4_1, hcz4_2, hcz4_3, hcz4_4, hfz4_0, hfz4_1, hfz4_2, hfz4_3, hfz4_4⟩ := blk5 BK260.out))
  go_ret
  exact ⟨eT, bT1 HB GE260⟩
 ·
  rw [if_neg c2] at H
  have c2b0 : decide (4 ≤ a0_4) = false := decide_eq_false c2
  clear c2
  obtain ⟨t261, A5, H⟩ := Option.bind_eq_some_iff.mp H
  replace A5 := mA A5
  replace H : (some t261) = some r := H
  obtain rfl := Option.some.inj H
  go_enter Try.func25, Try.ntmps25
  go_wp2_with (first | ((with_reducible refine gate_dst (N := 1) rfl ?_); refine boxT 1 #[.int .i64 a0_0, .slice A0_1 l0_1.length c0_1, .slice A0_2 l0_2.length c0_2, .slice A0_3 l0_3.length c0_3, .int .i64 a0_4] 37 ?_; intro gb260 hg w6 hbox hb; have BK260 := mA (hbox); have GW260 := mA ((by rw [hg]; exact (below_size (bT HB)) : w.heap.size ≤ gb260)); have GE260 := GW260; replace HB := mA (below_step (bT HB) hb); clear hb hbox hg; obtain ⟨hcz7_0, hcz7_1, hcz7_2, hcz7_3, hcz7_4, hfz7_0, hfz7_1, hfz7_2, hfz7_3, hfz7_4⟩ := blk5 BK260.out) | (go_at_call 60; (with_reducible refine (impl_AllSameKey.calls k _ _ l0_2 t261 _ ?side1 ?side2 A5.out).mono ?_); (case side1 => exact cT (Kd.C_below HR0_2.out HB.out)); (case side2 => exact HC0_2.out); rintro e w8 ⟨rfl, hb⟩; replace HB := mA (below_step (bT1 HB GE260) hb); (try clear hb)))
  go_ret
  exact ⟨eT, bT1 HB GE260⟩

end Go.Proofs.Ythciieopabndcaa.P
