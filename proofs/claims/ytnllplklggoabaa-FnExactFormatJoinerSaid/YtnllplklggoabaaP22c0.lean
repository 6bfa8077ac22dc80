/- Written by tools/seatprint.py over the translation. Lean checks it. -/
import Derived.Test.YtnllplklggoabaaP0
import Derived.Test.YtnllplklggoabaaP6ac0
import Derived.Test.YtnllplklggoabaaP7bc0
import Derived.Test.YtnllplklggoabaaP7fc0
namespace Go.Proofs.Ytnllplklggoabaa.P
open Go.RowKit Go.Proofs.YtnllplklggoabaaW.PrintWords Go.Proofs.YtnllplklggoabaaW.PrintLast Go.Proofs.YtnllplklggoabaaW.PrintMore
attribute [local go_sem] max2_int min2_int max_two min_two max_three min_three max_four min_four
set_option linter.unusedVariables false
set_option linter.unusedSimpArgs false

/-! ### spec_IsValidJoiner: function 65 -/
def spec_IsValidJoiner.l0 : Nat → Int → Int → Int → List (S37) → Int → Int → Option (Bool)
 | 0, _, _, _, _, _, _ => none
 | k + 1, x3, x4, x5, x445000, x445001, x445002 => if x5 < (x445000.length : Int) then (if 0 ≤ x5 then ((spec_IsValidTask.f k ((rd_T37 x445000 x5).f0) ((rd_T37 x445000 x5).f1) ((rd_T37 x445000 x5).f2) ((rd_T37 x445000 x5).f3) ((rd_T37 x445000 x5).f4)).bind fun t446 => (if t446 = true then (if 0 < (x445000.length : Int) then (if ((rd_T37 x445000 x5).f0) = ((rd_T37 x445000 0).f0) then (spec_IsValidJoiner.l0 k (wrap64 (x3 + (((rd_T37 x445000 x5).f1).length : Int))) (wrap64 (x4 + (((rd_T37 x445000 x5).f2).length : Int))) (wrap64 (x5 + 1)) x445000 x445001 x445002) else (some false)) else (none)) else (some false))) else (none)) else (if x3 ≤ 24 then (if x4 ≤ 24 then (if (x445000.length : Int) ≤ 40 then ((spec_l1In.f x445001 0 100000).bind fun t451 => (if t451 = true then ((spec_l1In.f x445002 0 1000).bind fun t452 => (some t452)) else (some false))) else (some false)) else (some false)) else (some false))
def spec_IsValidJoiner.f (k : Nat) (l0_0 : List (S37)) (a0_1 : Int) (a0_2 : Int) : Option (Bool) := spec_IsValidJoiner.l0 k 0 0 0 l0_0 a0_1 a0_2
theorem spec_IsValidJoiner.mono_l : ∀ k, (∀ y0 y1 y2 y3 y4 y5, LeO (spec_IsValidJoiner.l0 k y0 y1 y2 y3 y4 y5) (spec_IsValidJoiner.l0 (k + 1) y0 y1 y2 y3 y4 y5))
 | 0 => fun _ _ _ _ _ _ r h => by simp [spec_IsValidJoiner.l0] at h
 | k + 1 => by
  have ih0 := spec_IsValidJoiner.mono_l k
  ·
   intro y0 y1 y2 y3 y4 y5
   unfold spec_IsValidJoiner.l0
   repeat' first
   | (with_reducible exact ih0 _ _ _ _ _ _)
   | (with_reducible exact spec_IsValidTask.mono _ _ _ _ _ _)
   | (with_reducible exact LeO.refl _)
   | (with_reducible exact LeO.none _)
   | (with_reducible refine LeO.ite ?_ ?_)
   | (with_reducible refine LeO.bind ?_ (fun _ => ?_))
   | exact ih0 _ _ _ _ _ _
   | exact spec_IsValidTask.mono _ _ _ _ _ _
   | exact LeO.none _
   | refine LeO.ite ?_ ?_
   | refine LeO.bind ?_ (fun _ => ?_)
theorem spec_IsValidJoiner.mono : ∀ a0 a1 a2 k, LeO (spec_IsValidJoiner.f k a0 a1 a2) (spec_IsValidJoiner.f (k + 1) a0 a1 a2) := by
 intro a0 a1 a2 k
 have ih0 := spec_IsValidJoiner.mono_l k
 unfold spec_IsValidJoiner.f
 repeat' first
   | (with_reducible exact ih0 _ _ _ _ _ _)
   | (with_reducible exact spec_IsValidTask.mono _ _ _ _ _ _)
   | (with_reducible exact LeO.refl _)
   | (with_reducible exact LeO.none _)
   | (with_reducible refine LeO.ite ?_ ?_)
   | (with_reducible refine LeO.bind ?_ (fun _ => ?_))
   | exact ih0 _ _ _ _ _ _
   | exact spec_IsValidTask.mono _ _ _ _ _ _
   | exact LeO.none _
   | refine LeO.ite ?_ ?_
   | refine LeO.bind ?_ (fun _ => ?_)
def spec_IsValidJoiner.T6 : Bool × List (List Nat × List Nat) := (true, [([], []), ([0], [0]), ([], []), ([1, 2], [1, 2]), ([3], [3]), ([4], [4]), ([5], [5]), ([6, 5], [6]), ([7], [7]), ([8, 7], [7, 8]), ([7], [7]), ([9, 10, 7], [7, 9, 10]), ([11, 7], [7, 11]), ([12, 7], [7, 12]), ([7], [7]), ([14, 7], [7, 14]), ([15, 7], [7, 15]), ([16, 7], [7, 16]), ([17, 7], [7, 17]), ([13, 18, 7], [7, 13, 18]), ([7, 19], [7, 19])])
def spec_IsValidJoiner.B6 : List Nat := [0, 1, 0, 7, 15, 31, 63, 127, 255, 511, 255, 2047, 4095, 8191, 255, 16639, 49407, 114943, 246015, 524287, 1048575]
theorem spec_IsValidJoiner.tab6 : rtab .any (opsOf Try.f65 6) = spec_IsValidJoiner.T6 := by kernel_rfl
theorem spec_IsValidJoiner.bits6 : waitsOk spec_IsValidJoiner.T6.2 spec_IsValidJoiner.B6 = true := by kernel_rfl
set_option maxHeartbeats 8000000 in
set_option maxRecDepth 100000 in
theorem spec_IsValidJoiner.calls (k : Nat) (A0_0 : Option Addr) (c0_0 : Nat) (l0_0 : List (S37)) (a0_1 : Int) (a0_2 : Int) (r : Bool) (w : World) (hr0_0 : Kd.C k37 w A0_0 l0_0.length l0_0) (hc0_0 : l0_0.length ≤ c0_0) (h : spec_IsValidJoiner.f k l0_0 a0_1 a0_2 = some r) :
  Calls Try.prog 65 #[.agg #[.slice A0_0 l0_0.length c0_0, .int .i64 a0_1, .int .i64 a0_2]] w fun e w' => e = .returned (.bool r) ∧ Below w.heap.size w w' := by
 have hu59 := Try.underlying59
 have hu37 := Try.underlying37
 have HR0_0 := mA hr0_0
 have HC0_0 := mA hc0_0
 clear hr0_0 hc0_0
 have HB := mA (Below.refl w.heap.size w)
 have H : (spec_IsValidJoiner.l0 k 0 0 0 l0_0 a0_1 a0_2) = some r := h
 clear h
 have H' := mA H
 clear H
 go_enter Try.func65, Try.ntmps65
 go_wp2_with (first | ((with_reducible refine gate_dst (N := 1) rfl ?_); (try (refine gate_guard (by rfl) ?_; dsimp only)); refine boxT 1 #[.slice A0_0 l0_0.length c0_0, .int .i64 a0_1, .int .i64 a0_2] 59 ?_; intro gb444 hg w2 hbox hb; have BK444 := mA (hbox); have GW444 := mA ((by rw [hg]; exact (below_size (bT HB)) : w.heap.size ≤ gb444)); have GE444 := GW444; replace HB := mA (below_step (bT HB) hb); clear hb hbox hg))
 go_loopg [3, 4, 5] k (fun kq v3 v4 v5 w' => ∃ (x3_1 : Int) (x4_1 : Int) (x5_1 : Int), v3 = .int .i64 x3_1 ∧ v4 = .int .i64 x4_1 ∧ v5 = .int .i64 x5_1 ∧ Aside0 (spec_IsValidJoiner.l0 kq x3_1 x4_1 x5_1 l0_0 a0_1 a0_2 = some r) ∧ Aside0 (kq ≤ k) ∧ Aside0 (w'.heap[gb444]? = some (.cells #[(.slice A0_0 l0_0.length c0_0), .int .i64 a0_1, .int .i64 a0_2] 59 (0, 0))) ∧ Aside0 (Below w.heap.size w w'))
 case atStart => exact ⟨(0), (0), (0), sT, sT, sT, H', ⟨Nat.le_refl _⟩, ⟨kT BK444⟩, ⟨bT1 HB GE444⟩⟩
 case round =>
  clear H'
  try clear p2
  obtain ⟨x3_1, x4_1, x5_1, rfl, rfl, rfl, HA, HK1, BK444, HB⟩ := hrel
  cases gk with
  | zero => exact absurd HA.out (by simp [spec_IsValidJoiner.l0])
  | succ k1 =>
   have H := HA.out
   clear HA
   simp only [spec_IsValidJoiner.l0] at H
   by_cases c3 : x5_1 < (l0_0.length : Int)
   ·
    rw [if_pos c3] at H
    have c3b0 : decide (x5_1 < (l0_0.length : Int)) = true := decide_eq_true c3
    clear c3
    by_cases c4 : 0 ≤ x5_1
    ·
     rw [if_pos c4] at H
     have c4b0 : decide (0 ≤ x5_1) = true := decide_eq_true c4
     clear c4
     obtain ⟨t446, A5, H⟩ := Option.bind_eq_some_iff.mp H
     replace A5 := mA A5
     try dsimp only at H
     by_cases c6 : t446 = true
     ·
      subst c6
      rw [if_pos rfl] at H
      by_cases c7 : 0 < (l0_0.length : Int)
      ·
       rw [if_pos c7] at H
       have c7b0 : decide (0 < (l0_0.length : Int)) = true := decide_eq_true c7
       have c7b1 : decide (0 < l0_0.length) = true := decide_eq_true (by omega)
       clear c7
       by_cases c8 : ((rd_T37 l0_0 x5_1).f0) = ((rd_T37 l0_0 0).f0)
       ·
        rw [if_pos c8] at H
        have c8b0 : (((rd_T37 l0_0 x5_1).f0) == ((rd_T37 l0_0 0).f0)) = true := beq_iff_eq.mpr c8
        have c8b1 : (((rd_T37 l0_0 x5_1).f0) != ((rd_T37 l0_0 0).f0)) = false := bne_eq_false_iff_eq.mpr c8
        clear c8
        have H' := mA H
        clear H
        have hcz9_0 : wr.cell? ⟨gb444, 0, none⟩ = some (.slice A0_0 l0_0.length c0_0) := (blk_cell BK444.out 0).trans rfl
        have hcz9_1 : wr.cell? ⟨gb444, 1, none⟩ = some (.int .i64 a0_1) := (blk_cell BK444.out 1).trans rfl
        have hcz9_2 : wr.cell? ⟨gb444, 2, none⟩ = some (.int .i64 a0_2) := (blk_cell BK444.out 2).trans rfl
        have hfz9_0 := blk_frozen BK444.out 0
        have hfz9_1 := blk_frozen BK444.out 1
        have hfz9_2 := blk_frozen BK444.out 2
        try go_wp2
        replace BK444 := mA (blk_drew BK444.out)
        replace HB := mA (below_drew1 HB.out)
        have p445 : 0 ≤ (x5_1 : Int) := of_decide_eq_true aT
        have q445 : x5_1 < (l0_0.length : Int) := of_decide_eq_true aT
        obtain ⟨ad445, A445_1, c445_1, A445_2, c445_2, A445_3, c445_3, e445, hx445_0, hx445_1, hx445_2, hx445_3, hx445_4, hl445_1, hi445_1, hl445_2, hi445_2, hl445_3, hi445_3⟩ := at_T37 HR0_0.out x5_1 p445 q445
        have hw445_4 := hx445_4
        have hw445_3 := hx445_3
        have hw445_2 := hx445_2
        have hw445_1 := hx445_1
        have hw445_0 := hx445_0
        cases e445
        replace hx445_0 := (HB.out.cell (World.block_lt_of_cell? w _ hx445_0)).trans hx445_0
        replace hx445_1 := (HB.out.cell (World.block_lt_of_cell? w _ hx445_1)).trans hx445_1
        replace hx445_2 := (HB.out.cell (World.block_lt_of_cell? w _ hx445_2)).trans hx445_2
        replace hx445_3 := (HB.out.cell (World.block_lt_of_cell? w _ hx445_3)).trans hx445_3
        replace hx445_4 := (HB.out.cell (World.block_lt_of_cell? w _ hx445_4)).trans hx445_4
        have HR445_1 := mA hi445_1
        have HC445_1 := mA hl445_1
        clear hi445_1 hl445_1
        have HR445_2 := mA hi445_2
        have HC445_2 := mA hl445_2
        clear hi445_2 hl445_2
        have HR445_3 := mA hi445_3
        have HC445_3 := mA hl445_3
        clear hi445_3 hl445_3
        replace p445 := eq_true p445
        replace q445 := eq_true q445
        have p447 : 0 ≤ (x5_1 : Int) := of_decide_eq_true aT
        have q447 : x5_1 < (l0_0.length : Int) := of_decide_eq_true aT
        obtain ⟨ad447, A447_1, c447_1, A447_2, c447_2, A447_3, c447_3, e447, hx447_0, hx447_1, hx447_2, hx447_3, hx447_4, hl447_1, hi447_1, hl447_2, hi447_2, hl447_3, hi447_3⟩ := at_T37 HR0_0.out x5_1 p447 q447
        have hw447_4 := hx447_4
        have hw447_3 := hx447_3
        have hw447_2 := hx447_2
        have hw447_1 := hx447_1
        have hw447_0 := hx447_0
        obtain rfl : ad445 = ad447 := (by injection e447)
        replace hx447_0 := (HB.out.cell (World.block_lt_of_cell? w _ hx447_0)).trans hx447_0
        replace hx447_1 := (HB.out.cell (World.block_lt_of_cell? w _ hx447_1)).trans hx447_1
        replace hx447_2 := (HB.out.cell (World.block_lt_of_cell? w _ hx447_2)).trans hx447_2
        replace hx447_3 := (HB.out.cell (World.block_lt_of_cell? w _ hx447_3)).trans hx447_3
        replace hx447_4 := (HB.out.cell (World.block_lt_of_cell? w _ hx447_4)).trans hx447_4
        have HR447_1 := mA hi447_1
        have HC447_1 := mA hl447_1
        clear hi447_1 hl447_1
        have HR447_2 := mA hi447_2
        have HC447_2 := mA hl447_2
        clear hi447_2 hl447_2
        have HR447_3 := mA hi447_3
        have HC447_3 := mA hl447_3
        clear hi447_3 hl447_3
        replace p447 := eq_true p447
        replace q447 := eq_true q447
        have p448 : 0 ≤ (0 : Int) := (by omega)
        have q448 : 0 < (l0_0.length : Int) := of_decide_eq_true aT
        obtain ⟨ad448, A448_1, c448_1, A448_2, c448_2, A448_3, c448_3, e448, hx448_0, hx448_1, hx448_2, hx448_3, hx448_4, hl448_1, hi448_1, hl448_2, hi448_2, hl448_3, hi448_3⟩ := at_T37 HR0_0.out 0 p448 q448
        have hw448_4 := hx448_4
        (try rw [show ((0 : Int)).toNat = 0 from rfl] at hw448_4)
        (try rw [show 0 * 5 = 0 from rfl] at hw448_4)
        (try rw [Addr.add_zero'] at hw448_4)
        have hw448_3 := hx448_3
        (try rw [show ((0 : Int)).toNat = 0 from rfl] at hw448_3)
        (try rw [show 0 * 5 = 0 from rfl] at hw448_3)
        (try rw [Addr.add_zero'] at hw448_3)
        have hw448_2 := hx448_2
        (try rw [show ((0 : Int)).toNat = 0 from rfl] at hw448_2)
        (try rw [show 0 * 5 = 0 from rfl] at hw448_2)
        (try rw [Addr.add_zero'] at hw448_2)
        have hw448_1 := hx448_1
        (try rw [show ((0 : Int)).toNat = 0 from rfl] at hw448_1)
        (try rw [show 0 * 5 = 0 from rfl] at hw448_1)
        (try rw [Addr.add_zero'] at hw448_1)
        have hw448_0 := hx448_0
        (try rw [show ((0 : Int)).toNat = 0 from rfl] at hw448_0)
        (try rw [show 0 * 5 = 0 from rfl] at hw448_0)
        (try rw [Addr.add_zero'] at hw448_0)
        obtain rfl : ad445 = ad448 := (by injection e448)
        have qi448 : (0 < l0_0.length) = True := eq_true (by omega)
        (try rw [show ((0 : Int)).toNat = 0 from rfl] at hx448_0)
        (try rw [show 0 * 5 = 0 from rfl] at hx448_0)
        (try rw [Addr.add_zero'] at hx448_0)
        (try rw [show ((0 : Int)).toNat = 0 from rfl] at hx448_1)
        (try rw [show 0 * 5 = 0 from rfl] at hx448_1)
        (try rw [Addr.add_zero'] at hx448_1)
        (try rw [show ((0 : Int)).toNat = 0 from rfl] at hx448_2)
        (try rw [show 0 * 5 = 0 from rfl] at hx448_2)
        (try rw [Addr.add_zero'] at hx448_2)
        (try rw [show ((0 : Int)).toNat = 0 from rfl] at hx448_3)
        (try rw [show 0 * 5 = 0 from rfl] at hx448_3)
        (try rw [Addr.add_zero'] at hx448_3)
        (try rw [show ((0 : Int)).toNat = 0 from rfl] at hx448_4)
        (try rw [show 0 * 5 = 0 from rfl] at hx448_4)
        (try rw [Addr.add_zero'] at hx448_4)
        replace hx448_0 := (HB.out.cell (World.block_lt_of_cell? w _ hx448_0)).trans hx448_0
        replace hx448_1 := (HB.out.cell (World.block_lt_of_cell? w _ hx448_1)).trans hx448_1
        replace hx448_2 := (HB.out.cell (World.block_lt_of_cell? w _ hx448_2)).trans hx448_2
        replace hx448_3 := (HB.out.cell (World.block_lt_of_cell? w _ hx448_3)).trans hx448_3
        replace hx448_4 := (HB.out.cell (World.block_lt_of_cell? w _ hx448_4)).trans hx448_4
        have HR448_1 := mA hi448_1
        have HC448_1 := mA hl448_1
        clear hi448_1 hl448_1
        have HR448_2 := mA hi448_2
        have HC448_2 := mA hl448_2
        clear hi448_2 hl448_2
        have HR448_3 := mA hi448_3
        have HC448_3 := mA hl448_3
        clear hi448_3 hl448_3
        replace p448 := eq_true p448
        replace q448 := eq_true q448
        refine start_ (n := 21) (S := fun w' => w'.cell? ⟨gb444, 0, none⟩ = some (.slice (some ad445) l0_0.length c0_0) ∧ w'.cell? ⟨gb444, 1, none⟩ = some (.int .i64 a0_1) ∧ w'.cell? ⟨gb444, 2, none⟩ = some (.int .i64 a0_2) ∧ w'.cell? (ad445.add ((x5_1).toNat * 5)) = some (.int .i64 ((rd_T37 l0_0 x5_1).f0)) ∧ w'.cell? ⟨(ad445.add ((x5_1).toNat * 5)).block, (ad445.add ((x5_1).toNat * 5)).off + 1, none⟩ = some (.slice A445_1 ((rd_T37 l0_0 x5_1).f1).length c445_1) ∧ w'.cell? ⟨(ad445.add ((x5_1).toNat * 5)).block, (ad445.add ((x5_1).toNat * 5)).off + 2, none⟩ = some (.slice A445_2 ((rd_T37 l0_0 x5_1).f2).length c445_2) ∧ w'.cell? ⟨(ad445.add ((x5_1).toNat * 5)).block, (ad445.add ((x5_1).toNat * 5)).off + 3, none⟩ = some (.slice A445_3 ((rd_T37 l0_0 x5_1).f3).length c445_3) ∧ w'.cell? ⟨(ad445.add ((x5_1).toNat * 5)).block, (ad445.add ((x5_1).toNat * 5)).off + 4, none⟩ = some (.int .i64 ((rd_T37 l0_0 x5_1).f4)) ∧ w'.cell? (ad445.add ((x5_1).toNat * 5)) = some (.int .i64 ((rd_T37 l0_0 x5_1).f0)) ∧ w'.cell? ⟨(ad445.add ((x5_1).toNat * 5)).block, (ad445.add ((x5_1).toNat * 5)).off + 1, none⟩ = some (.slice A447_1 ((rd_T37 l0_0 x5_1).f1).length c447_1) ∧ w'.cell? ⟨(ad445.add ((x5_1).toNat * 5)).block, (ad445.add ((x5_1).toNat * 5)).off + 2, none⟩ = some (.slice A447_2 ((rd_T37 l0_0 x5_1).f2).length c447_2) ∧ w'.cell? ⟨(ad445.add ((x5_1).toNat * 5)).block, (ad445.add ((x5_1).toNat * 5)).off + 3, none⟩ = some (.slice A447_3 ((rd_T37 l0_0 x5_1).f3).length c447_3) ∧ w'.cell? ⟨(ad445.add ((x5_1).toNat * 5)).block, (ad445.add ((x5_1).toNat * 5)).off + 4, none⟩ = some (.int .i64 ((rd_T37 l0_0 x5_1).f4)) ∧ w'.cell? ad445 = some (.int .i64 ((rd_T37 l0_0 0).f0)) ∧ w'.cell? ⟨ad445.block, ad445.off + 1, none⟩ = some (.slice A448_1 ((rd_T37 l0_0 0).f1).length c448_1) ∧ w'.cell? ⟨ad445.block, ad445.off + 2, none⟩ = some (.slice A448_2 ((rd_T37 l0_0 0).f2).length c448_2) ∧ w'.cell? ⟨ad445.block, ad445.off + 3, none⟩ = some (.slice A448_3 ((rd_T37 l0_0 0).f3).length c448_3) ∧ w'.cell? ⟨ad445.block, ad445.off + 4, none⟩ = some (.int .i64 ((rd_T37 l0_0 0).f4))) (ds := []) #[false, false, false, false, false, false, false, false, false, false, false, false, false, false, false, false, false, false, false, false, false] (by kernel_rfl) rfl rfl ⟨(blk_cell BK444.out 0).trans rfl, (blk_cell BK444.out 1).trans rfl, (blk_cell BK444.out 2).trans rfl, ((HB.out.cell (World.block_lt_of_cell? w _ hw445_0)).trans hw445_0), ((HB.out.cell (World.block_lt_of_cell? w _ hw445_1)).trans hw445_1), ((HB.out.cell (World.block_lt_of_cell? w _ hw445_2)).trans hw445_2), ((HB.out.cell (World.block_lt_of_cell? w _ hw445_3)).trans hw445_3), ((HB.out.cell (World.block_lt_of_cell? w _ hw445_4)).trans hw445_4), ((HB.out.cell (World.block_lt_of_cell? w _ hw447_0)).trans hw447_0), ((HB.out.cell (World.block_lt_of_cell? w _ hw447_1)).trans hw447_1), ((HB.out.cell (World.block_lt_of_cell? w _ hw447_2)).trans hw447_2), ((HB.out.cell (World.block_lt_of_cell? w _ hw447_3)).trans hw447_3), ((HB.out.cell (World.block_lt_of_cell? w _ hw447_4)).trans hw447_4), ((HB.out.cell (World.block_lt_of_cell? w _ hw448_0)).trans hw448_0), ((HB.out.cell (World.block_lt_of_cell? w _ hw448_1)).trans hw448_1), ((HB.out.cell (World.block_lt_of_cell? w _ hw448_2)).trans hw448_2), ((HB.out.cell (World.block_lt_of_cell? w _ hw448_3)).trans hw448_3), ((HB.out.cell (World.block_lt_of_cell? w _ hw448_4)).trans hw448_4)⟩ (fun hHeld => ?_); refine with_tabW spec_IsValidJoiner.tab6 spec_IsValidJoiner.bits6 (fun HT_ HW_ => ?_)
        generalize wr.drew = w10 at BK444 HB HR445_1 HR445_2 HR445_3 HR447_1 HR447_2 HR447_3 HR448_1 HR448_2 HR448_3 hx445_0 hx445_1 hx445_2 hx445_3 hx445_4 hx447_0 hx447_1 hx447_2 hx447_3 hx447_4 hx448_0 hx448_1 hx448_2 hx448_3 hx448_4 hHeld ⊢
        refine pureT (i := 0) (N := some 13) #[true, false, false, false, false, false, false, false, false, false, false, false, false, false, false, false, false, false, false, false, false] (any_of HT_.out (by kernel_rfl)) ?_
        refine pureT (i := 2) (N := some 15) #[true, false, true, false, false, false, false, false, false, false, false, false, false, false, false, false, false, false, false, false, false] (any_of HT_.out (by kernel_rfl)) ?_
        refine take_ (i := 1) (N := some 14) (v := ?_) (a' := ?_) #[true, true, true, false, false, false, false, false, false, false, false, false, false, false, false, false, false, false, false, false, false] rfl rfl (take_ofW HT_.out HW_.out (by kernel_rfl)) (fun _ _ _ h => h) (Or.inl ⟨by rfl, ?_⟩) hHeld ?_ ?_
        rotate_left
        ·
         rintro w' ⟨s0, s1, s2, s3, s4, s5, s6, s7, s8, s9, s10, s11, s12, s13, s14, s15, s16, s17⟩
         go_simp
         with_reducible rfl
        rotate_left
        ·
         simp only [Act.put, List.setIfInBounds_toArray, List.set_cons_zero, List.set_cons_succ, i64_w, i32_w]
         rfl
        refine pureT (i := 3) (N := some 16) #[true, true, true, true, false, false, false, false, false, false, false, false, false, false, false, false, false, false, false, false, false] (any_of HT_.out (by kernel_rfl)) ?_
        refine take_ (i := 4) (N := some 17) (v := ?_) (a' := ?_) #[true, true, true, true, true, false, false, false, false, false, false, false, false, false, false, false, false, false, false, false, false] rfl rfl (take_ofW HT_.out HW_.out (by kernel_rfl)) (fun _ _ _ h => h) (Or.inl ⟨by rfl, ?_⟩) hHeld ?_ ?_
        rotate_left
        ·
         rintro w' ⟨s0, s1, s2, s3, s4, s5, s6, s7, s8, s9, s10, s11, s12, s13, s14, s15, s16, s17⟩
         go_simp
         with_reducible rfl
        rotate_left
        ·
         simp only [Act.put, List.setIfInBounds_toArray, List.set_cons_zero, List.set_cons_succ, i64_w, i32_w]
         rfl
        refine one_ (i := 5) (N := some 18) #[true, true, true, true, true, true, false, false, false, false, false, false, false, false, false, false, false, false, false, false, false] rfl rfl (one_of HT_.out (by kernel_rfl)) (by decide) (fun K hK => ?_)
        refine goes_ Try.func51 (by kernel_rfl) rfl #[.agg #[.int .i64 ((rd_T37 l0_0 x5_1).f0), .slice A445_1 ((rd_T37 l0_0 x5_1).f1).length c445_1, .slice A445_2 ((rd_T37 l0_0 x5_1).f2).length c445_2, .slice A445_3 ((rd_T37 l0_0 x5_1).f3).length c445_3, .int .i64 ((rd_T37 l0_0 x5_1).f4)]] (by rfl) rfl rfl mT ?_
        with_reducible refine (spec_IsValidTask.calls k1 ((rd_T37 l0_0 x5_1).f0) _ _ ((rd_T37 l0_0 x5_1).f1) _ _ ((rd_T37 l0_0 x5_1).f2) _ _ ((rd_T37 l0_0 x5_1).f3) ((rd_T37 l0_0 x5_1).f4) true _ ?side1 ?side2 ?side3 ?side4 ?side5 ?side6 A5.out).mono ?_
        (case side1 => exact cT (Kd.C_below HR445_1.out HB.out))
        (case side2 => exact HC445_1.out)
        (case side3 => exact cT (Kd.C_below HR445_2.out HB.out))
        (case side4 => exact HC445_2.out)
        (case side5 => exact cT (Kd.C_below HR445_3.out HB.out))
        (case side6 => exact HC445_3.out)
        rintro e w11 ⟨rfl, hb⟩
        refine ⟨_, rfl, ?_⟩
        replace BK444 := kB BK444 hb
        replace HB := mA (below_step (bT1 HB GE444) hb)
        (try clear hb)
        (try clear hb2)
        (try clear hk)
        (try clear hi)
        refine hK.out _ _ ⟨(blk_cell BK444.out 0).trans rfl, (blk_cell BK444.out 1).trans rfl, (blk_cell BK444.out 2).trans rfl, ((HB.out.cell (World.block_lt_of_cell? w _ hw445_0)).trans hw445_0), ((HB.out.cell (World.block_lt_of_cell? w _ hw445_1)).trans hw445_1), ((HB.out.cell (World.block_lt_of_cell? w _ hw445_2)).trans hw445_2), ((HB.out.cell (World.block_lt_of_cell? w _ hw445_3)).trans hw445_3), ((HB.out.cell (World.block_lt_of_cell? w _ hw445_4)).trans hw445_4), ((HB.out.cell (World.block_lt_of_cell? w _ hw447_0)).trans hw447_0), ((HB.out.cell (World.block_lt_of_cell? w _ hw447_1)).trans hw447_1), ((HB.out.cell (World.block_lt_of_cell? w _ hw447_2)).trans hw447_2), ((HB.out.cell (World.block_lt_of_cell? w _ hw447_3)).trans hw447_3), ((HB.out.cell (World.block_lt_of_cell? w _ hw447_4)).trans hw447_4), ((HB.out.cell (World.block_lt_of_cell? w _ hw448_0)).trans hw448_0), ((HB.out.cell (World.block_lt_of_cell? w _ hw448_1)).trans hw448_1), ((HB.out.cell (World.block_lt_of_cell? w _ hw448_2)).trans hw448_2), ((HB.out.cell (World.block_lt_of_cell? w _ hw448_3)).trans hw448_3), ((HB.out.cell (World.block_lt_of_cell? w _ hw448_4)).trans hw448_4)⟩ (fun hHeld => ?_)
        clear hK K
        refine norm_ (a' := ?_) ?_ ?_
        rotate_left
        ·
         show Act.put _ (some 18) _ = _
         simp only [Act.put, List.setIfInBounds_toArray, List.set_cons_zero, List.set_cons_succ, i64_w, i32_w]
         rfl
        refine pureT (i := 6) (N := some 19) #[true, true, true, true, true, true, true, false, false, false, false, false, false, false, false, false, false, false, false, false, false] (any_of HT_.out (by kernel_rfl)) ?_
        refine pureT (i := 7) (N := some 20) #[true, true, true, true, true, true, true, true, false, false, false, false, false, false, false, false, false, false, false, false, false] (any_of HT_.out (by kernel_rfl)) ?_
        refine pureT (i := 8) (N := some 21) #[true, true, true, true, true, true, true, true, true, false, false, false, false, false, false, false, false, false, false, false, false] (any_of HT_.out (by kernel_rfl)) ?_
        refine pureT (i := 10) (N := some 23) #[true, true, true, true, true, true, true, true, true, false, true, false, false, false, false, false, false, false, false, false, false] (any_of HT_.out (by kernel_rfl)) ?_
        refine pureT (i := 14) (N := some 27) #[true, true, true, true, true, true, true, true, true, false, true, false, false, false, true, false, false, false, false, false, false] (any_of HT_.out (by kernel_rfl)) ?_
        refine take_ (i := 9) (N := some 22) (v := ?_) (a' := ?_) #[true, true, true, true, true, true, true, true, true, true, true, false, false, false, true, false, false, false, false, false, false] rfl rfl (take_ofW HT_.out HW_.out (by kernel_rfl)) (fun _ _ _ h => h) (Or.inl ⟨by rfl, ?_⟩) hHeld ?_ ?_
        rotate_left
        ·
         rintro w' ⟨s0, s1, s2, s3, s4, s5, s6, s7, s8, s9, s10, s11, s12, s13, s14, s15, s16, s17⟩
         go_simp
         with_reducible rfl
        rotate_left
        ·
         simp only [Act.put, List.setIfInBounds_toArray, List.set_cons_zero, List.set_cons_succ, i64_w, i32_w]
         rfl
        refine pureT (i := 11) (N := some 24) #[true, true, true, true, true, true, true, true, true, true, true, true, false, false, true, false, false, false, false, false, false] (any_of HT_.out (by kernel_rfl)) ?_
        refine pureT (i := 12) (N := some 25) #[true, true, true, true, true, true, true, true, true, true, true, true, true, false, true, false, false, false, false, false, false] (any_of HT_.out (by kernel_rfl)) ?_
        refine take_ (i := 13) (N := some 26) (v := ?_) (a' := ?_) #[true, true, true, true, true, true, true, true, true, true, true, true, true, true, true, false, false, false, false, false, false] rfl rfl (take_ofW HT_.out HW_.out (by kernel_rfl)) (fun _ _ _ h => h) (Or.inl ⟨by rfl, ?_⟩) hHeld ?_ ?_
        rotate_left
        ·
         rintro w' ⟨s0, s1, s2, s3, s4, s5, s6, s7, s8, s9, s10, s11, s12, s13, s14, s15, s16, s17⟩
         go_simp
         with_reducible rfl
        rotate_left
        ·
         simp only [Act.put, List.setIfInBounds_toArray, List.set_cons_zero, List.set_cons_succ, i64_w, i32_w]
         rfl
        refine take_ (i := 15) (N := some 28) (v := ?_) (a' := ?_) #[true, true, true, true, true, true, true, true, true, true, true, true, true, true, true, true, false, false, false, false, false] rfl rfl (take_ofW HT_.out HW_.out (by kernel_rfl)) (fun _ _ _ h => h) (Or.inl ⟨by rfl, ?_⟩) hHeld ?_ ?_
        rotate_left
        ·
         rintro w' ⟨s0, s1, s2, s3, s4, s5, s6, s7, s8, s9, s10, s11, s12, s13, s14, s15, s16, s17⟩
         go_simp
         with_reducible rfl
        rotate_left
        ·
         simp only [Act.put, List.setIfInBounds_toArray, List.set_cons_zero, List.set_cons_succ, i64_w, i32_w]
         rfl
        refine pureT (i := 16) (N := some 29) #[true, true, true, true, true, true, true, true, true, true, true, true, true, true, true, true, true, false, false, false, false] (any_of HT_.out (by kernel_rfl)) ?_
        refine pureT (i := 17) (N := some 30) #[true, true, true, true, true, true, true, true, true, true, true, true, true, true, true, true, true, true, false, false, false] (any_of HT_.out (by kernel_rfl)) ?_
        refine take_ (i := 18) (N := some 31) (v := ?_) (a' := ?_) #[true, true, true, true, true, true, true, true, true, true, true, true, true, true, true, true, true, true, true, false, false] rfl rfl (take_ofW HT_.out HW_.out (by kernel_rfl)) (fun _ _ _ h => h) (Or.inl ⟨by rfl, ?_⟩) hHeld ?_ ?_
        rotate_left
        ·
         rintro w' ⟨s0, s1, s2, s3, s4, s5, s6, s7, s8, s9, s10, s11, s12, s13, s14, s15, s16, s17⟩
         go_simp
         with_reducible rfl
        rotate_left
        ·
         simp only [Act.put, List.setIfInBounds_toArray, List.set_cons_zero, List.set_cons_succ, i64_w, i32_w]
         rfl
        refine pureT (i := 19) (N := some 32) #[true, true, true, true, true, true, true, true, true, true, true, true, true, true, true, true, true, true, true, true, false] (any_of HT_.out (by kernel_rfl)) ?_
        refine pureT (i := 20) (N := some 33) #[true, true, true, true, true, true, true, true, true, true, true, true, true, true, true, true, true, true, true, true, true] (any_of HT_.out (by kernel_rfl)) ?_
        refine done_ (done_of HT_.out (by kernel_rfl)) ?_
        have hcz12_0 : w11.cell? ⟨gb444, 0, none⟩ = some (.slice (some ad445) l0_0.length c0_0) := (blk_cell BK444.out 0).trans rfl
        have hcz12_1 : w11.cell? ⟨gb444, 1, none⟩ = some (.int .i64 a0_1) := (blk_cell BK444.out 1).trans rfl
        have hcz12_2 : w11.cell? ⟨gb444, 2, none⟩ = some (.int .i64 a0_2) := (blk_cell BK444.out 2).trans rfl
        have hfz12_0 := blk_frozen BK444.out 0
        have hfz12_1 := blk_frozen BK444.out 1
        have hfz12_2 := blk_frozen BK444.out 2
        have p449 : 0 ≤ (x5_1 : Int) := of_decide_eq_true aT
        have q449 : x5_1 < (l0_0.length : Int) := of_decide_eq_true aT
        obtain ⟨ad449, A449_1, c449_1, A449_2, c449_2, A449_3, c449_3, e449, hx449_0, hx449_1, hx449_2, hx449_3, hx449_4, hl449_1, hi449_1, hl449_2, hi449_2, hl449_3, hi449_3⟩ := at_T37 HR0_0.out x5_1 p449 q449
        obtain rfl : ad445 = ad449 := (by injection e449)
        replace hx449_0 := (HB.out.cell (World.block_lt_of_cell? w _ hx449_0)).trans hx449_0
        replace hx449_1 := (HB.out.cell (World.block_lt_of_cell? w _ hx449_1)).trans hx449_1
        replace hx449_2 := (HB.out.cell (World.block_lt_of_cell? w _ hx449_2)).trans hx449_2
        replace hx449_3 := (HB.out.cell (World.block_lt_of_cell? w _ hx449_3)).trans hx449_3
        replace hx449_4 := (HB.out.cell (World.block_lt_of_cell? w _ hx449_4)).trans hx449_4
        have HR449_1 := mA hi449_1
        have HC449_1 := mA hl449_1
        clear hi449_1 hl449_1
        have HR449_2 := mA hi449_2
        have HC449_2 := mA hl449_2
        clear hi449_2 hl449_2
        have HR449_3 := mA hi449_3
        have HC449_3 := mA hl449_3
        clear hi449_3 hl449_3
        replace p449 := eq_true p449
        replace q449 := eq_true q449
        first | (have ea_ := Option.some.inj (hx447_1.symm.trans hx449_1)) | (have ea_ := Option.some.inj (((HB.out.cell (World.block_lt_of_cell? w _ hw447_1)).trans hw447_1).symm.trans hx449_1))
        injection ea_ with ea_ en_ ec_
        subst ea_
        subst ec_
        clear en_
        first | (have ea_ := Option.some.inj (hx447_2.symm.trans hx449_2)) | (have ea_ := Option.some.inj (((HB.out.cell (World.block_lt_of_cell? w _ hw447_2)).trans hw447_2).symm.trans hx449_2))
        injection ea_ with ea_ en_ ec_
        subst ea_
        subst ec_
        clear en_
        first | (have ea_ := Option.some.inj (hx447_3.symm.trans hx449_3)) | (have ea_ := Option.some.inj (((HB.out.cell (World.block_lt_of_cell? w _ hw447_3)).trans hw447_3).symm.trans hx449_3))
        injection ea_ with ea_ en_ ec_
        subst ea_
        subst ec_
        clear en_
        have p450 : 0 ≤ (x5_1 : Int) := of_decide_eq_true aT
        have q450 : x5_1 < (l0_0.length : Int) := of_decide_eq_true aT
        obtain ⟨ad450, A450_1, c450_1, A450_2, c450_2, A450_3, c450_3, e450, hx450_0, hx450_1, hx450_2, hx450_3, hx450_4, hl450_1, hi450_1, hl450_2, hi450_2, hl450_3, hi450_3⟩ := at_T37 HR0_0.out x5_1 p450 q450
        obtain rfl : ad445 = ad450 := (by injection e450)
        replace hx450_0 := (HB.out.cell (World.block_lt_of_cell? w _ hx450_0)).trans hx450_0
        replace hx450_1 := (HB.out.cell (World.block_lt_of_cell? w _ hx450_1)).trans hx450_1
        replace hx450_2 := (HB.out.cell (World.block_lt_of_cell? w _ hx450_2)).trans hx450_2
        replace hx450_3 := (HB.out.cell (World.block_lt_of_cell? w _ hx450_3)).trans hx450_3
        replace hx450_4 := (HB.out.cell (World.block_lt_of_cell? w _ hx450_4)).trans hx450_4
        have HR450_1 := mA hi450_1
        have HC450_1 := mA hl450_1
        clear hi450_1 hl450_1
        have HR450_2 := mA hi450_2
        have HC450_2 := mA hl450_2
        clear hi450_2 hl450_2
        have HR450_3 := mA hi450_3
        have HC450_3 := mA hl450_3
        clear hi450_3 hl450_3
        replace p450 := eq_true p450
        replace q450 := eq_true q450
        first | (have ea_ := Option.some.inj (hx447_1.symm.trans hx450_1)) | (have ea_ := Option.some.inj (((HB.out.cell (World.block_lt_of_cell? w _ hw447_1)).trans hw447_1).symm.trans hx450_1))
        injection ea_ with ea_ en_ ec_
        subst ea_
        subst ec_
        clear en_
        first | (have ea_ := Option.some.inj (hx447_2.symm.trans hx450_2)) | (have ea_ := Option.some.inj (((HB.out.cell (World.block_lt_of_cell? w _ hw447_2)).trans hw447_2).symm.trans hx450_2))
        injection ea_ with ea_ en_ ec_
        subst ea_
        subst ec_
        clear en_
        first | (have ea_ := Option.some.inj (hx447_3.symm.trans hx450_3)) | (have ea_ := Option.some.inj (((HB.out.cell (World.block_lt_of_cell? w _ hw447_3)).trans hw447_3).symm.trans hx450_3))
        injection ea_ with ea_ en_ ec_
        subst ea_
        subst ec_
        clear en_
        try go_wp2
        go_roundg k1
        case measure => have := HK1.out; omega
        case rel => exact ⟨(wrap64 (x3_1 + (((rd_T37 l0_0 x5_1).f1).length : Int))), (wrap64 (x4_1 + (((rd_T37 l0_0 x5_1).f2).length : Int))), (wrap64 (x5_1 + 1)), sT, sT, sT, H', ⟨by have := HK1.out; omega⟩, ⟨kT BK444⟩, ⟨bT1 HB GE444⟩⟩
       ·
        rw [if_neg c8] at H
        have c8b0 : (((rd_T37 l0_0 x5_1).f0) == ((rd_T37 l0_0 0).f0)) = false := beq_eq_false_iff_ne.mpr c8
        have c8b1 : (((rd_T37 l0_0 x5_1).f0) != ((rd_T37 l0_0 0).f0)) = true := bne_iff_ne.mpr c8
        obtain rfl := Option.some.inj H
        have hcz13_0 : wr.cell? ⟨gb444, 0, none⟩ = some (.slice A0_0 l0_0.length c0_0) := (blk_cell BK444.out 0).trans rfl
        have hcz13_1 : wr.cell? ⟨gb444, 1, none⟩ = some (.int .i64 a0_1) := (blk_cell BK444.out 1).trans rfl
        have hcz13_2 : wr.cell? ⟨gb444, 2, none⟩ = some (.int .i64 a0_2) := (blk_cell BK444.out 2).trans rfl
        have hfz13_0 := blk_frozen BK444.out 0
        have hfz13_1 := blk_frozen BK444.out 1
        have hfz13_2 := blk_frozen BK444.out 2
        try go_wp2
        replace BK444 := mA (blk_drew BK444.out)
        replace HB := mA (below_drew1 HB.out)
        have p445 : 0 ≤ (x5_1 : Int) := of_decide_eq_true aT
        have q445 : x5_1 < (l0_0.length : Int) := of_decide_eq_true aT
        obtain ⟨ad445, A445_1, c445_1, A445_2, c445_2, A445_3, c445_3, e445, hx445_0, hx445_1, hx445_2, hx445_3, hx445_4, hl445_1, hi445_1, hl445_2, hi445_2, hl445_3, hi445_3⟩ := at_T37 HR0_0.out x5_1 p445 q445
        have hw445_4 := hx445_4
        have hw445_3 := hx445_3
        have hw445_2 := hx445_2
        have hw445_1 := hx445_1
        have hw445_0 := hx445_0
        cases e445
        replace hx445_0 := (HB.out.cell (World.block_lt_of_cell? w _ hx445_0)).trans hx445_0
        replace hx445_1 := (HB.out.cell (World.block_lt_of_cell? w _ hx445_1)).trans hx445_1
        replace hx445_2 := (HB.out.cell (World.block_lt_of_cell? w _ hx445_2)).trans hx445_2
        replace hx445_3 := (HB.out.cell (World.block_lt_of_cell? w _ hx445_3)).trans hx445_3
        replace hx445_4 := (HB.out.cell (World.block_lt_of_cell? w _ hx445_4)).trans hx445_4
        have HR445_1 := mA hi445_1
        have HC445_1 := mA hl445_1
        clear hi445_1 hl445_1
        have HR445_2 := mA hi445_2
        have HC445_2 := mA hl445_2
        clear hi445_2 hl445_2
        have HR445_3 := mA hi445_3
        have HC445_3 := mA hl445_3
        clear hi445_3 hl445_3
        replace p445 := eq_true p445
        replace q445 := eq_true q445
        have p447 : 0 ≤ (x5_1 : Int) := of_decide_eq_true aT
        have q447 : x5_1 < (l0_0.length : Int) := of_decide_eq_true aT
        obtain ⟨ad447, A447_1, c447_1, A447_2, c447_2, A447_3, c447_3, e447, hx447_0, hx447_1, hx447_2, hx447_3, hx447_4, hl447_1, hi447_1, hl447_2, hi447_2, hl447_3, hi447_3⟩ := at_T37 HR0_0.out x5_1 p447 q447
        have hw447_4 := hx447_4
        have hw447_3 := hx447_3
        have hw447_2 := hx447_2
        have hw447_1 := hx447_1
        have hw447_0 := hx447_0
        obtain rfl : ad445 = ad447 := (by injection e447)
        replace hx447_0 := (HB.out.cell (World.block_lt_of_cell? w _ hx447_0)).trans hx447_0
        replace hx447_1 := (HB.out.cell (World.block_lt_of_cell? w _ hx447_1)).trans hx447_1
        replace hx447_2 := (HB.out.cell (World.block_lt_of_cell? w _ hx447_2)).trans hx447_2
        replace hx447_3 := (HB.out.cell (World.block_lt_of_cell? w _ hx447_3)).trans hx447_3
        replace hx447_4 := (HB.out.cell (World.block_lt_of_cell? w _ hx447_4)).trans hx447_4
        have HR447_1 := mA hi447_1
        have HC447_1 := mA hl447_1
        clear hi447_1 hl447_1
        have HR447_2 := mA hi447_2
        have HC447_2 := mA hl447_2
        clear hi447_2 hl447_2
        have HR447_3 := mA hi447_3
        have HC447_3 := mA hl447_3
        clear hi447_3 hl447_3
        replace p447 := eq_true p447
        replace q447 := eq_true q447
        have p448 : 0 ≤ (0 : Int) := (by omega)
        have q448 : 0 < (l0_0.length : Int) := of_decide_eq_true aT
        obtain ⟨ad448, A448_1, c448_1, A448_2, c448_2, A448_3, c448_3, e448, hx448_0, hx448_1, hx448_2, hx448_3, hx448_4, hl448_1, hi448_1, hl448_2, hi448_2, hl448_3, hi448_3⟩ := at_T37 HR0_0.out 0 p448 q448
        have hw448_4 := hx448_4
        (try rw [show ((0 : Int)).toNat = 0 from rfl] at hw448_4)
        (try rw [show 0 * 5 = 0 from rfl] at hw448_4)
        (try rw [Addr.add_zero'] at hw448_4)
        have hw448_3 := hx448_3
        (try rw [show ((0 : Int)).toNat = 0 from rfl] at hw448_3)
        (try rw [show 0 * 5 = 0 from rfl] at hw448_3)
        (try rw [Addr.add_zero'] at hw448_3)
        have hw448_2 := hx448_2
        (try rw [show ((0 : Int)).toNat = 0 from rfl] at hw448_2)
        (try rw [show 0 * 5 = 0 from rfl] at hw448_2)
        (try rw [Addr.add_zero'] at hw448_2)
        have hw448_1 := hx448_1
        (try rw [show ((0 : Int)).toNat = 0 from rfl] at hw448_1)
        (try rw [show 0 * 5 = 0 from rfl] at hw448_1)
        (try rw [Addr.add_zero'] at hw448_1)
        have hw448_0 := hx448_0
        (try rw [show ((0 : Int)).toNat = 0 from rfl] at hw448_0)
        (try rw [show 0 * 5 = 0 from rfl] at hw448_0)
        (try rw [Addr.add_zero'] at hw448_0)
        obtain rfl : ad445 = ad448 := (by injection e448)
        have qi448 : (0 < l0_0.length) = True := eq_true (by omega)
        (try rw [show ((0 : Int)).toNat = 0 from rfl] at hx448_0)
        (try rw [show 0 * 5 = 0 from rfl] at hx448_0)
        (try rw [Addr.add_zero'] at hx448_0)
        (try rw [show ((0 : Int)).toNat = 0 from rfl] at hx448_1)
        (try rw [show 0 * 5 = 0 from rfl] at hx448_1)
        (try rw [Addr.add_zero'] at hx448_1)
        (try rw [show ((0 : Int)).toNat = 0 from rfl] at hx448_2)
        (try rw [show 0 * 5 = 0 from rfl] at hx448_2)
        (try rw [Addr.add_zero'] at hx448_2)
        (try rw [show ((0 : Int)).toNat = 0 from rfl] at hx448_3)
        (try rw [show 0 * 5 = 0 from rfl] at hx448_3)
        (try rw [Addr.add_zero'] at hx448_3)
        (try rw [show ((0 : Int)).toNat = 0 from rfl] at hx448_4)
        (try rw [show 0 * 5 = 0 from rfl] at hx448_4)
        (try rw [Addr.add_zero'] at hx448_4)
        replace hx448_0 := (HB.out.cell (World.block_lt_of_cell? w _ hx448_0)).trans hx448_0
        replace hx448_1 := (HB.out.cell (World.block_lt_of_cell? w _ hx448_1)).trans hx448_1
        replace hx448_2 := (HB.out.cell (World.block_lt_of_cell? w _ hx448_2)).trans hx448_2
        replace hx448_3 := (HB.out.cell (World.block_lt_of_cell? w _ hx448_3)).trans hx448_3
        replace hx448_4 := (HB.out.cell (World.block_lt_of_cell? w _ hx448_4)).trans hx448_4
        have HR448_1 := mA hi448_1
        have HC448_1 := mA hl448_1
        clear hi448_1 hl448_1
        have HR448_2 := mA hi448_2
        have HC448_2 := mA hl448_2
        clear hi448_2 hl448_2
        have HR448_3 := mA hi448_3
        have HC448_3 := mA hl448_3
        clear hi448_3 hl448_3
        replace p448 := eq_true p448
        replace q448 := eq_true q448
        refine start_ (n := 21) (S := fun w' => w'.cell? ⟨gb444, 0, none⟩ = some (.slice (some ad445) l0_0.length c0_0) ∧ w'.cell? ⟨gb444, 1, none⟩ = some (.int .i64 a0_1) ∧ w'.cell? ⟨gb444, 2, none⟩ = some (.int .i64 a0_2) ∧ w'.cell? (ad445.add ((x5_1).toNat * 5)) = some (.int .i64 ((rd_T37 l0_0 x5_1).f0)) ∧ w'.cell? ⟨(ad445.add ((x5_1).toNat * 5)).block, (ad445.add ((x5_1).toNat * 5)).off + 1, none⟩ = some (.slice A445_1 ((rd_T37 l0_0 x5_1).f1).length c445_1) ∧ w'.cell? ⟨(ad445.add ((x5_1).toNat * 5)).block, (ad445.add ((x5_1).toNat * 5)).off + 2, none⟩ = some (.slice A445_2 ((rd_T37 l0_0 x5_1).f2).length c445_2) ∧ w'.cell? ⟨(ad445.add ((x5_1).toNat * 5)).block, (ad445.add ((x5_1).toNat * 5)).off + 3, none⟩ = some (.slice A445_3 ((rd_T37 l0_0 x5_1).f3).length c445_3) ∧ w'.cell? ⟨(ad445.add ((x5_1).toNat * 5)).block, (ad445.add ((x5_1).toNat * 5)).off + 4, none⟩ = some (.int .i64 ((rd_T37 l0_0 x5_1).f4)) ∧ w'.cell? (ad445.add ((x5_1).toNat * 5)) = some (.int .i64 ((rd_T37 l0_0 x5_1).f0)) ∧ w'.cell? ⟨(ad445.add ((x5_1).toNat * 5)).block, (ad445.add ((x5_1).toNat * 5)).off + 1, none⟩ = some (.slice A447_1 ((rd_T37 l0_0 x5_1).f1).length c447_1) ∧ w'.cell? ⟨(ad445.add ((x5_1).toNat * 5)).block, (ad445.add ((x5_1).toNat * 5)).off + 2, none⟩ = some (.slice A447_2 ((rd_T37 l0_0 x5_1).f2).length c447_2) ∧ w'.cell? ⟨(ad445.add ((x5_1).toNat * 5)).block, (ad445.add ((x5_1).toNat * 5)).off + 3, none⟩ = some (.slice A447_3 ((rd_T37 l0_0 x5_1).f3).length c447_3) ∧ w'.cell? ⟨(ad445.add ((x5_1).toNat * 5)).block, (ad445.add ((x5_1).toNat * 5)).off + 4, none⟩ = some (.int .i64 ((rd_T37 l0_0 x5_1).f4)) ∧ w'.cell? ad445 = some (.int .i64 ((rd_T37 l0_0 0).f0)) ∧ w'.cell? ⟨ad445.block, ad445.off + 1, none⟩ = some (.slice A448_1 ((rd_T37 l0_0 0).f1).length c448_1) ∧ w'.cell? ⟨ad445.block, ad445.off + 2, none⟩ = some (.slice A448_2 ((rd_T37 l0_0 0).f2).length c448_2) ∧ w'.cell? ⟨ad445.block, ad445.off + 3, none⟩ = some (.slice A448_3 ((rd_T37 l0_0 0).f3).length c448_3) ∧ w'.cell? ⟨ad445.block, ad445.off + 4, none⟩ = some (.int .i64 ((rd_T37 l0_0 0).f4))) (ds := []) #[false, false, false, false, false, false, false, false, false, false, false, false, false, false, false, false, false, false, false, false, false] (by kernel_rfl) rfl rfl ⟨(blk_cell BK444.out 0).trans rfl, (blk_cell BK444.out 1).trans rfl, (blk_cell BK444.out 2).trans rfl, ((HB.out.cell (World.block_lt_of_cell? w _ hw445_0)).trans hw445_0), ((HB.out.cell (World.block_lt_of_cell? w _ hw445_1)).trans hw445_1), ((HB.out.cell (World.block_lt_of_cell? w _ hw445_2)).trans hw445_2), ((HB.out.cell (World.block_lt_of_cell? w _ hw445_3)).trans hw445_3), ((HB.out.cell (World.block_lt_of_cell? w _ hw445_4)).trans hw445_4), ((HB.out.cell (World.block_lt_of_cell? w _ hw447_0)).trans hw447_0), ((HB.out.cell (World.block_lt_of_cell? w _ hw447_1)).trans hw447_1), ((HB.out.cell (World.block_lt_of_cell? w _ hw447_2)).trans hw447_2), ((HB.out.cell (World.block_lt_of_cell? w _ hw447_3)).trans hw447_3), ((HB.out.cell (World.block_lt_of_cell? w _ hw447_4)).trans hw447_4), ((HB.out.cell (World.block_lt_of_cell? w _ hw448_0)).trans hw448_0), ((HB.out.cell (World.block_lt_of_cell? w _ hw448_1)).trans hw448_1), ((HB.out.cell (World.block_lt_of_cell? w _ hw448_2)).trans hw448_2), ((HB.out.cell (World.block_lt_of_cell? w _ hw448_3)).trans hw448_3), ((HB.out.cell (World.block_lt_of_cell? w _ hw448_4)).trans hw448_4)⟩ (fun hHeld => ?_); refine with_tabW spec_IsValidJoiner.tab6 spec_IsValidJoiner.bits6 (fun HT_ HW_ => ?_)
        generalize wr.drew = w14 at BK444 HB HR445_1 HR445_2 HR445_3 HR447_1 HR447_2 HR447_3 HR448_1 HR448_2 HR448_3 hx445_0 hx445_1 hx445_2 hx445_3 hx445_4 hx447_0 hx447_1 hx447_2 hx447_3 hx447_4 hx448_0 hx448_1 hx448_2 hx448_3 hx448_4 hHeld ⊢
        refine pureT (i := 0) (N := some 13) #[true, false, false, false, false, false, false, false, false, false, false, false, false, false, false, false, false, false, false, false, false] (any_of HT_.out (by kernel_rfl)) ?_
        refine pureT (i := 2) (N := some 15) #[true, false, true, false, false, false, false, false, false, false, false, false, false, false, false, false, false, false, false, false, false] (any_of HT_.out (by kernel_rfl)) ?_
        refine take_ (i := 1) (N := some 14) (v := ?_) (a' := ?_) #[true, true, true, false, false, false, false, false, false, false, false, false, false, false, false, false, false, false, false, false, false] rfl rfl (take_ofW HT_.out HW_.out (by kernel_rfl)) (fun _ _ _ h => h) (Or.inl ⟨by rfl, ?_⟩) hHeld ?_ ?_
        rotate_left
        ·
         rintro w' ⟨s0, s1, s2, s3, s4, s5, s6, s7, s8, s9, s10, s11, s12, s13, s14, s15, s16, s17⟩
         go_simp
         with_reducible rfl
        rotate_left
        ·
         simp only [Act.put, List.setIfInBounds_toArray, List.set_cons_zero, List.set_cons_succ, i64_w, i32_w]
         rfl
        refine pureT (i := 3) (N := some 16) #[true, true, true, true, false, false, false, false, false, false, false, false, false, false, false, false, false, false, false, false, false] (any_of HT_.out (by kernel_rfl)) ?_
        refine take_ (i := 4) (N := some 17) (v := ?_) (a' := ?_) #[true, true, true, true, true, false, false, false, false, false, false, false, false, false, false, false, false, false, false, false, false] rfl rfl (take_ofW HT_.out HW_.out (by kernel_rfl)) (fun _ _ _ h => h) (Or.inl ⟨by rfl, ?_⟩) hHeld ?_ ?_
        rotate_left
        ·
         rintro w' ⟨s0, s1, s2, s3, s4, s5, s6, s7, s8, s9, s10, s11, s12, s13, s14, s15, s16, s17⟩
         go_simp
         with_reducible rfl
        rotate_left
        ·
         simp only [Act.put, List.setIfInBounds_toArray, List.set_cons_zero, List.set_cons_succ, i64_w, i32_w]
         rfl
        refine one_ (i := 5) (N := some 18) #[true, true, true, true, true, true, false, false, false, false, false, false, false, false, false, false, false, false, false, false, false] rfl rfl (one_of HT_.out (by kernel_rfl)) (by decide) (fun K hK => ?_)
        refine goes_ Try.func51 (by kernel_rfl) rfl #[.agg #[.int .i64 ((rd_T37 l0_0 x5_1).f0), .slice A445_1 ((rd_T37 l0_0 x5_1).f1).length c445_1, .slice A445_2 ((rd_T37 l0_0 x5_1).f2).length c445_2, .slice A445_3 ((rd_T37 l0_0 x5_1).f3).length c445_3, .int .i64 ((rd_T37 l0_0 x5_1).f4)]] (by rfl) rfl rfl mT ?_
        with_reducible refine (spec_IsValidTask.calls k1 ((rd_T37 l0_0 x5_1).f0) _ _ ((rd_T37 l0_0 x5_1).f1) _ _ ((rd_T37 l0_0 x5_1).f2) _ _ ((rd_T37 l0_0 x5_1).f3) ((rd_T37 l0_0 x5_1).f4) true _ ?side1 ?side2 ?side3 ?side4 ?side5 ?side6 A5.out).mono ?_
        (case side1 => exact cT (Kd.C_below HR445_1.out HB.out))
        (case side2 => exact HC445_1.out)
        (case side3 => exact cT (Kd.C_below HR445_2.out HB.out))
        (case side4 => exact HC445_2.out)
        (case side5 => exact cT (Kd.C_below HR445_3.out HB.out))
        (case side6 => exact HC445_3.out)
        rintro e w15 ⟨rfl, hb⟩
        refine ⟨_, rfl, ?_⟩
        replace BK444 := kB BK444 hb
        replace HB := mA (below_step (bT1 HB GE444) hb)
        (try clear hb)
        (try clear hb2)
        (try clear hk)
        (try clear hi)
        refine hK.out _ _ ⟨(blk_cell BK444.out 0).trans rfl, (blk_cell BK444.out 1).trans rfl, (blk_cell BK444.out 2).trans rfl, ((HB.out.cell (World.block_lt_of_cell? w _ hw445_0)).trans hw445_0), ((HB.out.cell (World.block_lt_of_cell? w _ hw445_1)).trans hw445_1), ((HB.out.cell (World.block_lt_of_cell? w _ hw445_2)).trans hw445_2), ((HB.out.cell (World.block_lt_of_cell? w _ hw445_3)).trans hw445_3), ((HB.out.cell (World.block_lt_of_cell? w _ hw445_4)).trans hw445_4), ((HB.out.cell (World.block_lt_of_cell? w _ hw447_0)).trans hw447_0), ((HB.out.cell (World.block_lt_of_cell? w _ hw447_1)).trans hw447_1), ((HB.out.cell (World.block_lt_of_cell? w _ hw447_2)).trans hw447_2), ((HB.out.cell (World.block_lt_of_cell? w _ hw447_3)).trans hw447_3), ((HB.out.cell (World.block_lt_of_cell? w _ hw447_4)).trans hw447_4), ((HB.out.cell (World.block_lt_of_cell? w _ hw448_0)).trans hw448_0), ((HB.out.cell (World.block_lt_of_cell? w _ hw448_1)).trans hw448_1), ((HB.out.cell (World.block_lt_of_cell? w _ hw448_2)).trans hw448_2), ((HB.out.cell (World.block_lt_of_cell? w _ hw448_3)).trans hw448_3), ((HB.out.cell (World.block_lt_of_cell? w _ hw448_4)).trans hw448_4)⟩ (fun hHeld => ?_)
        clear hK K
        refine norm_ (a' := ?_) ?_ ?_
        rotate_left
        ·
         show Act.put _ (some 18) _ = _
         simp only [Act.put, List.setIfInBounds_toArray, List.set_cons_zero, List.set_cons_succ, i64_w, i32_w]
         rfl
        refine pureT (i := 6) (N := some 19) #[true, true, true, true, true, true, true, false, false, false, false, false, false, false, false, false, false, false, false, false, false] (any_of HT_.out (by kernel_rfl)) ?_
        refine pureT (i := 7) (N := some 20) #[true, true, true, true, true, true, true, true, false, false, false, false, false, false, false, false, false, false, false, false, false] (any_of HT_.out (by kernel_rfl)) ?_
        refine pureT (i := 8) (N := some 21) #[true, true, true, true, true, true, true, true, true, false, false, false, false, false, false, false, false, false, false, false, false] (any_of HT_.out (by kernel_rfl)) ?_
        refine pureT (i := 10) (N := some 23) #[true, true, true, true, true, true, true, true, true, false, true, false, false, false, false, false, false, false, false, false, false] (any_of HT_.out (by kernel_rfl)) ?_
        refine pureT (i := 14) (N := some 27) #[true, true, true, true, true, true, true, true, true, false, true, false, false, false, true, false, false, false, false, false, false] (any_of HT_.out (by kernel_rfl)) ?_
        refine take_ (i := 9) (N := some 22) (v := ?_) (a' := ?_) #[true, true, true, true, true, true, true, true, true, true, true, false, false, false, true, false, false, false, false, false, false] rfl rfl (take_ofW HT_.out HW_.out (by kernel_rfl)) (fun _ _ _ h => h) (Or.inl ⟨by rfl, ?_⟩) hHeld ?_ ?_
        rotate_left
        ·
         rintro w' ⟨s0, s1, s2, s3, s4, s5, s6, s7, s8, s9, s10, s11, s12, s13, s14, s15, s16, s17⟩
         go_simp
         with_reducible rfl
        rotate_left
        ·
         simp only [Act.put, List.setIfInBounds_toArray, List.set_cons_zero, List.set_cons_succ, i64_w, i32_w]
         rfl
        refine pureT (i := 11) (N := some 24) #[true, true, true, true, true, true, true, true, true, true, true, true, false, false, true, false, false, false, false, false, false] (any_of HT_.out (by kernel_rfl)) ?_
        refine pureT (i := 12) (N := some 25) #[true, true, true, true, true, true, true, true, true, true, true, true, true, false, true, false, false, false, false, false, false] (any_of HT_.out (by kernel_rfl)) ?_
        refine take_ (i := 13) (N := some 26) (v := ?_) (a' := ?_) #[true, true, true, true, true, true, true, true, true, true, true, true, true, true, true, false, false, false, false, false, false] rfl rfl (take_ofW HT_.out HW_.out (by kernel_rfl)) (fun _ _ _ h => h) (Or.inl ⟨by rfl, ?_⟩) hHeld ?_ ?_
        rotate_left
        ·
         rintro w' ⟨s0, s1, s2, s3, s4, s5, s6, s7, s8, s9, s10, s11, s12, s13, s14, s15, s16, s17⟩
         go_simp
         with_reducible rfl
        rotate_left
        ·
         simp only [Act.put, List.setIfInBounds_toArray, List.set_cons_zero, List.set_cons_succ, i64_w, i32_w]
         rfl
        refine take_ (i := 15) (N := some 28) (v := ?_) (a' := ?_) #[true, true, true, true, true, true, true, true, true, true, true, true, true, true, true, true, false, false, false, false, false] rfl rfl (take_ofW HT_.out HW_.out (by kernel_rfl)) (fun _ _ _ h => h) (Or.inl ⟨by rfl, ?_⟩) hHeld ?_ ?_
        rotate_left
        ·
         rintro w' ⟨s0, s1, s2, s3, s4, s5, s6, s7, s8, s9, s10, s11, s12, s13, s14, s15, s16, s17⟩
         go_simp
         with_reducible rfl
        rotate_left
        ·
         simp only [Act.put, List.setIfInBounds_toArray, List.set_cons_zero, List.set_cons_succ, i64_w, i32_w]
         rfl
        refine pureT (i := 16) (N := some 29) #[true, true, true, true, true, true, true, true, true, true, true, true, true, true, true, true, true, false, false, false, false] (any_of HT_.out (by kernel_rfl)) ?_
        refine pureT (i := 17) (N := some 30) #[true, true, true, true, true, true, true, true, true, true, true, true, true, true, true, true, true, true, false, false, false] (any_of HT_.out (by kernel_rfl)) ?_
        refine take_ (i := 18) (N := some 31) (v := ?_) (a' := ?_) #[true, true, true, true, true, true, true, true, true, true, true, true, true, true, true, true, true, true, true, false, false] rfl rfl (take_ofW HT_.out HW_.out (by kernel_rfl)) (fun _ _ _ h => h) (Or.inl ⟨by rfl, ?_⟩) hHeld ?_ ?_
        rotate_left
        ·
         rintro w' ⟨s0, s1, s2, s3, s4, s5, s6, s7, s8, s9, s10, s11, s12, s13, s14, s15, s16, s17⟩
         go_simp
         with_reducible rfl
        rotate_left
        ·
         simp only [Act.put, List.setIfInBounds_toArray, List.set_cons_zero, List.set_cons_succ, i64_w, i32_w]
         rfl
        refine pureT (i := 19) (N := some 32) #[true, true, true, true, true, true, true, true, true, true, true, true, true, true, true, true, true, true, true, true, false] (any_of HT_.out (by kernel_rfl)) ?_
        refine pureT (i := 20) (N := some 33) #[true, true, true, true, true, true, true, true, true, true, true, true, true, true, true, true, true, true, true, true, true] (any_of HT_.out (by kernel_rfl)) ?_
        refine done_ (done_of HT_.out (by kernel_rfl)) ?_
        try go_wp2
        go_ret
        exact ⟨eT, bT1 HB GE444⟩
      ·
       rw [if_neg c7] at H
       exact absurd H (by simp)
     ·
      replace c6 := Bool.eq_false_iff.mpr c6
      subst c6
      rw [if_neg (show ¬ (false = true) by decide)] at H
      obtain rfl := Option.some.inj H
      have hcz16_0 : wr.cell? ⟨gb444, 0, none⟩ = some (.slice A0_0 l0_0.length c0_0) := (blk_cell BK444.out 0).trans rfl
      have hcz16_1 : wr.cell? ⟨gb444, 1, none⟩ = some (.int .i64 a0_1) := (blk_cell BK444.out 1).trans rfl
      have hcz16_2 : wr.cell? ⟨gb444, 2, none⟩ = some (.int .i64 a0_2) := (blk_cell BK444.out 2).trans rfl
      have hfz16_0 := blk_frozen BK444.out 0
      have hfz16_1 := blk_frozen BK444.out 1
      have hfz16_2 := blk_frozen BK444.out 2
      try go_wp2
      replace BK444 := mA (blk_drew BK444.out)
      replace HB := mA (below_drew1 HB.out)
      have p445 : 0 ≤ (x5_1 : Int) := of_decide_eq_true aT
      have q445 : x5_1 < (l0_0.length : Int) := of_decide_eq_true aT
      obtain ⟨ad445, A445_1, c445_1, A445_2, c445_2, A445_3, c445_3, e445, hx445_0, hx445_1, hx445_2, hx445_3, hx445_4, hl445_1, hi445_1, hl445_2, hi445_2, hl445_3, hi445_3⟩ := at_T37 HR0_0.out x5_1 p445 q445
      have hw445_4 := hx445_4
      have hw445_3 := hx445_3
      have hw445_2 := hx445_2
      have hw445_1 := hx445_1
      have hw445_0 := hx445_0
      cases e445
      replace hx445_0 := (HB.out.cell (World.block_lt_of_cell? w _ hx445_0)).trans hx445_0
      replace hx445_1 := (HB.out.cell (World.block_lt_of_cell? w _ hx445_1)).trans hx445_1
      replace hx445_2 := (HB.out.cell (World.block_lt_of_cell? w _ hx445_2)).trans hx445_2
      replace hx445_3 := (HB.out.cell (World.block_lt_of_cell? w _ hx445_3)).trans hx445_3
      replace hx445_4 := (HB.out.cell (World.block_lt_of_cell? w _ hx445_4)).trans hx445_4
      have HR445_1 := mA hi445_1
      have HC445_1 := mA hl445_1
      clear hi445_1 hl445_1
      have HR445_2 := mA hi445_2
      have HC445_2 := mA hl445_2
      clear hi445_2 hl445_2
      have HR445_3 := mA hi445_3
      have HC445_3 := mA hl445_3
      clear hi445_3 hl445_3
      replace p445 := eq_true p445
      replace q445 := eq_true q445
      refine start_ (n := 21) (S := fun w' => w'.cell? ⟨gb444, 0, none⟩ = some (.slice (some ad445) l0_0.length c0_0) ∧ w'.cell? ⟨gb444, 1, none⟩ = some (.int .i64 a0_1) ∧ w'.cell? ⟨gb444, 2, none⟩ = some (.int .i64 a0_2) ∧ w'.cell? (ad445.add ((x5_1).toNat * 5)) = some (.int .i64 ((rd_T37 l0_0 x5_1).f0)) ∧ w'.cell? ⟨(ad445.add ((x5_1).toNat * 5)).block, (ad445.add ((x5_1).toNat * 5)).off + 1, none⟩ = some (.slice A445_1 ((rd_T37 l0_0 x5_1).f1).length c445_1) ∧ w'.cell? ⟨(ad445.add ((x5_1).toNat * 5)).block, (ad445.add ((x5_1).toNat * 5)).off + 2, none⟩ = some (.slice A445_2 ((rd_T37 l0_0 x5_1).f2).length c445_2) ∧ w'.cell? ⟨(ad445.add ((x5_1).toNat * 5)).block, (ad445.add ((x5_1).toNat * 5)).off + 3, none⟩ = some (.slice A445_3 ((rd_T37 l0_0 x5_1).f3).length c445_3) ∧ w'.cell? ⟨(ad445.add ((x5_1).toNat * 5)).block, (ad445.add ((x5_1).toNat * 5)).off + 4, none⟩ = some (.int .i64 ((rd_T37 l0_0 x5_1).f4))) (ds := []) #[false, false, false, false, false, false, false, false, false, false, false, false, false, false, false, false, false, false, false, false, false] (by kernel_rfl) rfl rfl ⟨(blk_cell BK444.out 0).trans rfl, (blk_cell BK444.out 1).trans rfl, (blk_cell BK444.out 2).trans rfl, ((HB.out.cell (World.block_lt_of_cell? w _ hw445_0)).trans hw445_0), ((HB.out.cell (World.block_lt_of_cell? w _ hw445_1)).trans hw445_1), ((HB.out.cell (World.block_lt_of_cell? w _ hw445_2)).trans hw445_2), ((HB.out.cell (World.block_lt_of_cell? w _ hw445_3)).trans hw445_3), ((HB.out.cell (World.block_lt_of_cell? w _ hw445_4)).trans hw445_4)⟩ (fun hHeld => ?_); refine with_tabW spec_IsValidJoiner.tab6 spec_IsValidJoiner.bits6 (fun HT_ HW_ => ?_)
      generalize wr.drew = w17 at BK444 HB HR445_1 HR445_2 HR445_3 hx445_0 hx445_1 hx445_2 hx445_3 hx445_4 hHeld ⊢
      refine pureT (i := 0) (N := some 13) #[true, false, false, false, false, false, false, false, false, false, false, false, false, false, false, false, false, false, false, false, false] (any_of HT_.out (by kernel_rfl)) ?_
      refine pureT (i := 2) (N := some 15) #[true, false, true, false, false, false, false, false, false, false, false, false, false, false, false, false, false, false, false, false, false] (any_of HT_.out (by kernel_rfl)) ?_
      refine take_ (i := 1) (N := some 14) (v := ?_) (a' := ?_) #[true, true, true, false, false, false, false, false, false, false, false, false, false, false, false, false, false, false, false, false, false] rfl rfl (take_ofW HT_.out HW_.out (by kernel_rfl)) (fun _ _ _ h => h) (Or.inl ⟨by rfl, ?_⟩) hHeld ?_ ?_
      rotate_left
      ·
       rintro w' ⟨s0, s1, s2, s3, s4, s5, s6, s7⟩
       go_simp
       with_reducible rfl
      rotate_left
      ·
       simp only [Act.put, List.setIfInBounds_toArray, List.set_cons_zero, List.set_cons_succ, i64_w, i32_w]
       rfl
      refine pureT (i := 3) (N := some 16) #[true, true, true, true, false, false, false, false, false, false, false, false, false, false, false, false, false, false, false, false, false] (any_of HT_.out (by kernel_rfl)) ?_
      refine take_ (i := 4) (N := some 17) (v := ?_) (a' := ?_) #[true, true, true, true, true, false, false, false, false, false, false, false, false, false, false, false, false, false, false, false, false] rfl rfl (take_ofW HT_.out HW_.out (by kernel_rfl)) (fun _ _ _ h => h) (Or.inl ⟨by rfl, ?_⟩) hHeld ?_ ?_
      rotate_left
      ·
       rintro w' ⟨s0, s1, s2, s3, s4, s5, s6, s7⟩
       go_simp
       with_reducible rfl
      rotate_left
      ·
       simp only [Act.put, List.setIfInBounds_toArray, List.set_cons_zero, List.set_cons_succ, i64_w, i32_w]
       rfl
      refine one_ (i := 5) (N := some 18) #[true, true, true, true, true, true, false, false, false, false, false, false, false, false, false, false, false, false, false, false, false] rfl rfl (one_of HT_.out (by kernel_rfl)) (by decide) (fun K hK => ?_)
      refine goes_ Try.func51 (by kernel_rfl) rfl #[.agg #[.int .i64 ((rd_T37 l0_0 x5_1).f0), .slice A445_1 ((rd_T37 l0_0 x5_1).f1).length c445_1, .slice A445_2 ((rd_T37 l0_0 x5_1).f2).length c445_2, .slice A445_3 ((rd_T37 l0_0 x5_1).f3).length c445_3, .int .i64 ((rd_T37 l0_0 x5_1).f4)]] (by rfl) rfl rfl mT ?_
      with_reducible refine (spec_IsValidTask.calls k1 ((rd_T37 l0_0 x5_1).f0) _ _ ((rd_T37 l0_0 x5_1).f1) _ _ ((rd_T37 l0_0 x5_1).f2) _ _ ((rd_T37 l0_0 x5_1).f3) ((rd_T37 l0_0 x5_1).f4) false _ ?side1 ?side2 ?side3 ?side4 ?side5 ?side6 A5.out).mono ?_
      (case side1 => exact cT (Kd.C_below HR445_1.out HB.out))
      (case side2 => exact HC445_1.out)
      (case side3 => exact cT (Kd.C_below HR445_2.out HB.out))
      (case side4 => exact HC445_2.out)
      (case side5 => exact cT (Kd.C_below HR445_3.out HB.out))
      (case side6 => exact HC445_3.out)
      rintro e w18 ⟨rfl, hb⟩
      refine ⟨_, rfl, ?_⟩
      replace BK444 := kB BK444 hb
      replace HB := mA (below_step (bT1 HB GE444) hb)
      (try clear hb)
      (try clear hb2)
      (try clear hk)
      (try clear hi)
      refine hK.out _ _ ⟨(blk_cell BK444.out 0).trans rfl, (blk_cell BK444.out 1).trans rfl, (blk_cell BK444.out 2).trans rfl, ((HB.out.cell (World.block_lt_of_cell? w _ hw445_0)).trans hw445_0), ((HB.out.cell (World.block_lt_of_cell? w _ hw445_1)).trans hw445_1), ((HB.out.cell (World.block_lt_of_cell? w _ hw445_2)).trans hw445_2), ((HB.out.cell (World.block_lt_of_cell? w _ hw445_3)).trans hw445_3), ((HB.out.cell (World.block_lt_of_cell? w _ hw445_4)).trans hw445_4)⟩ (fun hHeld => ?_)
      clear hK K
      refine norm_ (a' := ?_) ?_ ?_
      rotate_left
      ·
       show Act.put _ (some 18) _ = _
       simp only [Act.put, List.setIfInBounds_toArray, List.set_cons_zero, List.set_cons_succ, i64_w, i32_w]
       rfl
      refine pureT (i := 6) (N := some 19) #[true, true, true, true, true, true, true, false, false, false, false, false, false, false, false, false, false, false, false, false, false] (any_of HT_.out (by kernel_rfl)) ?_
      refine pureT (i := 7) (N := some 20) #[true, true, true, true, true, true, true, true, false, false, false, false, false, false, false, false, false, false, false, false, false] (any_of HT_.out (by kernel_rfl)) ?_
      refine pure_ (i := 8) (N := some 21) (v := undef) (a' := ?_) #[true, true, true, true, true, true, true, true, true, false, false, false, false, false, false, false, false, false, false, false, false] rfl rfl (any_of HT_.out (by kernel_rfl)) (fun _ _ _ h => h) (Or.inr ⟨by rfl, rfl⟩) ?_ ?_
      rotate_left
      ·
       simp only [Act.put, List.setIfInBounds_toArray, List.set_cons_zero, List.set_cons_succ, i64_w, i32_w]
       rfl
      refine pure_ (i := 9) (N := some 22) (v := undef) (a' := ?_) #[true, true, true, true, true, true, true, true, true, true, false, false, false, false, false, false, false, false, false, false, false] rfl rfl (any_of HT_.out (by kernel_rfl)) (fun _ _ _ h => h) (Or.inr ⟨by rfl, rfl⟩) ?_ ?_
      rotate_left
      ·
       simp only [Act.put, List.setIfInBounds_toArray, List.set_cons_zero, List.set_cons_succ, i64_w, i32_w]
       rfl
      refine pure_ (i := 10) (N := some 23) (v := undef) (a' := ?_) #[true, true, true, true, true, true, true, true, true, true, true, false, false, false, false, false, false, false, false, false, false] rfl rfl (any_of HT_.out (by kernel_rfl)) (fun _ _ _ h => h) (Or.inr ⟨by rfl, rfl⟩) ?_ ?_
      rotate_left
      ·
       simp only [Act.put, List.setIfInBounds_toArray, List.set_cons_zero, List.set_cons_succ, i64_w, i32_w]
       rfl
      refine pure_ (i := 11) (N := some 24) (v := undef) (a' := ?_) #[true, true, true, true, true, true, true, true, true, true, true, true, false, false, false, false, false, false, false, false, false] rfl rfl (any_of HT_.out (by kernel_rfl)) (fun _ _ _ h => h) (Or.inr ⟨by rfl, rfl⟩) ?_ ?_
      rotate_left
      ·
       simp only [Act.put, List.setIfInBounds_toArray, List.set_cons_zero, List.set_cons_succ, i64_w, i32_w]
       rfl
      refine pure_ (i := 12) (N := some 25) (v := undef) (a' := ?_) #[true, true, true, true, true, true, true, true, true, true, true, true, true, false, false, false, false, false, false, false, false] rfl rfl (any_of HT_.out (by kernel_rfl)) (fun _ _ _ h => h) (Or.inr ⟨by rfl, rfl⟩) ?_ ?_
      rotate_left
      ·
       simp only [Act.put, List.setIfInBounds_toArray, List.set_cons_zero, List.set_cons_succ, i64_w, i32_w]
       rfl
      refine pure_ (i := 13) (N := some 26) (v := undef) (a' := ?_) #[true, true, true, true, true, true, true, true, true, true, true, true, true, true, false, false, false, false, false, false, false] rfl rfl (any_of HT_.out (by kernel_rfl)) (fun _ _ _ h => h) (Or.inr ⟨by rfl, rfl⟩) ?_ ?_
      rotate_left
      ·
       simp only [Act.put, List.setIfInBounds_toArray, List.set_cons_zero, List.set_cons_succ, i64_w, i32_w]
       rfl
      refine pure_ (i := 14) (N := some 27) (v := undef) (a' := ?_) #[true, true, true, true, true, true, true, true, true, true, true, true, true, true, true, false, false, false, false, false, false] rfl rfl (any_of HT_.out (by kernel_rfl)) (fun _ _ _ h => h) (Or.inr ⟨by rfl, rfl⟩) ?_ ?_
      rotate_left
      ·
       simp only [Act.put, List.setIfInBounds_toArray, List.set_cons_zero, List.set_cons_succ, i64_w, i32_w]
       rfl
      refine pure_ (i := 15) (N := some 28) (v := undef) (a' := ?_) #[true, true, true, true, true, true, true, true, true, true, true, true, true, true, true, true, false, false, false, false, false] rfl rfl (any_of HT_.out (by kernel_rfl)) (fun _ _ _ h => h) (Or.inr ⟨by rfl, rfl⟩) ?_ ?_
      rotate_left
      ·
       simp only [Act.put, List.setIfInBounds_toArray, List.set_cons_zero, List.set_cons_succ, i64_w, i32_w]
       rfl
      refine pure_ (i := 16) (N := some 29) (v := undef) (a' := ?_) #[true, true, true, true, true, true, true, true, true, true, true, true, true, true, true, true, true, false, false, false, false] rfl rfl (any_of HT_.out (by kernel_rfl)) (fun _ _ _ h => h) (Or.inr ⟨by rfl, rfl⟩) ?_ ?_
      rotate_left
      ·
       simp only [Act.put, List.setIfInBounds_toArray, List.set_cons_zero, List.set_cons_succ, i64_w, i32_w]
       rfl
      refine pure_ (i := 17) (N := some 30) (v := undef) (a' := ?_) #[true, true, true, true, true, true, true, true, true, true, true, true, true, true, true, true, true, true, false, false, false] rfl rfl (any_of HT_.out (by kernel_rfl)) (fun _ _ _ h => h) (Or.inr ⟨by rfl, rfl⟩) ?_ ?_
      rotate_left
      ·
       simp only [Act.put, List.setIfInBounds_toArray, List.set_cons_zero, List.set_cons_succ, i64_w, i32_w]
       rfl
      refine pure_ (i := 18) (N := some 31) (v := undef) (a' := ?_) #[true, true, true, true, true, true, true, true, true, true, true, true, true, true, true, true, true, true, true, false, false] rfl rfl (any_of HT_.out (by kernel_rfl)) (fun _ _ _ h => h) (Or.inr ⟨by rfl, rfl⟩) ?_ ?_
      rotate_left
      ·
       simp only [Act.put, List.setIfInBounds_toArray, List.set_cons_zero, List.set_cons_succ, i64_w, i32_w]
       rfl
      refine pure_ (i := 19) (N := some 32) (v := undef) (a' := ?_) #[true, true, true, true, true, true, true, true, true, true, true, true, true, true, true, true, true, true, true, true, false] rfl rfl (any_of HT_.out (by kernel_rfl)) (fun _ _ _ h => h) (Or.inr ⟨by rfl, rfl⟩) ?_ ?_
      rotate_left
      ·
       simp only [Act.put, List.setIfInBounds_toArray, List.set_cons_zero, List.set_cons_succ, i64_w, i32_w]
       rfl
      refine pureT (i := 20) (N := some 33) #[true, true, true, true, true, true, true, true, true, true, true, true, true, true, true, true, true, true, true, true, true] (any_of HT_.out (by kernel_rfl)) ?_
      refine done_ (done_of HT_.out (by kernel_rfl)) ?_
      try go_wp2
      go_ret
      exact ⟨eT, bT1 HB GE444⟩
    ·
     rw [if_neg c4] at H
     exact absurd H (by simp)
   ·
    rw [if_neg c3] at H
    have c3b0 : decide (x5_1 < (l0_0.length : Int)) = false := decide_eq_false c3
    clear c3
    by_cases c19 : x3_1 ≤ 24
    ·
     rw [if_pos c19] at H
     have c19b0 : decide (x3_1 ≤ 24) = true := decide_eq_true c19
     clear c19
     by_cases c20 : x4_1 ≤ 24
     ·
      rw [if_pos c20] at H
      have c20b0 : decide (x4_1 ≤ 24) = true := decide_eq_true c20
      clear c20
      by_cases c21 : (l0_0.length : Int) ≤ 40
      ·
       rw [if_pos c21] at H
       have c21b0 : decide ((l0_0.length : Int) ≤ 40) = true := decide_eq_true c21
       have c21b1 : decide (l0_0.length ≤ 40) = true := decide_eq_true (by omega)
       clear c21
       obtain ⟨t451, A22, H⟩ := Option.bind_eq_some_iff.mp H
       replace A22 := mA A22
       try dsimp only at H
       by_cases c23 : t451 = true
       ·
        subst c23
        rw [if_pos rfl] at H
        obtain ⟨t452, A24, H⟩ := Option.bind_eq_some_iff.mp H
        replace A24 := mA A24
        replace H : (some t452) = some r := H
        obtain rfl := Option.some.inj H
        have hcz25_0 : wr.cell? ⟨gb444, 0, none⟩ = some (.slice A0_0 l0_0.length c0_0) := (blk_cell BK444.out 0).trans rfl
        have hcz25_1 : wr.cell? ⟨gb444, 1, none⟩ = some (.int .i64 a0_1) := (blk_cell BK444.out 1).trans rfl
        have hcz25_2 : wr.cell? ⟨gb444, 2, none⟩ = some (.int .i64 a0_2) := (blk_cell BK444.out 2).trans rfl
        have hfz25_0 := blk_frozen BK444.out 0
        have hfz25_1 := blk_frozen BK444.out 1
        have hfz25_2 := blk_frozen BK444.out 2
        go_wp2_with (first | (go_at_call 88; (with_reducible refine (spec_l1In.calls a0_1 0 100000 true _ A22.out).mono ?_); rintro e w' ⟨rfl, ⟨nd, rfl⟩⟩) | (go_at_call 88; (with_reducible refine (spec_l1In.calls a0_2 0 1000 t452 _ A24.out).mono ?_); rintro e w' ⟨rfl, ⟨nd, rfl⟩⟩))
        go_ret
        exact ⟨eT, bT1 HB GE444⟩
       ·
        replace c23 := Bool.eq_false_iff.mpr c23
        subst c23
        rw [if_neg (show ¬ (false = true) by decide)] at H
        obtain rfl := Option.some.inj H
        have hcz26_0 : wr.cell? ⟨gb444, 0, none⟩ = some (.slice A0_0 l0_0.length c0_0) := (blk_cell BK444.out 0).trans rfl
        have hcz26_1 : wr.cell? ⟨gb444, 1, none⟩ = some (.int .i64 a0_1) := (blk_cell BK444.out 1).trans rfl
        have hcz26_2 : wr.cell? ⟨gb444, 2, none⟩ = some (.int .i64 a0_2) := (blk_cell BK444.out 2).trans rfl
        have hfz26_0 := blk_frozen BK444.out 0
        have hfz26_1 := blk_frozen BK444.out 1
        have hfz26_2 := blk_frozen BK444.out 2
        go_wp2_with (first | (go_at_call 88; (with_reducible refine (spec_l1In.calls a0_1 0 100000 false _ A22.out).mono ?_); rintro e w' ⟨rfl, ⟨nd, rfl⟩⟩))
        go_ret
        exact ⟨eT, bT1 HB GE444⟩
      ·
       rw [if_neg c21] at H
       have c21b0 : decide ((l0_0.length : Int) ≤ 40) = false := decide_eq_false c21
       have c21b1 : decide (l0_0.length ≤ 40) = false := decide_eq_false (by omega)
       clear c21
       obtain rfl := Option.some.inj H
       have hcz27_0 : wr.cell? ⟨gb444, 0, none⟩ = some (.slice A0_0 l0_0.length c0_0) := (blk_cell BK444.out 0).trans rfl
       have hcz27_1 : wr.cell? ⟨gb444, 1, none⟩ = some (.int .i64 a0_1) := (blk_cell BK444.out 1).trans rfl
       have hcz27_2 : wr.cell? ⟨gb444, 2, none⟩ = some (.int .i64 a0_2) := (blk_cell BK444.out 2).trans rfl
       have hfz27_0 := blk_frozen BK444.out 0
       have hfz27_1 := blk_frozen BK444.out 1
       have hfz27_2 := blk_frozen BK444.out 2
       go_wp2
       go_ret
       exact ⟨eT, bT1 HB GE444⟩
     ·
      rw [if_neg c20] at H
      have c20b0 : decide (x4_1 ≤ 24) = false := decide_eq_false c20
      clear c20
      obtain rfl := Option.some.inj H
      have hcz28_0 : wr.cell? ⟨gb444, 0, none⟩ = some (.slice A0_0 l0_0.length c0_0) := (blk_cell BK444.out 0).trans rfl
      have hcz28_1 : wr.cell? ⟨gb444, 1, none⟩ = some (.int .i64 a0_1) := (blk_cell BK444.out 1).trans rfl
      have hcz28_2 : wr.cell? ⟨gb444, 2, none⟩ = some (.int .i64 a0_2) := (blk_cell BK444.out 2).trans rfl
      have hfz28_0 := blk_frozen BK444.out 0
      have hfz28_1 := blk_frozen BK444.out 1
      have hfz28_2 := blk_frozen BK444.out 2
      go_wp2
      go_ret
      exact ⟨eT, bT1 HB GE444⟩
    ·
     rw [if_neg c19] at H
     have c19b0 : decide (x3_1 ≤ 24) = false := decide_eq_false c19
     clear c19
     obtain rfl := Option.some.inj H
     have hcz29_0 : wr.cell? ⟨gb444, 0, none⟩ = some (.slice A0_0 l0_0.length c0_0) := (blk_cell BK444.out 0).trans rfl
     have hcz29_1 : wr.cell? ⟨gb444, 1, none⟩ = some (.int .i64 a0_1) := (blk_cell BK444.out 1).trans rfl
     have hcz29_2 : wr.cell? ⟨gb444, 2, none⟩ = some (.int .i64 a0_2) := (blk_cell BK444.out 2).trans rfl
     have hfz29_0 := blk_frozen BK444.out 0
     have hfz29_1 := blk_frozen BK444.out 1
     have hfz29_2 := blk_frozen BK444.out 2
     go_wp2
     go_ret
     exact ⟨eT, bT1 HB GE444⟩

/-! ### spec_FormatJoiner: function 26 -/
def spec_FormatJoiner.l0 : Nat → ByteArray → Int → List (S37) → Int → Int → Option (ByteArray)
 | 0, _, _, _, _, _ => none
 | k + 1, x3, x4, x454000, x454001, x454002 => if x4 < (x454000.length : Int) then (if x3.size + 1 ≤ 9223372036854775807 then (if 0 ≤ x4 then ((spec_FormatTask.f k ((rd_T37 x454000 x4).f0) ((rd_T37 x454000 x4).f1) ((rd_T37 x454000 x4).f2) ((rd_T37 x454000 x4).f3) ((rd_T37 x454000 x4).f4)).bind fun t458 => (if (x3 ++ (⟨#[47]⟩ : ByteArray)).size + t458.size ≤ 9223372036854775807 then (spec_FormatJoiner.l0 k ((x3 ++ (⟨#[47]⟩ : ByteArray)) ++ t458) (wrap64 (x4 + 1)) x454000 x454001 x454002) else (none))) else (none)) else (none)) else (some x3)
def spec_FormatJoiner.f (k : Nat) (l0_0 : List (S37)) (a0_1 : Int) (a0_2 : Int) : Option (ByteArray) := (spec_IsValidJoiner.f k l0_0 a0_1 a0_2).bind fun t454 => (if t454 = true then ((spec_FormatInt.f k a0_1).bind fun t455 => (if t455.size + 1 ≤ 9223372036854775807 then ((spec_FormatInt.f k a0_2).bind fun t456 => (if (t455 ++ (⟨#[47]⟩ : ByteArray)).size + t456.size ≤ 9223372036854775807 then (spec_FormatJoiner.l0 k ((t455 ++ (⟨#[47]⟩ : ByteArray)) ++ t456) 0 l0_0 a0_1 a0_2) else (none))) else (none))) else (some (⟨#[]⟩ : ByteArray)))
theorem spec_FormatJoiner.mono_l : ∀ k, (∀ y0 y1 y2 y3 y4, LeO (spec_FormatJoiner.l0 k y0 y1 y2 y3 y4) (spec_FormatJoiner.l0 (k + 1) y0 y1 y2 y3 y4))
 | 0 => fun _ _ _ _ _ r h => by simp [spec_FormatJoiner.l0] at h
 | k + 1 => by
  have ih0 := spec_FormatJoiner.mono_l k
  ·
   intro y0 y1 y2 y3 y4
   unfold spec_FormatJoiner.l0
   repeat' first
   | (with_reducible exact ih0 _ _ _ _ _)
   | (with_reducible exact spec_FormatInt.mono _ _)
   | (with_reducible exact spec_FormatTask.mono _ _ _ _ _ _)
   | (with_reducible exact spec_IsValidJoiner.mono _ _ _ _)
   | (with_reducible exact LeO.refl _)
   | (with_reducible exact LeO.none _)
   | (with_reducible refine LeO.ite ?_ ?_)
   | (with_reducible refine LeO.bind ?_ (fun _ => ?_))
   | exact ih0 _ _ _ _ _
   | exact spec_FormatInt.mono _ _
   | exact spec_FormatTask.mono _ _ _ _ _ _
   | exact spec_IsValidJoiner.mono _ _ _ _
   | exact LeO.none _
   | refine LeO.ite ?_ ?_
   | refine LeO.bind ?_ (fun _ => ?_)
theorem spec_FormatJoiner.mono : ∀ a0 a1 a2 k, LeO (spec_FormatJoiner.f k a0 a1 a2) (spec_FormatJoiner.f (k + 1) a0 a1 a2) := by
 intro a0 a1 a2 k
 have ih0 := spec_FormatJoiner.mono_l k
 unfold spec_FormatJoiner.f
 repeat' first
   | (with_reducible exact ih0 _ _ _ _ _)
   | (with_reducible exact spec_FormatInt.mono _ _)
   | (with_reducible exact spec_FormatTask.mono _ _ _ _ _ _)
   | (with_reducible exact spec_IsValidJoiner.mono _ _ _ _)
   | (with_reducible exact LeO.refl _)
   | (with_reducible exact LeO.none _)
   | (with_reducible refine LeO.ite ?_ ?_)
   | (with_reducible refine LeO.bind ?_ (fun _ => ?_))
   | exact ih0 _ _ _ _ _
   | exact spec_FormatInt.mono _ _
   | exact spec_FormatTask.mono _ _ _ _ _ _
   | exact spec_IsValidJoiner.mono _ _ _ _
   | exact LeO.none _
   | refine LeO.ite ?_ ?_
   | refine LeO.bind ?_ (fun _ => ?_)
def spec_FormatJoiner.T3 : Bool × List (List Nat × List Nat) := (true, [([], []), ([0], [0]), ([1], [1]), ([2], [2]), ([], []), ([4], [4]), ([5, 2], [5]), ([3, 6], [3, 6]), ([7, 6, 0, 1, 2, 3, 4, 5, 6, 7], [7])])
def spec_FormatJoiner.B3 : List Nat := [0, 1, 3, 7, 0, 16, 55, 127, 255]
theorem spec_FormatJoiner.tab3 : rtab .any (opsOf Try.f26 3) = spec_FormatJoiner.T3 := by kernel_rfl
theorem spec_FormatJoiner.bits3 : waitsOk spec_FormatJoiner.T3.2 spec_FormatJoiner.B3 = true := by kernel_rfl
set_option maxHeartbeats 8000000 in
set_option maxRecDepth 100000 in
theorem spec_FormatJoiner.calls (k : Nat) (A0_0 : Option Addr) (c0_0 : Nat) (l0_0 : List (S37)) (a0_1 : Int) (a0_2 : Int) (r : ByteArray) (w : World) (hr0_0 : Kd.C k37 w A0_0 l0_0.length l0_0) (hc0_0 : l0_0.length ≤ c0_0) (h : spec_FormatJoiner.f k l0_0 a0_1 a0_2 = some r) :
  Calls Try.prog 26 #[.agg #[.slice A0_0 l0_0.length c0_0, .int .i64 a0_1, .int .i64 a0_2]] w fun e w' => e = .returned (.string r) ∧ Below w.heap.size w w' := by
 have hu59 := Try.underlying59
 have hu37 := Try.underlying37
 have HR0_0 := mA hr0_0
 have HC0_0 := mA hc0_0
 clear hr0_0 hc0_0
 have HB := mA (Below.refl w.heap.size w)
 have H : ((spec_IsValidJoiner.f k l0_0 a0_1 a0_2).bind fun t454 => (if t454 = true then ((spec_FormatInt.f k a0_1).bind fun t455 => (if t455.size + 1 ≤ 9223372036854775807 then ((spec_FormatInt.f k a0_2).bind fun t456 => (if (t455 ++ (⟨#[47]⟩ : ByteArray)).size + t456.size ≤ 9223372036854775807 then (spec_FormatJoiner.l0 k ((t455 ++ (⟨#[47]⟩ : ByteArray)) ++ t456) 0 l0_0 a0_1 a0_2) else (none))) else (none))) else (some (⟨#[]⟩ : ByteArray)))) = some r := h
 clear h
 obtain ⟨t454, A2, H⟩ := Option.bind_eq_some_iff.mp H
 replace A2 := mA A2
 try dsimp only at H
 by_cases c3 : t454 = true
 ·
  subst c3
  rw [if_pos rfl] at H
  obtain ⟨t455, A4, H⟩ := Option.bind_eq_some_iff.mp H
  replace A4 := mA A4
  try dsimp only at H
  by_cases c5 : t455.size + 1 ≤ 9223372036854775807
  ·
   rw [if_pos c5] at H
   have c5b0 := eq_true c5
   have c5b1 : decide (t455.size + 1 ≤ 9223372036854775807) = true := decide_eq_true c5
   try have c5b2 : (9223372036854775807 < t455.size + 1) = False := eq_false (Nat.not_lt.2 c5)
   obtain ⟨t456, A6, H⟩ := Option.bind_eq_some_iff.mp H
   replace A6 := mA A6
   try dsimp only at H
   by_cases c7 : (t455 ++ (⟨#[47]⟩ : ByteArray)).size + t456.size ≤ 9223372036854775807
   ·
    rw [if_pos c7] at H
    have c7b0 := eq_true c7
    have c7b1 : decide ((t455 ++ (⟨#[47]⟩ : ByteArray)).size + t456.size ≤ 9223372036854775807) = true := decide_eq_true c7
    try have c7b2 : (9223372036854775807 < (t455 ++ (⟨#[47]⟩ : ByteArray)).size + t456.size) = False := eq_false (Nat.not_lt.2 c7)
    try have c7b3 : (9223372036854775807 < t455.size + 1 + t456.size) = False := szF c7
    have H' := mA H
    clear H
    go_enter Try.func26, Try.ntmps26
    try go_wp2_with (first | ((with_reducible refine gate_dst (N := 1) rfl ?_); refine boxT 1 #[.slice A0_0 l0_0.length c0_0, .int .i64 a0_1, .int .i64 a0_2] 59 ?_; intro gb453 hg w8 hbox hb; have BK453 := mA (hbox); have GW453 := mA ((by rw [hg]; exact (below_size (bT HB)) : w.heap.size ≤ gb453)); have GE453 := GW453; replace HB := mA (below_step (bT HB) hb); clear hb hbox hg; obtain ⟨hcz9_0, hcz9_1, hcz9_2, hfz9_0, hfz9_1, hfz9_2⟩ := blk3 BK453.out) | ((with_reducible refine gate_callee (f := 65) rfl ?_); refine goesT (some 6) Try.func65 #[.agg #[.slice A0_0 l0_0.length c0_0, .int .i64 a0_1, .int .i64 a0_2]] ?_; (with_reducible refine (spec_IsValidJoiner.calls k _ _ l0_0 a0_1 a0_2 true _ ?side1 ?side2 A2.out).mono ?_); (case side1 => exact cT (Kd.C_below HR0_0.out HB.out)); (case side2 => exact HC0_0.out); rintro e w10 ⟨rfl, hb⟩; refine ⟨_, rfl, ?_⟩; replace BK453 := kB BK453 hb; replace HB := mA (below_step (bT1 HB GE453) hb); (try clear hb)))
    replace BK453 := mA (blk_drew BK453.out)
    replace HB := mA (below_drew1 HB.out)
    refine start_ (n := 9) (S := fun w' => w'.cell? ⟨gb453, 0, none⟩ = some (.slice A0_0 l0_0.length c0_0) ∧ w'.cell? ⟨gb453, 1, none⟩ = some (.int .i64 a0_1) ∧ w'.cell? ⟨gb453, 2, none⟩ = some (.int .i64 a0_2)) (ds := []) #[false, false, false, false, false, false, false, false, false] (by kernel_rfl) rfl rfl ⟨(blk_cell BK453.out 0).trans rfl, (blk_cell BK453.out 1).trans rfl, (blk_cell BK453.out 2).trans rfl⟩ (fun hHeld => ?_); refine with_tabW spec_FormatJoiner.tab3 spec_FormatJoiner.bits3 (fun HT_ HW_ => ?_)
    generalize w10.drew = w11 at BK453 HB hHeld ⊢
    refine pureT (i := 0) (N := some 8) #[true, false, false, false, false, false, false, false, false] (any_of HT_.out (by kernel_rfl)) ?_
    refine pureT (i := 4) (N := some 12) #[true, false, false, false, true, false, false, false, false] (any_of HT_.out (by kernel_rfl)) ?_
    refine take_ (i := 1) (N := some 9) (v := ?_) (a' := ?_) #[true, true, false, false, true, false, false, false, false] rfl rfl (take_ofW HT_.out HW_.out (by kernel_rfl)) (fun _ _ _ h => h) (Or.inl ⟨by rfl, ?_⟩) hHeld ?_ ?_
    rotate_left
    ·
     rintro w' ⟨s0, s1, s2⟩
     go_simp
     with_reducible rfl
    rotate_left
    ·
     simp only [Act.put, List.setIfInBounds_toArray, List.set_cons_zero, List.set_cons_succ, i64_w, i32_w]
     rfl
    refine take_ (i := 5) (N := some 13) (v := ?_) (a' := ?_) #[true, true, false, false, true, true, false, false, false] rfl rfl (take_ofW HT_.out HW_.out (by kernel_rfl)) (fun _ _ _ h => h) (Or.inl ⟨by rfl, ?_⟩) hHeld ?_ ?_
    rotate_left
    ·
     rintro w' ⟨s0, s1, s2⟩
     go_simp
     with_reducible rfl
    rotate_left
    ·
     simp only [Act.put, List.setIfInBounds_toArray, List.set_cons_zero, List.set_cons_succ, i64_w, i32_w]
     rfl
    refine one_ (i := 2) (N := some 10) #[true, true, true, false, true, true, false, false, false] rfl rfl (one_of HT_.out (by kernel_rfl)) (by decide) (fun K hK => ?_)
    refine goes_ Try.func42 (by kernel_rfl) rfl #[.int .i64 a0_1] (by rfl) rfl rfl mT ?_
    with_reducible refine (spec_FormatInt.calls k a0_1 t455 _ A4.out).mono ?_
    rintro e w12 ⟨rfl, hb⟩
    refine ⟨_, rfl, ?_⟩
    replace BK453 := kB BK453 hb
    replace HB := mA (below_step (bT1 HB GE453) hb)
    (try clear hb)
    (try clear hb2)
    (try clear hk)
    (try clear hi)
    refine hK.out _ _ ⟨(blk_cell BK453.out 0).trans rfl, (blk_cell BK453.out 1).trans rfl, (blk_cell BK453.out 2).trans rfl⟩ (fun hHeld => ?_)
    clear hK K
    refine norm_ (a' := ?_) ?_ ?_
    rotate_left
    ·
     show Act.put _ (some 10) _ = _
     simp only [Act.put, List.setIfInBounds_toArray, List.set_cons_zero, List.set_cons_succ, i64_w, i32_w]
     rfl
    refine pureT (i := 3) (N := some 11) #[true, true, true, true, true, true, false, false, false] (any_of HT_.out (by kernel_rfl)) ?_
    refine one_ (i := 6) (N := some 14) #[true, true, true, true, true, true, true, false, false] rfl rfl (one_of HT_.out (by kernel_rfl)) (by decide) (fun K hK => ?_)
    refine goes_ Try.func42 (by kernel_rfl) rfl #[.int .i64 a0_2] (by rfl) rfl rfl mT ?_
    with_reducible refine (spec_FormatInt.calls k a0_2 t456 _ A6.out).mono ?_
    rintro e w13 ⟨rfl, hb⟩
    refine ⟨_, rfl, ?_⟩
    replace BK453 := kB BK453 hb
    replace HB := mA (below_step (bT1 HB GE453) hb)
    (try clear hb)
    (try clear hb2)
    (try clear hk)
    (try clear hi)
    refine hK.out _ _ ⟨(blk_cell BK453.out 0).trans rfl, (blk_cell BK453.out 1).trans rfl, (blk_cell BK453.out 2).trans rfl⟩ (fun hHeld => ?_)
    clear hK K
    refine norm_ (a' := ?_) ?_ ?_
    rotate_left
    ·
     show Act.put _ (some 14) _ = _
     simp only [Act.put, List.setIfInBounds_toArray, List.set_cons_zero, List.set_cons_succ, i64_w, i32_w]
     rfl
    refine pureT (i := 7) (N := some 15) #[true, true, true, true, true, true, true, true, false] (any_of HT_.out (by kernel_rfl)) ?_
    refine pureT (i := 8) (N := some 3) #[true, true, true, true, true, true, true, true, true] (any_of HT_.out (by kernel_rfl)) ?_
    refine done_ (done_of HT_.out (by kernel_rfl)) ?_
    try go_wp2
    go_loopg [3, 4] k (fun kq v3 v4 w' => ∃ (x3_1 : ByteArray) (x4_1 : Int), v3 = .string x3_1 ∧ v4 = .int .i64 x4_1 ∧ Aside0 (spec_FormatJoiner.l0 kq x3_1 x4_1 l0_0 a0_1 a0_2 = some r) ∧ Aside0 (kq ≤ k) ∧ Aside0 (w'.heap[gb453]? = some (.cells #[(.slice A0_0 l0_0.length c0_0), .int .i64 a0_1, .int .i64 a0_2] 59 (0, 0))) ∧ Aside0 (Below w.heap.size w w'))
    case atStart => exact ⟨((t455 ++ (⟨#[47]⟩ : ByteArray)) ++ t456), (0), sT, sT, H', ⟨Nat.le_refl _⟩, ⟨kT BK453⟩, ⟨bT1 HB GE453⟩⟩
    case round =>
     clear H'
     try clear c2
     try clear p2
     try clear c3
     try clear c4
     try clear c5
     try clear c5b0
     try clear c5b1
     try clear c5b2
     try clear c6
     try clear c7
     try clear c7b0
     try clear c7b1
     try clear c7b2
     try clear hcz9_0
     try clear hcz9_1
     try clear hcz9_2
     try clear hfz9_0
     try clear hfz9_1
     try clear hfz9_2
     obtain ⟨x3_1, x4_1, rfl, rfl, HA, HK1, BK453, HB⟩ := hrel
     cases gk with
     | zero => exact absurd HA.out (by simp [spec_FormatJoiner.l0])
     | succ k1 =>
      have H := HA.out
      clear HA
      simp only [spec_FormatJoiner.l0] at H
      by_cases c14 : x4_1 < (l0_0.length : Int)
      ·
       rw [if_pos c14] at H
       have c14b0 : decide (x4_1 < (l0_0.length : Int)) = true := decide_eq_true c14
       clear c14
       by_cases c15 : x3_1.size + 1 ≤ 9223372036854775807
       ·
        rw [if_pos c15] at H
        have c15b0 := eq_true c15
        have c15b1 : decide (x3_1.size + 1 ≤ 9223372036854775807) = true := decide_eq_true c15
        try have c15b2 : (9223372036854775807 < x3_1.size + 1) = False := eq_false (Nat.not_lt.2 c15)
        by_cases c16 : 0 ≤ x4_1
        ·
         rw [if_pos c16] at H
         have c16b0 : decide (0 ≤ x4_1) = true := decide_eq_true c16
         clear c16
         obtain ⟨t458, A17, H⟩ := Option.bind_eq_some_iff.mp H
         replace A17 := mA A17
         try dsimp only at H
         by_cases c18 : (x3_1 ++ (⟨#[47]⟩ : ByteArray)).size + t458.size ≤ 9223372036854775807
         ·
          rw [if_pos c18] at H
          have c18b0 := eq_true c18
          have c18b1 : decide ((x3_1 ++ (⟨#[47]⟩ : ByteArray)).size + t458.size ≤ 9223372036854775807) = true := decide_eq_true c18
          try have c18b2 : (9223372036854775807 < (x3_1 ++ (⟨#[47]⟩ : ByteArray)).size + t458.size) = False := eq_false (Nat.not_lt.2 c18)
          try have c18b3 : (9223372036854775807 < x3_1.size + 1 + t458.size) = False := szF c18
          have H' := mA H
          clear H
          have hcz19_0 : wr.cell? ⟨gb453, 0, none⟩ = some (.slice A0_0 l0_0.length c0_0) := (blk_cell BK453.out 0).trans rfl
          have hcz19_1 : wr.cell? ⟨gb453, 1, none⟩ = some (.int .i64 a0_1) := (blk_cell BK453.out 1).trans rfl
          have hcz19_2 : wr.cell? ⟨gb453, 2, none⟩ = some (.int .i64 a0_2) := (blk_cell BK453.out 2).trans rfl
          have hfz19_0 := blk_frozen BK453.out 0
          have hfz19_1 := blk_frozen BK453.out 1
          have hfz19_2 := blk_frozen BK453.out 2
          have p457 : 0 ≤ (x4_1 : Int) := of_decide_eq_true aT
          have q457 : x4_1 < (l0_0.length : Int) := of_decide_eq_true aT
          obtain ⟨ad457, A457_1, c457_1, A457_2, c457_2, A457_3, c457_3, e457, hx457_0, hx457_1, hx457_2, hx457_3, hx457_4, hl457_1, hi457_1, hl457_2, hi457_2, hl457_3, hi457_3⟩ := at_T37 HR0_0.out x4_1 p457 q457
          cases e457
          replace hx457_0 := (HB.out.cell (World.block_lt_of_cell? w _ hx457_0)).trans hx457_0
          replace hx457_1 := (HB.out.cell (World.block_lt_of_cell? w _ hx457_1)).trans hx457_1
          replace hx457_2 := (HB.out.cell (World.block_lt_of_cell? w _ hx457_2)).trans hx457_2
          replace hx457_3 := (HB.out.cell (World.block_lt_of_cell? w _ hx457_3)).trans hx457_3
          replace hx457_4 := (HB.out.cell (World.block_lt_of_cell? w _ hx457_4)).trans hx457_4
          have HR457_1 := mA hi457_1
          have HC457_1 := mA hl457_1
          clear hi457_1 hl457_1
          have HR457_2 := mA hi457_2
          have HC457_2 := mA hl457_2
          clear hi457_2 hl457_2
          have HR457_3 := mA hi457_3
          have HC457_3 := mA hl457_3
          clear hi457_3 hl457_3
          replace p457 := eq_true p457
          replace q457 := eq_true q457
          go_wp2_with (first | ((with_reducible refine gate_callee (f := 16) rfl ?_); refine goesT (some 30) Try.func16 #[.agg #[.int .i64 ((rd_T37 l0_0 x4_1).f0), .slice A457_1 ((rd_T37 l0_0 x4_1).f1).length c457_1, .slice A457_2 ((rd_T37 l0_0 x4_1).f2).length c457_2, .slice A457_3 ((rd_T37 l0_0 x4_1).f3).length c457_3, .int .i64 ((rd_T37 l0_0 x4_1).f4)]] ?_; (with_reducible refine (spec_FormatTask.calls k1 ((rd_T37 l0_0 x4_1).f0) _ _ ((rd_T37 l0_0 x4_1).f1) _ _ ((rd_T37 l0_0 x4_1).f2) _ _ ((rd_T37 l0_0 x4_1).f3) ((rd_T37 l0_0 x4_1).f4) t458 _ ?side1 ?side2 ?side3 ?side4 ?side5 ?side6 A17.out).mono ?_); (case side1 => exact cT (Kd.C_below HR457_1.out HB.out)); (case side2 => exact HC457_1.out); (case side3 => exact cT (Kd.C_below HR457_2.out HB.out)); (case side4 => exact HC457_2.out); (case side5 => exact cT (Kd.C_below HR457_3.out HB.out)); (case side6 => exact HC457_3.out); rintro e w20 ⟨rfl, hb⟩; refine ⟨_, rfl, ?_⟩; replace BK453 := kB BK453 hb; replace HB := mA (below_step (bT1 HB GE453) hb); (try clear hb)))
          go_roundg k1
          case measure => have := HK1.out; omega
          case rel => exact ⟨((x3_1 ++ (⟨#[47]⟩ : ByteArray)) ++ t458), (wrap64 (x4_1 + 1)), sT, sT, H', ⟨by have := HK1.out; omega⟩, ⟨kT BK453⟩, ⟨bT1 HB GE453⟩⟩
         ·
          rw [if_neg c18] at H
          exact absurd H (by simp)
        ·
         rw [if_neg c16] at H
         exact absurd H (by simp)
       ·
        rw [if_neg c15] at H
        exact absurd H (by simp)
      ·
       rw [if_neg c14] at H
       have c14b0 : decide (x4_1 < (l0_0.length : Int)) = false := decide_eq_false c14
       clear c14
       obtain rfl := Option.some.inj H
       have hcz21_0 : wr.cell? ⟨gb453, 0, none⟩ = some (.slice A0_0 l0_0.length c0_0) := (blk_cell BK453.out 0).trans rfl
       have hcz21_1 : wr.cell? ⟨gb453, 1, none⟩ = some (.int .i64 a0_1) := (blk_cell BK453.out 1).trans rfl
       have hcz21_2 : wr.cell? ⟨gb453, 2, none⟩ = some (.int .i64 a0_2) := (blk_cell BK453.out 2).trans rfl
       have hfz21_0 := blk_frozen BK453.out 0
       have hfz21_1 := blk_frozen BK453.out 1
       have hfz21_2 := blk_frozen BK453.out 2
       go_wp2
       go_ret
       exact ⟨eT, bT1 HB GE453⟩
   ·
    rw [if_neg c7] at H
    exact absurd H (by simp)
  ·
   rw [if_neg c5] at H
   exact absurd H (by simp)
 ·
  replace c3 := Bool.eq_false_iff.mpr c3
  subst c3
  rw [if_neg (show ¬ (false = true) by decide)] at H
  obtain rfl := Option.some.inj H
  go_enter Try.func26, Try.ntmps26
  go_wp2_with (first | ((with_reducible refine gate_dst (N := 1) rfl ?_); refine boxT 1 #[.slice A0_0 l0_0.length c0_0, .int .i64 a0_1, .int .i64 a0_2] 59 ?_; intro gb453 hg w22 hbox hb; have BK453 := mA (hbox); have GW453 := mA ((by rw [hg]; exact (below_size (bT HB)) : w.heap.size ≤ gb453)); have GE453 := GW453; replace HB := mA (below_step (bT HB) hb); clear hb hbox hg; obtain ⟨hcz23_0, hcz23_1, hcz23_2, hfz23_0, hfz23_1, hfz23_2⟩ := blk3 BK453.out) | ((with_reducible refine gate_callee (f := 65) rfl ?_); refine goesT (some 6) Try.func65 #[.agg #[.slice A0_0 l0_0.length c0_0, .int .i64 a0_1, .int .i64 a0_2]] ?_; (with_reducible refine (spec_IsValidJoiner.calls k _ _ l0_0 a0_1 a0_2 false _ ?side1 ?side2 A2.out).mono ?_); (case side1 => exact cT (Kd.C_below HR0_0.out HB.out)); (case side2 => exact HC0_0.out); rintro e w24 ⟨rfl, hb⟩; refine ⟨_, rfl, ?_⟩; replace HB := mA (below_step (bT1 HB GE453) hb); (try clear hb)))
  go_ret
  exact ⟨eT, bT1 HB GE453⟩

/-! ### impl_IsValidJoiner: function 67 -/
mutual
def impl_IsValidJoiner.j0 : Nat → Bool → List (S37) → Int → Int → Option (Bool)
 | 0, _, _, _, _ => none
 | k + 1, x22, x482000, x482001, x482002 => if x22 = true then (some false) else (impl_IsValidJoiner.l0 k 0 0 x482000 (x482000.length : Int) 0 x482000 x482001 x482002)
def impl_IsValidJoiner.l0 : Nat → Int → Int → List (S37) → Int → Int → List (S37) → Int → Int → Option (Bool)
 | 0, _, _, _, _, _, _, _, _ => none
 | k + 1, x3, x4, x24, x25, x26, x482000, x482001, x482002 => if x26 < x25 then (if 0 ≤ x26 then (if x26 < (x24.length : Int) then ((impl_IsValidTask.f k ((rd_T37 x24 x26).f0) ((rd_T37 x24 x26).f1) ((rd_T37 x24 x26).f2) ((rd_T37 x24 x26).f3) ((rd_T37 x24 x26).f4)).bind fun t486 => (if t486 = true then (if 0 < (x482000.length : Int) then (if ((rd_T37 x24 x26).f0) = ((rd_T37 x482000 0).f0) then (impl_IsValidJoiner.l0 k (wrap64 (x3 + (((rd_T37 x24 x26).f1).length : Int))) (wrap64 (x4 + (((rd_T37 x24 x26).f2).length : Int))) x24 x25 (wrap64 (x26 + 1)) x482000 x482001 x482002) else (some false)) else (none)) else (some false))) else (none)) else (none)) else (if x3 ≤ 24 then (some (decide (x4 ≤ 24))) else (some false))
end
def impl_IsValidJoiner.f (k : Nat) (l0_0 : List (S37)) (a0_1 : Int) (a0_2 : Int) : Option (Bool) := if (l0_0.length : Int) > 40 then (impl_IsValidJoiner.j0 k true l0_0 a0_1 a0_2) else ((impl_within.f a0_1 0 100000).bind fun t482 => (if t482 = true then ((impl_within.f a0_2 0 1000).bind fun t483 => (impl_IsValidJoiner.j0 k (!t483) l0_0 a0_1 a0_2)) else (impl_IsValidJoiner.j0 k true l0_0 a0_1 a0_2)))
theorem impl_IsValidJoiner.mono_l : ∀ k, (∀ y0 y1 y2 y3, LeO (impl_IsValidJoiner.j0 k y0 y1 y2 y3) (impl_IsValidJoiner.j0 (k + 1) y0 y1 y2 y3)) ∧ (∀ y0 y1 y2 y3 y4 y5 y6 y7, LeO (impl_IsValidJoiner.l0 k y0 y1 y2 y3 y4 y5 y6 y7) (impl_IsValidJoiner.l0 (k + 1) y0 y1 y2 y3 y4 y5 y6 y7))
 | 0 => ⟨fun _ _ _ _ r h => by simp [impl_IsValidJoiner.j0] at h, fun _ _ _ _ _ _ _ _ r h => by simp [impl_IsValidJoiner.l0] at h⟩
 | k + 1 => by
  obtain ⟨ih0, ih1⟩ := impl_IsValidJoiner.mono_l k
  refine ⟨?_, ?_⟩
  ·
   intro y0 y1 y2 y3
   unfold impl_IsValidJoiner.j0
   repeat' first
   | (with_reducible exact ih0 _ _ _ _)
   | (with_reducible exact ih1 _ _ _ _ _ _ _ _)
   | (with_reducible exact impl_IsValidTask.mono _ _ _ _ _ _)
   | (with_reducible exact LeO.refl _)
   | (with_reducible exact LeO.none _)
   | (with_reducible refine LeO.ite ?_ ?_)
   | (with_reducible refine LeO.bind ?_ (fun _ => ?_))
   | exact ih0 _ _ _ _
   | exact ih1 _ _ _ _ _ _ _ _
   | exact impl_IsValidTask.mono _ _ _ _ _ _
   | exact LeO.none _
   | refine LeO.ite ?_ ?_
   | refine LeO.bind ?_ (fun _ => ?_)
  ·
   intro y0 y1 y2 y3 y4 y5 y6 y7
   unfold impl_IsValidJoiner.l0
   repeat' first
   | (with_reducible exact ih0 _ _ _ _)
   | (with_reducible exact ih1 _ _ _ _ _ _ _ _)
   | (with_reducible exact impl_IsValidTask.mono _ _ _ _ _ _)
   | (with_reducible exact LeO.refl _)
   | (with_reducible exact LeO.none _)
   | (with_reducible refine LeO.ite ?_ ?_)
   | (with_reducible refine LeO.bind ?_ (fun _ => ?_))
   | exact ih0 _ _ _ _
   | exact ih1 _ _ _ _ _ _ _ _
   | exact impl_IsValidTask.mono _ _ _ _ _ _
   | exact LeO.none _
   | refine LeO.ite ?_ ?_
   | refine LeO.bind ?_ (fun _ => ?_)
theorem impl_IsValidJoiner.mono : ∀ a0 a1 a2 k, LeO (impl_IsValidJoiner.f k a0 a1 a2) (impl_IsValidJoiner.f (k + 1) a0 a1 a2) := by
 intro a0 a1 a2 k
 obtain ⟨ih0, ih1⟩ := impl_IsValidJoiner.mono_l k
 unfold impl_IsValidJoiner.f
 repeat' first
   | (with_reducible exact ih0 _ _ _ _)
   | (with_reducible exact ih1 _ _ _ _ _ _ _ _)
   | (with_reducible exact impl_IsValidTask.mono _ _ _ _ _ _)
   | (with_reducible exact LeO.refl _)
   | (with_reducible exact LeO.none _)
   | (with_reducible refine LeO.ite ?_ ?_)
   | (with_reducible refine LeO.bind ?_ (fun _ => ?_))
   | exact ih0 _ _ _ _
   | exact ih1 _ _ _ _ _ _ _ _
   | exact impl_IsValidTask.mono _ _ _ _ _ _
   | exact LeO.none _
   | refine LeO.ite ?_ ?_
   | refine LeO.bind ?_ (fun _ => ?_)
def impl_IsValidJoiner.T7 : Bool × List (List Nat × List Nat) := (true, [([], []), ([0], [0]), ([1], [1]), ([2, 1], [2]), ([3], [3]), ([4, 3], [3, 4]), ([3], [3]), ([6, 3], [3, 6]), ([7, 3], [3, 7]), ([8, 3], [3, 8]), ([9, 3], [3, 9]), ([5, 10, 3], [3, 5, 10]), ([3, 11], [3, 11])])
def impl_IsValidJoiner.B7 : List Nat := [0, 1, 3, 7, 15, 31, 15, 79, 207, 463, 975, 2047, 4095]
theorem impl_IsValidJoiner.tab7 : rtab .any (opsOf Try.f67 7) = impl_IsValidJoiner.T7 := by kernel_rfl
theorem impl_IsValidJoiner.bits7 : waitsOk impl_IsValidJoiner.T7.2 impl_IsValidJoiner.B7 = true := by kernel_rfl
set_option maxHeartbeats 8000000 in
set_option maxRecDepth 100000 in
theorem impl_IsValidJoiner.calls (k : Nat) (A0_0 : Option Addr) (c0_0 : Nat) (l0_0 : List (S37)) (a0_1 : Int) (a0_2 : Int) (r : Bool) (w : World) (hr0_0 : Kd.C k37 w A0_0 l0_0.length l0_0) (hc0_0 : l0_0.length ≤ c0_0) (h : impl_IsValidJoiner.f k l0_0 a0_1 a0_2 = some r) :
  Calls Try.prog 67 #[.agg #[.slice A0_0 l0_0.length c0_0, .int .i64 a0_1, .int .i64 a0_2]] w fun e w' => e = .returned (.bool r) ∧ Below w.heap.size w w' := by
 have hu59 := Try.underlying59
 have hu37 := Try.underlying37
 have HR0_0 := mA hr0_0
 have HC0_0 := mA hc0_0
 clear hr0_0 hc0_0
 have HB := mA (Below.refl w.heap.size w)
 have H : (if (l0_0.length : Int) > 40 then (impl_IsValidJoiner.j0 k true l0_0 a0_1 a0_2) else ((impl_within.f a0_1 0 100000).bind fun t482 => (if t482 = true then ((impl_within.f a0_2 0 1000).bind fun t483 => (impl_IsValidJoiner.j0 k (!t483) l0_0 a0_1 a0_2)) else (impl_IsValidJoiner.j0 k true l0_0 a0_1 a0_2)))) = some r := h
 clear h
 have HC2 := mA H
 clear H
 go_enter Try.func67, Try.ntmps67
 go_upto_region 1 with (first | ((with_reducible refine gate_dst (N := 1) rfl ?_); refine boxT 1 #[.slice A0_0 l0_0.length c0_0, .int .i64 a0_1, .int .i64 a0_2] 59 ?_; intro gb481 hg w3 hbox hb; have BK481 := mA (hbox); have GW481 := mA ((by rw [hg]; exact (below_size (bT HB)) : w.heap.size ≤ gb481)); have GE481 := GW481; replace HB := mA (below_step (bT HB) hb); clear hb hbox hg))
 (try simp only [Act.put, List.setIfInBounds_toArray, List.set_cons_zero, List.set_cons_succ])
 go_cut [22] (fun v22 wc => ∃ (kq : Nat) (x22_1 : Bool), v22 = .bool x22_1 ∧ Aside0 (impl_IsValidJoiner.j0 kq x22_1 l0_0 a0_1 a0_2 = some r) ∧ Aside0 (kq ≤ k) ∧ Aside0 (wc.heap[gb481]? = some (.cells #[(.slice A0_0 l0_0.length c0_0), .int .i64 a0_1, .int .i64 a0_2] 59 (0, 0))) ∧ Aside0 (Below w.heap.size w wc))
 case first =>
  have H := HC2.out
  clear HC2
  by_cases c4 : (l0_0.length : Int) > 40
  ·
   rw [if_pos c4] at H
   have c4b0 : decide (40 < (l0_0.length : Int)) = true := decide_eq_true c4
   have c4b1 : decide (40 < l0_0.length) = true := decide_eq_true (by omega)
   clear c4
   (first | rw [c4b0] | (simp only [i64_w, i32_w]; rw [c4b0]) | skip)
   have H' := mA H
   clear H
   have hcz5_0 : w3.cell? ⟨gb481, 0, none⟩ = some (.slice A0_0 l0_0.length c0_0) := (blk_cell BK481.out 0).trans rfl
   have hcz5_1 : w3.cell? ⟨gb481, 1, none⟩ = some (.int .i64 a0_1) := (blk_cell BK481.out 1).trans rfl
   have hcz5_2 : w3.cell? ⟨gb481, 2, none⟩ = some (.int .i64 a0_2) := (blk_cell BK481.out 2).trans rfl
   have hfz5_0 := blk_frozen BK481.out 0
   have hfz5_1 := blk_frozen BK481.out 1
   have hfz5_2 := blk_frozen BK481.out 2
   go_wp2
   go_meet
   case rel => exact ⟨_, (true), sT, H', ⟨by first | omega | exact Nat.le_refl _⟩, ⟨kT BK481⟩, ⟨bT1 HB GE481⟩⟩
  ·
   rw [if_neg c4] at H
   have c4b0 : decide (40 < (l0_0.length : Int)) = false := decide_eq_false c4
   have c4b1 : decide (40 < l0_0.length) = false := decide_eq_false (by omega)
   clear c4
   (first | rw [c4b0] | (simp only [i64_w, i32_w]; rw [c4b0]) | skip)
   obtain ⟨t482, A6, H⟩ := Option.bind_eq_some_iff.mp H
   replace A6 := mA A6
   try dsimp only at H
   by_cases c7 : t482 = true
   ·
    subst c7
    rw [if_pos rfl] at H
    obtain ⟨t483, A8, H⟩ := Option.bind_eq_some_iff.mp H
    replace A8 := mA A8
    replace H : (impl_IsValidJoiner.j0 k (!t483) l0_0 a0_1 a0_2) = some r := H
    have H' := mA H
    clear H
    have hcz9_0 : w3.cell? ⟨gb481, 0, none⟩ = some (.slice A0_0 l0_0.length c0_0) := (blk_cell BK481.out 0).trans rfl
    have hcz9_1 : w3.cell? ⟨gb481, 1, none⟩ = some (.int .i64 a0_1) := (blk_cell BK481.out 1).trans rfl
    have hcz9_2 : w3.cell? ⟨gb481, 2, none⟩ = some (.int .i64 a0_2) := (blk_cell BK481.out 2).trans rfl
    have hfz9_0 := blk_frozen BK481.out 0
    have hfz9_1 := blk_frozen BK481.out 1
    have hfz9_2 := blk_frozen BK481.out 2
    go_wp2_with (first | (go_at_call 93; (with_reducible refine (impl_within.calls a0_1 0 100000 true _ A6.out).mono ?_); rintro e w' ⟨rfl, ⟨nd, rfl⟩⟩) | (go_at_call 93; (with_reducible refine (impl_within.calls a0_2 0 1000 t483 _ A8.out).mono ?_); rintro e w' ⟨rfl, ⟨nd, rfl⟩⟩))
    go_meet
    case rel => exact ⟨_, (!t483), sT, H', ⟨by first | omega | exact Nat.le_refl _⟩, ⟨kT BK481⟩, ⟨bT1 HB GE481⟩⟩
   ·
    replace c7 := Bool.eq_false_iff.mpr c7
    subst c7
    rw [if_neg (show ¬ (false = true) by decide)] at H
    have H' := mA H
    clear H
    have hcz10_0 : w3.cell? ⟨gb481, 0, none⟩ = some (.slice A0_0 l0_0.length c0_0) := (blk_cell BK481.out 0).trans rfl
    have hcz10_1 : w3.cell? ⟨gb481, 1, none⟩ = some (.int .i64 a0_1) := (blk_cell BK481.out 1).trans rfl
    have hcz10_2 : w3.cell? ⟨gb481, 2, none⟩ = some (.int .i64 a0_2) := (blk_cell BK481.out 2).trans rfl
    have hfz10_0 := blk_frozen BK481.out 0
    have hfz10_1 := blk_frozen BK481.out 1
    have hfz10_2 := blk_frozen BK481.out 2
    go_wp2_with (first | (go_at_call 93; (with_reducible refine (impl_within.calls a0_1 0 100000 false _ A6.out).mono ?_); rintro e w' ⟨rfl, ⟨nd, rfl⟩⟩))
    go_meet
    case rel => exact ⟨_, (true), sT, H', ⟨by first | omega | exact Nat.le_refl _⟩, ⟨kT BK481⟩, ⟨bT1 HB GE481⟩⟩
 case rest =>
  clear HC2
  try clear p2
  try clear c4
  try clear c4b0
  try clear c4b1
  try clear c6
  try clear c7
  try clear hcz10_0
  try clear hcz10_1
  try clear hcz10_2
  try clear hcz5_0
  try clear hcz5_1
  try clear hcz5_2
  try clear hcz9_0
  try clear hcz9_1
  try clear hcz9_2
  try clear hfz10_0
  try clear hfz10_1
  try clear hfz10_2
  try clear hfz5_0
  try clear hfz5_1
  try clear hfz5_2
  try clear hfz9_0
  try clear hfz9_1
  try clear hfz9_2
  obtain ⟨kq, x22_1, rfl, HA, HJ1, BK481, HB⟩ := hcut
  cases kq with
  | zero => exact absurd HA.out (by simp [impl_IsValidJoiner.j0])
  | succ kj1 =>
   have H := HA.out
   clear HA
   simp only [impl_IsValidJoiner.j0] at H
   by_cases c11 : x22_1 = true
   ·
    subst c11
    rw [if_pos rfl] at H
    obtain rfl := Option.some.inj H
    go_wp2
    go_ret
    exact ⟨eT, bT1 HB GE481⟩
   ·
    replace c11 := Bool.eq_false_iff.mpr c11
    subst c11
    rw [if_neg (show ¬ (false = true) by decide)] at H
    have H' := mA H
    clear H
    have hcz12_0 : wc.cell? ⟨gb481, 0, none⟩ = some (.slice A0_0 l0_0.length c0_0) := (blk_cell BK481.out 0).trans rfl
    have hcz12_1 : wc.cell? ⟨gb481, 1, none⟩ = some (.int .i64 a0_1) := (blk_cell BK481.out 1).trans rfl
    have hcz12_2 : wc.cell? ⟨gb481, 2, none⟩ = some (.int .i64 a0_2) := (blk_cell BK481.out 2).trans rfl
    have hfz12_0 := blk_frozen BK481.out 0
    have hfz12_1 := blk_frozen BK481.out 1
    have hfz12_2 := blk_frozen BK481.out 2
    go_wp2
    go_loopg [3, 4, 26] kj1 (fun kq v3 v4 v26 w' => ∃ (x3_2 : Int) (x4_2 : Int) (x26_2 : Int), v3 = .int .i64 x3_2 ∧ v4 = .int .i64 x4_2 ∧ v26 = .int .i64 x26_2 ∧ Aside0 (impl_IsValidJoiner.l0 kq x3_2 x4_2 l0_0 (l0_0.length : Int) x26_2 l0_0 a0_1 a0_2 = some r) ∧ Aside0 (kq ≤ kj1) ∧ Aside0 (w'.heap[gb481]? = some (.cells #[(.slice A0_0 l0_0.length c0_0), .int .i64 a0_1, .int .i64 a0_2] 59 (0, 0))) ∧ Aside0 (Below w.heap.size w w'))
    case atStart => exact ⟨(0), (0), (0), sT, sT, sT, H', ⟨Nat.le_refl _⟩, ⟨kT BK481⟩, ⟨bT1 HB GE481⟩⟩
    case round =>
     clear H'
     try clear c1
     try clear p2
     try clear c4
     try clear c4b0
     try clear c4b1
     try clear c6
     try clear c7
     try clear c11
     try clear hcz10_0
     try clear hcz10_1
     try clear hcz10_2
     try clear hcz12_0
     try clear hcz12_1
     try clear hcz12_2
     try clear hcz5_0
     try clear hcz5_1
     try clear hcz5_2
     try clear hcz9_0
     try clear hcz9_1
     try clear hcz9_2
     try clear hfz10_0
     try clear hfz10_1
     try clear hfz10_2
     try clear hfz12_0
     try clear hfz12_1
     try clear hfz12_2
     try clear hfz5_0
     try clear hfz5_1
     try clear hfz5_2
     try clear hfz9_0
     try clear hfz9_1
     try clear hfz9_2
     try clear p2
     obtain ⟨x3_2, x4_2, x26_2, rfl, rfl, rfl, HA, HK2, BK481, HB⟩ := hrel
     cases gk with
     | zero => exact absurd HA.out (by simp [impl_IsValidJoiner.l0])
     | succ k2 =>
      have H := HA.out
      clear HA
      simp only [impl_IsValidJoiner.l0] at H
      by_cases c13 : x26_2 < (l0_0.length : Int)
      ·
       rw [if_pos c13] at H
       have c13b0 : decide (x26_2 < (l0_0.length : Int)) = true := decide_eq_true c13
       clear c13
       by_cases c14 : 0 ≤ x26_2
       ·
        rw [if_pos c14] at H
        have c14b0 : decide (0 ≤ x26_2) = true := decide_eq_true c14
        clear c14
        by_cases c15 : x26_2 < (l0_0.length : Int)
        ·
         rw [if_pos c15] at H
         have c15b0 : decide (x26_2 < (l0_0.length : Int)) = true := decide_eq_true c15
         clear c15
         obtain ⟨t486, A16, H⟩ := Option.bind_eq_some_iff.mp H
         replace A16 := mA A16
         try dsimp only at H
         by_cases c17 : t486 = true
         ·
          subst c17
          rw [if_pos rfl] at H
          by_cases c18 : 0 < (l0_0.length : Int)
          ·
           rw [if_pos c18] at H
           have c18b0 : decide (0 < (l0_0.length : Int)) = true := decide_eq_true c18
           have c18b1 : decide (0 < l0_0.length) = true := decide_eq_true (by omega)
           clear c18
           by_cases c19 : ((rd_T37 l0_0 x26_2).f0) = ((rd_T37 l0_0 0).f0)
           ·
            rw [if_pos c19] at H
            have c19b0 : (((rd_T37 l0_0 x26_2).f0) == ((rd_T37 l0_0 0).f0)) = true := beq_iff_eq.mpr c19
            have c19b1 : (((rd_T37 l0_0 x26_2).f0) != ((rd_T37 l0_0 0).f0)) = false := bne_eq_false_iff_eq.mpr c19
            clear c19
            have H' := mA H
            clear H
            have p484 : 0 ≤ (x26_2 : Int) := of_decide_eq_true aT
            have q484 : x26_2 < (l0_0.length : Int) := of_decide_eq_true aT
            obtain ⟨ad484, A484_1, c484_1, A484_2, c484_2, A484_3, c484_3, e484, hx484_0, hx484_1, hx484_2, hx484_3, hx484_4, hl484_1, hi484_1, hl484_2, hi484_2, hl484_3, hi484_3⟩ := at_T37 HR0_0.out x26_2 p484 q484
            cases e484
            replace hx484_0 := (HB.out.cell (World.block_lt_of_cell? w _ hx484_0)).trans hx484_0
            replace hx484_1 := (HB.out.cell (World.block_lt_of_cell? w _ hx484_1)).trans hx484_1
            replace hx484_2 := (HB.out.cell (World.block_lt_of_cell? w _ hx484_2)).trans hx484_2
            replace hx484_3 := (HB.out.cell (World.block_lt_of_cell? w _ hx484_3)).trans hx484_3
            replace hx484_4 := (HB.out.cell (World.block_lt_of_cell? w _ hx484_4)).trans hx484_4
            have HR484_1 := mA hi484_1
            have HC484_1 := mA hl484_1
            clear hi484_1 hl484_1
            have HR484_2 := mA hi484_2
            have HC484_2 := mA hl484_2
            clear hi484_2 hl484_2
            have HR484_3 := mA hi484_3
            have HC484_3 := mA hl484_3
            clear hi484_3 hl484_3
            replace p484 := eq_true p484
            replace q484 := eq_true q484
            try go_wp2_with (first | ((with_reducible refine gate_dst (N := 6) rfl ?_); refine boxT 6 #[.int .i64 0, .slice none 0 0, .slice none 0 0, .slice none 0 0, .int .i64 0] 37 ?_; intro gb485 hg w20 hbox hb; have BK485 := mA (hbox); have GW485 := mA ((by rw [hg]; exact (below_size (bT1 HB GE481)) : w.heap.size ≤ gb485)); have GE485 := GW485; replace HB := mA (below_step (bT1 HB GE481) hb); have NB481_485 : Aside0 (gb481 ≠ gb485) := nL BK481 hg; have NB485_481 : Aside0 (gb485 ≠ gb481) := nG BK481 hg; replace BK481 := kB BK481 hb; clear hb hbox hg; have hnb21 := NB485_481.out; have hnc21 := NB481_485.out; obtain ⟨hcz22_0, hcz22_1, hcz22_2, hcz22_3, hcz22_4, hfz22_0, hfz22_1, hfz22_2, hfz22_3, hfz22_4⟩ := blk5 BK485.out))
            have n0_ : Aside0 ((((((w20.setCell ⟨gb485, 0, none⟩ (.int .i64 ((rd_T37 l0_0 x26_2).f0))).setCell ⟨gb485, 1, none⟩ (.slice A484_1 ((rd_T37 l0_0 x26_2).f1).length c484_1)).setCell ⟨gb485, 2, none⟩ (.slice A484_2 ((rd_T37 l0_0 x26_2).f2).length c484_2)).setCell ⟨gb485, 3, none⟩ (.slice A484_3 ((rd_T37 l0_0 x26_2).f3).length c484_3)).setCell ⟨gb485, 4, none⟩ (.int .i64 ((rd_T37 l0_0 x26_2).f4))).heap[gb481]? = some (.cells #[.slice (some ad484) l0_0.length c0_0, .int .i64 a0_1, .int .i64 a0_2] 59 (0, 0))) := ⟨by (with_reducible repeat (first | refine blk_drewN ?_ _ | refine blk_drew ?_ | refine blk_alloc ?_ _)); refine blk_far ?_ NB481_485.out _; (with_reducible repeat (first | refine blk_drewN ?_ _ | refine blk_drew ?_ | refine blk_alloc ?_ _)); refine blk_far ?_ NB481_485.out _; (with_reducible repeat (first | refine blk_drewN ?_ _ | refine blk_drew ?_ | refine blk_alloc ?_ _)); refine blk_far ?_ NB481_485.out _; (with_reducible repeat (first | refine blk_drewN ?_ _ | refine blk_drew ?_ | refine blk_alloc ?_ _)); refine blk_far ?_ NB481_485.out _; (with_reducible repeat (first | refine blk_drewN ?_ _ | refine blk_drew ?_ | refine blk_alloc ?_ _)); refine blk_far ?_ NB481_485.out _; (with_reducible repeat (first | refine blk_drewN ?_ _ | refine blk_drew ?_ | refine blk_alloc ?_ _)); exact BK481.out⟩
            have n1_ : Aside0 ((((((w20.setCell ⟨gb485, 0, none⟩ (.int .i64 ((rd_T37 l0_0 x26_2).f0))).setCell ⟨gb485, 1, none⟩ (.slice A484_1 ((rd_T37 l0_0 x26_2).f1).length c484_1)).setCell ⟨gb485, 2, none⟩ (.slice A484_2 ((rd_T37 l0_0 x26_2).f2).length c484_2)).setCell ⟨gb485, 3, none⟩ (.slice A484_3 ((rd_T37 l0_0 x26_2).f3).length c484_3)).setCell ⟨gb485, 4, none⟩ (.int .i64 ((rd_T37 l0_0 x26_2).f4))).heap[gb485]? = some (.cells #[.int .i64 ((rd_T37 l0_0 x26_2).f0), .slice A484_1 ((rd_T37 l0_0 x26_2).f1).length c484_1, .slice A484_2 ((rd_T37 l0_0 x26_2).f2).length c484_2, .slice A484_3 ((rd_T37 l0_0 x26_2).f3).length c484_3, .int .i64 ((rd_T37 l0_0 x26_2).f4)] 37 (0, 0))) := ⟨by (with_reducible repeat (first | refine blk_drewN ?_ _ | refine blk_drew ?_ | refine blk_alloc ?_ _)); refine blk_put (cs := #[.int .i64 ((rd_T37 l0_0 x26_2).f0), .slice A484_1 ((rd_T37 l0_0 x26_2).f1).length c484_1, .slice A484_2 ((rd_T37 l0_0 x26_2).f2).length c484_2, .slice A484_3 ((rd_T37 l0_0 x26_2).f3).length c484_3, .int .i64 0]) ?_ 4 _ rfl; (with_reducible repeat (first | refine blk_drewN ?_ _ | refine blk_drew ?_ | refine blk_alloc ?_ _)); refine blk_put (cs := #[.int .i64 ((rd_T37 l0_0 x26_2).f0), .slice A484_1 ((rd_T37 l0_0 x26_2).f1).length c484_1, .slice A484_2 ((rd_T37 l0_0 x26_2).f2).length c484_2, .slice none 0 0, .int .i64 0]) ?_ 3 _ rfl; (with_reducible repeat (first | refine blk_drewN ?_ _ | refine blk_drew ?_ | refine blk_alloc ?_ _)); refine blk_put (cs := #[.int .i64 ((rd_T37 l0_0 x26_2).f0), .slice A484_1 ((rd_T37 l0_0 x26_2).f1).length c484_1, .slice none 0 0, .slice none 0 0, .int .i64 0]) ?_ 2 _ rfl; (with_reducible repeat (first | refine blk_drewN ?_ _ | refine blk_drew ?_ | refine blk_alloc ?_ _)); refine blk_put (cs := #[.int .i64 ((rd_T37 l0_0 x26_2).f0), .slice none 0 0, .slice none 0 0, .slice none 0 0, .int .i64 0]) ?_ 1 _ rfl; (with_reducible repeat (first | refine blk_drewN ?_ _ | refine blk_drew ?_ | refine blk_alloc ?_ _)); refine blk_put (cs := #[.int .i64 0, .slice none 0 0, .slice none 0 0, .slice none 0 0, .int .i64 0]) ?_ 0 _ rfl; (with_reducible repeat (first | refine blk_drewN ?_ _ | refine blk_drew ?_ | refine blk_alloc ?_ _)); exact BK485.out⟩
            have n2_ : Aside0 (Below w.heap.size w (((((w20.setCell ⟨gb485, 0, none⟩ (.int .i64 ((rd_T37 l0_0 x26_2).f0))).setCell ⟨gb485, 1, none⟩ (.slice A484_1 ((rd_T37 l0_0 x26_2).f1).length c484_1)).setCell ⟨gb485, 2, none⟩ (.slice A484_2 ((rd_T37 l0_0 x26_2).f2).length c484_2)).setCell ⟨gb485, 3, none⟩ (.slice A484_3 ((rd_T37 l0_0 x26_2).f3).length c484_3)).setCell ⟨gb485, 4, none⟩ (.int .i64 ((rd_T37 l0_0 x26_2).f4)))) := ⟨bT2 HB GE481 GE485⟩
            (try clear BK481)
            (try clear BK485)
            (try clear HB)
            generalize (((((w20.setCell ⟨gb485, 0, none⟩ (.int .i64 ((rd_T37 l0_0 x26_2).f0))).setCell ⟨gb485, 1, none⟩ (.slice A484_1 ((rd_T37 l0_0 x26_2).f1).length c484_1)).setCell ⟨gb485, 2, none⟩ (.slice A484_2 ((rd_T37 l0_0 x26_2).f2).length c484_2)).setCell ⟨gb485, 3, none⟩ (.slice A484_3 ((rd_T37 l0_0 x26_2).f3).length c484_3)).setCell ⟨gb485, 4, none⟩ (.int .i64 ((rd_T37 l0_0 x26_2).f4))) = w23 at n0_ n1_ n2_ ⊢
            have BK481 := n0_
            have BK485 := n1_
            have HB := n2_
            clear n0_ n1_ n2_
            replace BK481 := mA (blk_drew BK481.out)
            replace BK485 := mA (blk_drew BK485.out)
            replace HB := mA (below_drew1 HB.out)
            have p487 : 0 ≤ (0 : Int) := (by omega)
            have q487 : 0 < (l0_0.length : Int) := of_decide_eq_true aT
            obtain ⟨ad487, A487_1, c487_1, A487_2, c487_2, A487_3, c487_3, e487, hx487_0, hx487_1, hx487_2, hx487_3, hx487_4, hl487_1, hi487_1, hl487_2, hi487_2, hl487_3, hi487_3⟩ := at_T37 HR0_0.out 0 p487 q487
            have hw487_4 := hx487_4
            (try rw [show ((0 : Int)).toNat = 0 from rfl] at hw487_4)
            (try rw [show 0 * 5 = 0 from rfl] at hw487_4)
            (try rw [Addr.add_zero'] at hw487_4)
            have hw487_3 := hx487_3
            (try rw [show ((0 : Int)).toNat = 0 from rfl] at hw487_3)
            (try rw [show 0 * 5 = 0 from rfl] at hw487_3)
            (try rw [Addr.add_zero'] at hw487_3)
            have hw487_2 := hx487_2
            (try rw [show ((0 : Int)).toNat = 0 from rfl] at hw487_2)
            (try rw [show 0 * 5 = 0 from rfl] at hw487_2)
            (try rw [Addr.add_zero'] at hw487_2)
            have hw487_1 := hx487_1
            (try rw [show ((0 : Int)).toNat = 0 from rfl] at hw487_1)
            (try rw [show 0 * 5 = 0 from rfl] at hw487_1)
            (try rw [Addr.add_zero'] at hw487_1)
            have hw487_0 := hx487_0
            (try rw [show ((0 : Int)).toNat = 0 from rfl] at hw487_0)
            (try rw [show 0 * 5 = 0 from rfl] at hw487_0)
            (try rw [Addr.add_zero'] at hw487_0)
            obtain rfl : ad484 = ad487 := (by injection e487)
            have qi487 : (0 < l0_0.length) = True := eq_true (by omega)
            (try rw [show ((0 : Int)).toNat = 0 from rfl] at hx487_0)
            (try rw [show 0 * 5 = 0 from rfl] at hx487_0)
            (try rw [Addr.add_zero'] at hx487_0)
            (try rw [show ((0 : Int)).toNat = 0 from rfl] at hx487_1)
            (try rw [show 0 * 5 = 0 from rfl] at hx487_1)
            (try rw [Addr.add_zero'] at hx487_1)
            (try rw [show ((0 : Int)).toNat = 0 from rfl] at hx487_2)
            (try rw [show 0 * 5 = 0 from rfl] at hx487_2)
            (try rw [Addr.add_zero'] at hx487_2)
            (try rw [show ((0 : Int)).toNat = 0 from rfl] at hx487_3)
            (try rw [show 0 * 5 = 0 from rfl] at hx487_3)
            (try rw [Addr.add_zero'] at hx487_3)
            (try rw [show ((0 : Int)).toNat = 0 from rfl] at hx487_4)
            (try rw [show 0 * 5 = 0 from rfl] at hx487_4)
            (try rw [Addr.add_zero'] at hx487_4)
            replace hx487_0 := (HB.out.cell (World.block_lt_of_cell? w _ hx487_0)).trans hx487_0
            replace hx487_1 := (HB.out.cell (World.block_lt_of_cell? w _ hx487_1)).trans hx487_1
            replace hx487_2 := (HB.out.cell (World.block_lt_of_cell? w _ hx487_2)).trans hx487_2
            replace hx487_3 := (HB.out.cell (World.block_lt_of_cell? w _ hx487_3)).trans hx487_3
            replace hx487_4 := (HB.out.cell (World.block_lt_of_cell? w _ hx487_4)).trans hx487_4
            have HR487_1 := mA hi487_1
            have HC487_1 := mA hl487_1
            clear hi487_1 hl487_1
            have HR487_2 := mA hi487_2
            have HC487_2 := mA hl487_2
            clear hi487_2 hl487_2
            have HR487_3 := mA hi487_3
            have HC487_3 := mA hl487_3
            clear hi487_3 hl487_3
            replace p487 := eq_true p487
            replace q487 := eq_true q487
            refine start_ (n := 13) (S := fun w' => w'.cell? ⟨gb485, 0, none⟩ = some (.int .i64 ((rd_T37 l0_0 x26_2).f0)) ∧ w'.cell? ⟨gb485, 1, none⟩ = some (.slice A484_1 ((rd_T37 l0_0 x26_2).f1).length c484_1) ∧ w'.cell? ⟨gb485, 2, none⟩ = some (.slice A484_2 ((rd_T37 l0_0 x26_2).f2).length c484_2) ∧ w'.cell? ⟨gb485, 3, none⟩ = some (.slice A484_3 ((rd_T37 l0_0 x26_2).f3).length c484_3) ∧ w'.cell? ⟨gb485, 4, none⟩ = some (.int .i64 ((rd_T37 l0_0 x26_2).f4)) ∧ w'.cell? ⟨gb481, 0, none⟩ = some (.slice (some ad484) l0_0.length c0_0) ∧ w'.cell? ⟨gb481, 1, none⟩ = some (.int .i64 a0_1) ∧ w'.cell? ⟨gb481, 2, none⟩ = some (.int .i64 a0_2) ∧ w'.cell? ad484 = some (.int .i64 ((rd_T37 l0_0 0).f0)) ∧ w'.cell? ⟨ad484.block, ad484.off + 1, none⟩ = some (.slice A487_1 ((rd_T37 l0_0 0).f1).length c487_1) ∧ w'.cell? ⟨ad484.block, ad484.off + 2, none⟩ = some (.slice A487_2 ((rd_T37 l0_0 0).f2).length c487_2) ∧ w'.cell? ⟨ad484.block, ad484.off + 3, none⟩ = some (.slice A487_3 ((rd_T37 l0_0 0).f3).length c487_3) ∧ w'.cell? ⟨ad484.block, ad484.off + 4, none⟩ = some (.int .i64 ((rd_T37 l0_0 0).f4))) (ds := []) #[false, false, false, false, false, false, false, false, false, false, false, false, false] (by kernel_rfl) rfl rfl ⟨(blk_cell BK485.out 0).trans rfl, (blk_cell BK485.out 1).trans rfl, (blk_cell BK485.out 2).trans rfl, (blk_cell BK485.out 3).trans rfl, (blk_cell BK485.out 4).trans rfl, (blk_cell BK481.out 0).trans rfl, (blk_cell BK481.out 1).trans rfl, (blk_cell BK481.out 2).trans rfl, ((HB.out.cell (World.block_lt_of_cell? w _ hw487_0)).trans hw487_0), ((HB.out.cell (World.block_lt_of_cell? w _ hw487_1)).trans hw487_1), ((HB.out.cell (World.block_lt_of_cell? w _ hw487_2)).trans hw487_2), ((HB.out.cell (World.block_lt_of_cell? w _ hw487_3)).trans hw487_3), ((HB.out.cell (World.block_lt_of_cell? w _ hw487_4)).trans hw487_4)⟩ (fun hHeld => ?_); refine with_tabW impl_IsValidJoiner.tab7 impl_IsValidJoiner.bits7 (fun HT_ HW_ => ?_)
            generalize w23.drew = w24 at BK481 BK485 HB HR487_1 HR487_2 HR487_3 hx487_0 hx487_1 hx487_2 hx487_3 hx487_4 hHeld ⊢
            refine take_ (i := 0) (N := some 30) (v := ?_) (a' := ?_) #[true, false, false, false, false, false, false, false, false, false, false, false, false] rfl rfl (take_ofW HT_.out HW_.out (by kernel_rfl)) (fun _ _ _ h => h) (Or.inl ⟨by rfl, ?_⟩) hHeld ?_ ?_
            rotate_left
            ·
             rintro w' ⟨s0, s1, s2, s3, s4, s5, s6, s7, s8, s9, s10, s11, s12⟩
             go_simp
             with_reducible rfl
            rotate_left
            ·
             simp only [Act.put, List.setIfInBounds_toArray, List.set_cons_zero, List.set_cons_succ, i64_w, i32_w]
             rfl
            refine one_ (i := 1) (N := some 31) #[true, true, false, false, false, false, false, false, false, false, false, false, false] rfl rfl (one_of HT_.out (by kernel_rfl)) (by decide) (fun K hK => ?_)
            refine goes_ Try.func55 (by kernel_rfl) rfl #[.agg #[.int .i64 ((rd_T37 l0_0 x26_2).f0), .slice A484_1 ((rd_T37 l0_0 x26_2).f1).length c484_1, .slice A484_2 ((rd_T37 l0_0 x26_2).f2).length c484_2, .slice A484_3 ((rd_T37 l0_0 x26_2).f3).length c484_3, .int .i64 ((rd_T37 l0_0 x26_2).f4)]] (by rfl) rfl rfl mT ?_
            with_reducible refine (impl_IsValidTask.calls k2 ((rd_T37 l0_0 x26_2).f0) _ _ ((rd_T37 l0_0 x26_2).f1) _ _ ((rd_T37 l0_0 x26_2).f2) _ _ ((rd_T37 l0_0 x26_2).f3) ((rd_T37 l0_0 x26_2).f4) true _ ?side1 ?side2 ?side3 ?side4 ?side5 ?side6 A16.out).mono ?_
            (case side1 => exact cT (Kd.C_below HR484_1.out HB.out))
            (case side2 => exact HC484_1.out)
            (case side3 => exact cT (Kd.C_below HR484_2.out HB.out))
            (case side4 => exact HC484_2.out)
            (case side5 => exact cT (Kd.C_below HR484_3.out HB.out))
            (case side6 => exact HC484_3.out)
            rintro e w25 ⟨rfl, hb⟩
            refine ⟨_, rfl, ?_⟩
            replace BK481 := kB BK481 hb
            replace BK485 := kB BK485 hb
            replace HB := mA (below_step (bT2 HB GE481 GE485) hb)
            (try clear hb)
            (try clear hb2)
            (try clear hk)
            (try clear hi)
            refine hK.out _ _ ⟨(blk_cell BK485.out 0).trans rfl, (blk_cell BK485.out 1).trans rfl, (blk_cell BK485.out 2).trans rfl, (blk_cell BK485.out 3).trans rfl, (blk_cell BK485.out 4).trans rfl, (blk_cell BK481.out 0).trans rfl, (blk_cell BK481.out 1).trans rfl, (blk_cell BK481.out 2).trans rfl, ((HB.out.cell (World.block_lt_of_cell? w _ hw487_0)).trans hw487_0), ((HB.out.cell (World.block_lt_of_cell? w _ hw487_1)).trans hw487_1), ((HB.out.cell (World.block_lt_of_cell? w _ hw487_2)).trans hw487_2), ((HB.out.cell (World.block_lt_of_cell? w _ hw487_3)).trans hw487_3), ((HB.out.cell (World.block_lt_of_cell? w _ hw487_4)).trans hw487_4)⟩ (fun hHeld => ?_)
            clear hK K
            refine norm_ (a' := ?_) ?_ ?_
            rotate_left
            ·
             show Act.put _ (some 31) _ = _
             simp only [Act.put, List.setIfInBounds_toArray, List.set_cons_zero, List.set_cons_succ, i64_w, i32_w]
             rfl
            refine pureT (i := 2) (N := some 32) #[true, true, true, false, false, false, false, false, false, false, false, false, false] (any_of HT_.out (by kernel_rfl)) ?_
            refine pureT (i := 3) (N := some 33) #[true, true, true, true, false, false, false, false, false, false, false, false, false] (any_of HT_.out (by kernel_rfl)) ?_
            refine pureT (i := 4) (N := some 34) #[true, true, true, true, true, false, false, false, false, false, false, false, false] (any_of HT_.out (by kernel_rfl)) ?_
            refine pureT (i := 6) (N := some 36) #[true, true, true, true, true, false, true, false, false, false, false, false, false] (any_of HT_.out (by kernel_rfl)) ?_
            refine take_ (i := 5) (N := some 35) (v := ?_) (a' := ?_) #[true, true, true, true, true, true, true, false, false, false, false, false, false] rfl rfl (take_ofW HT_.out HW_.out (by kernel_rfl)) (fun _ _ _ h => h) (Or.inl ⟨by rfl, ?_⟩) hHeld ?_ ?_
            rotate_left
            ·
             rintro w' ⟨s0, s1, s2, s3, s4, s5, s6, s7, s8, s9, s10, s11, s12⟩
             go_simp
             with_reducible rfl
            rotate_left
            ·
             simp only [Act.put, List.setIfInBounds_toArray, List.set_cons_zero, List.set_cons_succ, i64_w, i32_w]
             rfl
            refine take_ (i := 7) (N := some 37) (v := ?_) (a' := ?_) #[true, true, true, true, true, true, true, true, false, false, false, false, false] rfl rfl (take_ofW HT_.out HW_.out (by kernel_rfl)) (fun _ _ _ h => h) (Or.inl ⟨by rfl, ?_⟩) hHeld ?_ ?_
            rotate_left
            ·
             rintro w' ⟨s0, s1, s2, s3, s4, s5, s6, s7, s8, s9, s10, s11, s12⟩
             go_simp
             with_reducible rfl
            rotate_left
            ·
             simp only [Act.put, List.setIfInBounds_toArray, List.set_cons_zero, List.set_cons_succ, i64_w, i32_w]
             rfl
            refine pureT (i := 8) (N := some 38) #[true, true, true, true, true, true, true, true, true, false, false, false, false] (any_of HT_.out (by kernel_rfl)) ?_
            refine pureT (i := 9) (N := some 39) #[true, true, true, true, true, true, true, true, true, true, false, false, false] (any_of HT_.out (by kernel_rfl)) ?_
            refine take_ (i := 10) (N := some 40) (v := ?_) (a' := ?_) #[true, true, true, true, true, true, true, true, true, true, true, false, false] rfl rfl (take_ofW HT_.out HW_.out (by kernel_rfl)) (fun _ _ _ h => h) (Or.inl ⟨by rfl, ?_⟩) hHeld ?_ ?_
            rotate_left
            ·
             rintro w' ⟨s0, s1, s2, s3, s4, s5, s6, s7, s8, s9, s10, s11, s12⟩
             go_simp
             with_reducible rfl
            rotate_left
            ·
             simp only [Act.put, List.setIfInBounds_toArray, List.set_cons_zero, List.set_cons_succ, i64_w, i32_w]
             rfl
            refine pureT (i := 11) (N := some 41) #[true, true, true, true, true, true, true, true, true, true, true, true, false] (any_of HT_.out (by kernel_rfl)) ?_
            refine pureT (i := 12) (N := some 42) #[true, true, true, true, true, true, true, true, true, true, true, true, true] (any_of HT_.out (by kernel_rfl)) ?_
            refine done_ (done_of HT_.out (by kernel_rfl)) ?_
            have hcz26_0 : w25.cell? ⟨gb485, 0, none⟩ = some (.int .i64 ((rd_T37 l0_0 x26_2).f0)) := (blk_cell BK485.out 0).trans rfl
            have hcz26_1 : w25.cell? ⟨gb485, 1, none⟩ = some (.slice A484_1 ((rd_T37 l0_0 x26_2).f1).length c484_1) := (blk_cell BK485.out 1).trans rfl
            have hcz26_2 : w25.cell? ⟨gb485, 2, none⟩ = some (.slice A484_2 ((rd_T37 l0_0 x26_2).f2).length c484_2) := (blk_cell BK485.out 2).trans rfl
            have hcz26_3 : w25.cell? ⟨gb485, 3, none⟩ = some (.slice A484_3 ((rd_T37 l0_0 x26_2).f3).length c484_3) := (blk_cell BK485.out 3).trans rfl
            have hcz26_4 : w25.cell? ⟨gb485, 4, none⟩ = some (.int .i64 ((rd_T37 l0_0 x26_2).f4)) := (blk_cell BK485.out 4).trans rfl
            have hfz26_0 := blk_frozen BK485.out 0
            have hfz26_1 := blk_frozen BK485.out 1
            have hfz26_2 := blk_frozen BK485.out 2
            have hfz26_3 := blk_frozen BK485.out 3
            have hfz26_4 := blk_frozen BK485.out 4
            try go_wp2
            go_roundg k2
            case measure => have := HJ1.out; have := HK2.out; omega
            case rel => exact ⟨(wrap64 (x3_2 + (((rd_T37 l0_0 x26_2).f1).length : Int))), (wrap64 (x4_2 + (((rd_T37 l0_0 x26_2).f2).length : Int))), (wrap64 (x26_2 + 1)), sT, sT, sT, H', ⟨by have := HJ1.out; have := HK2.out; omega⟩, ⟨kT BK481⟩, ⟨bT2 HB GE481 GE485⟩⟩
           ·
            rw [if_neg c19] at H
            have c19b0 : (((rd_T37 l0_0 x26_2).f0) == ((rd_T37 l0_0 0).f0)) = false := beq_eq_false_iff_ne.mpr c19
            have c19b1 : (((rd_T37 l0_0 x26_2).f0) != ((rd_T37 l0_0 0).f0)) = true := bne_iff_ne.mpr c19
            obtain rfl := Option.some.inj H
            have p484 : 0 ≤ (x26_2 : Int) := of_decide_eq_true aT
            have q484 : x26_2 < (l0_0.length : Int) := of_decide_eq_true aT
            obtain ⟨ad484, A484_1, c484_1, A484_2, c484_2, A484_3, c484_3, e484, hx484_0, hx484_1, hx484_2, hx484_3, hx484_4, hl484_1, hi484_1, hl484_2, hi484_2, hl484_3, hi484_3⟩ := at_T37 HR0_0.out x26_2 p484 q484
            cases e484
            replace hx484_0 := (HB.out.cell (World.block_lt_of_cell? w _ hx484_0)).trans hx484_0
            replace hx484_1 := (HB.out.cell (World.block_lt_of_cell? w _ hx484_1)).trans hx484_1
            replace hx484_2 := (HB.out.cell (World.block_lt_of_cell? w _ hx484_2)).trans hx484_2
            replace hx484_3 := (HB.out.cell (World.block_lt_of_cell? w _ hx484_3)).trans hx484_3
            replace hx484_4 := (HB.out.cell (World.block_lt_of_cell? w _ hx484_4)).trans hx484_4
            have HR484_1 := mA hi484_1
            have HC484_1 := mA hl484_1
            clear hi484_1 hl484_1
            have HR484_2 := mA hi484_2
            have HC484_2 := mA hl484_2
            clear hi484_2 hl484_2
            have HR484_3 := mA hi484_3
            have HC484_3 := mA hl484_3
            clear hi484_3 hl484_3
            replace p484 := eq_true p484
            replace q484 := eq_true q484
            try go_wp2_with (first | ((with_reducible refine gate_dst (N := 6) rfl ?_); refine boxT 6 #[.int .i64 0, .slice none 0 0, .slice none 0 0, .slice none 0 0, .int .i64 0] 37 ?_; intro gb485 hg w27 hbox hb; have BK485 := mA (hbox); have GW485 := mA ((by rw [hg]; exact (below_size (bT1 HB GE481)) : w.heap.size ≤ gb485)); have GE485 := GW485; replace HB := mA (below_step (bT1 HB GE481) hb); have NB481_485 : Aside0 (gb481 ≠ gb485) := nL BK481 hg; have NB485_481 : Aside0 (gb485 ≠ gb481) := nG BK481 hg; replace BK481 := kB BK481 hb; clear hb hbox hg; have hnb28 := NB485_481.out; have hnc28 := NB481_485.out; obtain ⟨hcz29_0, hcz29_1, hcz29_2, hcz29_3, hcz29_4, hfz29_0, hfz29_1, hfz29_2, hfz29_3, hfz29_4⟩ := blk5 BK485.out))
            have n0_ : Aside0 ((((((w27.setCell ⟨gb485, 0, none⟩ (.int .i64 ((rd_T37 l0_0 x26_2).f0))).setCell ⟨gb485, 1, none⟩ (.slice A484_1 ((rd_T37 l0_0 x26_2).f1).length c484_1)).setCell ⟨gb485, 2, none⟩ (.slice A484_2 ((rd_T37 l0_0 x26_2).f2).length c484_2)).setCell ⟨gb485, 3, none⟩ (.slice A484_3 ((rd_T37 l0_0 x26_2).f3).length c484_3)).setCell ⟨gb485, 4, none⟩ (.int .i64 ((rd_T37 l0_0 x26_2).f4))).heap[gb481]? = some (.cells #[.slice (some ad484) l0_0.length c0_0, .int .i64 a0_1, .int .i64 a0_2] 59 (0, 0))) := ⟨by (with_reducible repeat (first | refine blk_drewN ?_ _ | refine blk_drew ?_ | refine blk_alloc ?_ _)); refine blk_far ?_ NB481_485.out _; (with_reducible repeat (first | refine blk_drewN ?_ _ | refine blk_drew ?_ | refine blk_alloc ?_ _)); refine blk_far ?_ NB481_485.out _; (with_reducible repeat (first | refine blk_drewN ?_ _ | refine blk_drew ?_ | refine blk_alloc ?_ _)); refine blk_far ?_ NB481_485.out _; (with_reducible repeat (first | refine blk_drewN ?_ _ | refine blk_drew ?_ | refine blk_alloc ?_ _)); refine blk_far ?_ NB481_485.out _; (with_reducible repeat (first | refine blk_drewN ?_ _ | refine blk_drew ?_ | refine blk_alloc ?_ _)); refine blk_far ?_ NB481_485.out _; (with_reducible repeat (first | refine blk_drewN ?_ _ | refine blk_drew ?_ | refine blk_alloc ?_ _)); exact BK481.out⟩
            have n1_ : Aside0 ((((((w27.setCell ⟨gb485, 0, none⟩ (.int .i64 ((rd_T37 l0_0 x26_2).f0))).setCell ⟨gb485, 1, none⟩ (.slice A484_1 ((rd_T37 l0_0 x26_2).f1).length c484_1)).setCell ⟨gb485, 2, none⟩ (.slice A484_2 ((rd_T37 l0_0 x26_2).f2).length c484_2)).setCell ⟨gb485, 3, none⟩ (.slice A484_3 ((rd_T37 l0_0 x26_2).f3).length c484_3)).setCell ⟨gb485, 4, none⟩ (.int .i64 ((rd_T37 l0_0 x26_2).f4))).heap[gb485]? = some (.cells #[.int .i64 ((rd_T37 l0_0 x26_2).f0), .slice A484_1 ((rd_T37 l0_0 x26_2).f1).length c484_1, .slice A484_2 ((rd_T37 l0_0 x26_2).f2).length c484_2, .slice A484_3 ((rd_T37 l0_0 x26_2).f3).length c484_3, .int .i64 ((rd_T37 l0_0 x26_2).f4)] 37 (0, 0))) := ⟨by (with_reducible repeat (first | refine blk_drewN ?_ _ | refine blk_drew ?_ | refine blk_alloc ?_ _)); refine blk_put (cs := #[.int .i64 ((rd_T37 l0_0 x26_2).f0), .slice A484_1 ((rd_T37 l0_0 x26_2).f1).length c484_1, .slice A484_2 ((rd_T37 l0_0 x26_2).f2).length c484_2, .slice A484_3 ((rd_T37 l0_0 x26_2).f3).length c484_3, .int .i64 0]) ?_ 4 _ rfl; (with_reducible repeat (first | refine blk_drewN ?_ _ | refine blk_drew ?_ | refine blk_alloc ?_ _)); refine blk_put (cs := #[.int .i64 ((rd_T37 l0_0 x26_2).f0), .slice A484_1 ((rd_T37 l0_0 x26_2).f1).length c484_1, .slice A484_2 ((rd_T37 l0_0 x26_2).f2).length c484_2, .slice none 0 0, .int .i64 0]) ?_ 3 _ rfl; (with_reducible repeat (first | refine blk_drewN ?_ _ | refine blk_drew ?_ | refine blk_alloc ?_ _)); refine blk_put (cs := #[.int .i64 ((rd_T37 l0_0 x26_2).f0), .slice A484_1 ((rd_T37 l0_0 x26_2).f1).length c484_1, .slice none 0 0, .slice none 0 0, .int .i64 0]) ?_ 2 _ rfl; (with_reducible repeat (first | refine blk_drewN ?_ _ | refine blk_drew ?_ | refine blk_alloc ?_ _)); refine blk_put (cs := #[.int .i64 ((rd_T37 l0_0 x26_2).f0), .slice none 0 0, .slice none 0 0, .slice none 0 0, .int .i64 0]) ?_ 1 _ rfl; (with_reducible repeat (first | refine blk_drewN ?_ _ | refine blk_drew ?_ | refine blk_alloc ?_ _)); refine blk_put (cs := #[.int .i64 0, .slice none 0 0, .slice none 0 0, .slice none 0 0, .int .i64 0]) ?_ 0 _ rfl; (with_reducible repeat (first | refine blk_drewN ?_ _ | refine blk_drew ?_ | refine blk_alloc ?_ _)); exact BK485.out⟩
            have n2_ : Aside0 (Below w.heap.size w (((((w27.setCell ⟨gb485, 0, none⟩ (.int .i64 ((rd_T37 l0_0 x26_2).f0))).setCell ⟨gb485, 1, none⟩ (.slice A484_1 ((rd_T37 l0_0 x26_2).f1).length c484_1)).setCell ⟨gb485, 2, none⟩ (.slice A484_2 ((rd_T37 l0_0 x26_2).f2).length c484_2)).setCell ⟨gb485, 3, none⟩ (.slice A484_3 ((rd_T37 l0_0 x26_2).f3).length c484_3)).setCell ⟨gb485, 4, none⟩ (.int .i64 ((rd_T37 l0_0 x26_2).f4)))) := ⟨bT2 HB GE481 GE485⟩
            (try clear BK481)
            (try clear BK485)
            (try clear HB)
            generalize (((((w27.setCell ⟨gb485, 0, none⟩ (.int .i64 ((rd_T37 l0_0 x26_2).f0))).setCell ⟨gb485, 1, none⟩ (.slice A484_1 ((rd_T37 l0_0 x26_2).f1).length c484_1)).setCell ⟨gb485, 2, none⟩ (.slice A484_2 ((rd_T37 l0_0 x26_2).f2).length c484_2)).setCell ⟨gb485, 3, none⟩ (.slice A484_3 ((rd_T37 l0_0 x26_2).f3).length c484_3)).setCell ⟨gb485, 4, none⟩ (.int .i64 ((rd_T37 l0_0 x26_2).f4))) = w30 at n0_ n1_ n2_ ⊢
            have BK481 := n0_
            have BK485 := n1_
            have HB := n2_
            clear n0_ n1_ n2_
            replace BK481 := mA (blk_drew BK481.out)
            replace BK485 := mA (blk_drew BK485.out)
            replace HB := mA (below_drew1 HB.out)
            have p487 : 0 ≤ (0 : Int) := (by omega)
            have q487 : 0 < (l0_0.length : Int) := of_decide_eq_true aT
            obtain ⟨ad487, A487_1, c487_1, A487_2, c487_2, A487_3, c487_3, e487, hx487_0, hx487_1, hx487_2, hx487_3, hx487_4, hl487_1, hi487_1, hl487_2, hi487_2, hl487_3, hi487_3⟩ := at_T37 HR0_0.out 0 p487 q487
            have hw487_4 := hx487_4
            (try rw [show ((0 : Int)).toNat = 0 from rfl] at hw487_4)
            (try rw [show 0 * 5 = 0 from rfl] at hw487_4)
            (try rw [Addr.add_zero'] at hw487_4)
            have hw487_3 := hx487_3
            (try rw [show ((0 : Int)).toNat = 0 from rfl] at hw487_3)
            (try rw [show 0 * 5 = 0 from rfl] at hw487_3)
            (try rw [Addr.add_zero'] at hw487_3)
            have hw487_2 := hx487_2
            (try rw [show ((0 : Int)).toNat = 0 from rfl] at hw487_2)
            (try rw [show 0 * 5 = 0 from rfl] at hw487_2)
            (try rw [Addr.add_zero'] at hw487_2)
            have hw487_1 := hx487_1
            (try rw [show ((0 : Int)).toNat = 0 from rfl] at hw487_1)
            (try rw [show 0 * 5 = 0 from rfl] at hw487_1)
            (try rw [Addr.add_zero'] at hw487_1)
            have hw487_0 := hx487_0
            (try rw [show ((0 : Int)).toNat = 0 from rfl] at hw487_0)
            (try rw [show 0 * 5 = 0 from rfl] at hw487_0)
            (try rw [Addr.add_zero'] at hw487_0)
            obtain rfl : ad484 = ad487 := (by injection e487)
            have qi487 : (0 < l0_0.length) = True := eq_true (by omega)
            (try rw [show ((0 : Int)).toNat = 0 from rfl] at hx487_0)
            (try rw [show 0 * 5 = 0 from rfl] at hx487_0)
            (try rw [Addr.add_zero'] at hx487_0)
            (try rw [show ((0 : Int)).toNat = 0 from rfl] at hx487_1)
            (try rw [show 0 * 5 = 0 from rfl] at hx487_1)
            (try rw [Addr.add_zero'] at hx487_1)
            (try rw [show ((0 : Int)).toNat = 0 from rfl] at hx487_2)
            (try rw [show 0 * 5 = 0 from rfl] at hx487_2)
            (try rw [Addr.add_zero'] at hx487_2)
            (try rw [show ((0 : Int)).toNat = 0 from rfl] at hx487_3)
            (try rw [show 0 * 5 = 0 from rfl] at hx487_3)
            (try rw [Addr.add_zero'] at hx487_3)
            (try rw [show ((0 : Int)).toNat = 0 from rfl] at hx487_4)
            (try rw [show 0 * 5 = 0 from rfl] at hx487_4)
            (try rw [Addr.add_zero'] at hx487_4)
            replace hx487_0 := (HB.out.cell (World.block_lt_of_cell? w _ hx487_0)).trans hx487_0
            replace hx487_1 := (HB.out.cell (World.block_lt_of_cell? w _ hx487_1)).trans hx487_1
            replace hx487_2 := (HB.out.cell (World.block_lt_of_cell? w _ hx487_2)).trans hx487_2
            replace hx487_3 := (HB.out.cell (World.block_lt_of_cell? w _ hx487_3)).trans hx487_3
            replace hx487_4 := (HB.out.cell (World.block_lt_of_cell? w _ hx487_4)).trans hx487_4
            have HR487_1 := mA hi487_1
            have HC487_1 := mA hl487_1
            clear hi487_1 hl487_1
            have HR487_2 := mA hi487_2
            have HC487_2 := mA hl487_2
            clear hi487_2 hl487_2
            have HR487_3 := mA hi487_3
            have HC487_3 := mA hl487_3
            clear hi487_3 hl487_3
            replace p487 := eq_true p487
            replace q487 := eq_true q487
            refine start_ (n := 13) (S := fun w' => w'.cell? ⟨gb485, 0, none⟩ = some (.int .i64 ((rd_T37 l0_0 x26_2).f0)) ∧ w'.cell? ⟨gb485, 1, none⟩ = some (.slice A484_1 ((rd_T37 l0_0 x26_2).f1).length c484_1) ∧ w'.cell? ⟨gb485, 2, none⟩ = some (.slice A484_2 ((rd_T37 l0_0 x26_2).f2).length c484_2) ∧ w'.cell? ⟨gb485, 3, none⟩ = some (.slice A484_3 ((rd_T37 l0_0 x26_2).f3).length c484_3) ∧ w'.cell? ⟨gb485, 4, none⟩ = some (.int .i64 ((rd_T37 l0_0 x26_2).f4)) ∧ w'.cell? ⟨gb481, 0, none⟩ = some (.slice (some ad484) l0_0.length c0_0) ∧ w'.cell? ⟨gb481, 1, none⟩ = some (.int .i64 a0_1) ∧ w'.cell? ⟨gb481, 2, none⟩ = some (.int .i64 a0_2) ∧ w'.cell? ad484 = some (.int .i64 ((rd_T37 l0_0 0).f0)) ∧ w'.cell? ⟨ad484.block, ad484.off + 1, none⟩ = some (.slice A487_1 ((rd_T37 l0_0 0).f1).length c487_1) ∧ w'.cell? ⟨ad484.block, ad484.off + 2, none⟩ = some (.slice A487_2 ((rd_T37 l0_0 0).f2).length c487_2) ∧ w'.cell? ⟨ad484.block, ad484.off + 3, none⟩ = some (.slice A487_3 ((rd_T37 l0_0 0).f3).length c487_3) ∧ w'.cell? ⟨ad484.block, ad484.off + 4, none⟩ = some (.int .i64 ((rd_T37 l0_0 0).f4))) (ds := []) #[false, false, false, false, false, false, false, false, false, false, false, false, false] (by kernel_rfl) rfl rfl ⟨(blk_cell BK485.out 0).trans rfl, (blk_cell BK485.out 1).trans rfl, (blk_cell BK485.out 2).trans rfl, (blk_cell BK485.out 3).trans rfl, (blk_cell BK485.out 4).trans rfl, (blk_cell BK481.out 0).trans rfl, (blk_cell BK481.out 1).trans rfl, (blk_cell BK481.out 2).trans rfl, ((HB.out.cell (World.block_lt_of_cell? w _ hw487_0)).trans hw487_0), ((HB.out.cell (World.block_lt_of_cell? w _ hw487_1)).trans hw487_1), ((HB.out.cell (World.block_lt_of_cell? w _ hw487_2)).trans hw487_2), ((HB.out.cell (World.block_lt_of_cell? w _ hw487_3)).trans hw487_3), ((HB.out.cell (World.block_lt_of_cell? w _ hw487_4)).trans hw487_4)⟩ (fun hHeld => ?_); refine with_tabW impl_IsValidJoiner.tab7 impl_IsValidJoiner.bits7 (fun HT_ HW_ => ?_)
            generalize w30.drew = w31 at BK481 BK485 HB HR487_1 HR487_2 HR487_3 hx487_0 hx487_1 hx487_2 hx487_3 hx487_4 hHeld ⊢
            refine take_ (i := 0) (N := some 30) (v := ?_) (a' := ?_) #[true, false, false, false, false, false, false, false, false, false, false, false, false] rfl rfl (take_ofW HT_.out HW_.out (by kernel_rfl)) (fun _ _ _ h => h) (Or.inl ⟨by rfl, ?_⟩) hHeld ?_ ?_
            rotate_left
            ·
             rintro w' ⟨s0, s1, s2, s3, s4, s5, s6, s7, s8, s9, s10, s11, s12⟩
             go_simp
             with_reducible rfl
            rotate_left
            ·
             simp only [Act.put, List.setIfInBounds_toArray, List.set_cons_zero, List.set_cons_succ, i64_w, i32_w]
             rfl
            refine one_ (i := 1) (N := some 31) #[true, true, false, false, false, false, false, false, false, false, false, false, false] rfl rfl (one_of HT_.out (by kernel_rfl)) (by decide) (fun K hK => ?_)
            refine goes_ Try.func55 (by kernel_rfl) rfl #[.agg #[.int .i64 ((rd_T37 l0_0 x26_2).f0), .slice A484_1 ((rd_T37 l0_0 x26_2).f1).length c484_1, .slice A484_2 ((rd_T37 l0_0 x26_2).f2).length c484_2, .slice A484_3 ((rd_T37 l0_0 x26_2).f3).length c484_3, .int .i64 ((rd_T37 l0_0 x26_2).f4)]] (by rfl) rfl rfl mT ?_
            with_reducible refine (impl_IsValidTask.calls k2 ((rd_T37 l0_0 x26_2).f0) _ _ ((rd_T37 l0_0 x26_2).f1) _ _ ((rd_T37 l0_0 x26_2).f2) _ _ ((rd_T37 l0_0 x26_2).f3) ((rd_T37 l0_0 x26_2).f4) true _ ?side1 ?side2 ?side3 ?side4 ?side5 ?side6 A16.out).mono ?_
            (case side1 => exact cT (Kd.C_below HR484_1.out HB.out))
            (case side2 => exact HC484_1.out)
            (case side3 => exact cT (Kd.C_below HR484_2.out HB.out))
            (case side4 => exact HC484_2.out)
            (case side5 => exact cT (Kd.C_below HR484_3.out HB.out))
            (case side6 => exact HC484_3.out)
            rintro e w32 ⟨rfl, hb⟩
            refine ⟨_, rfl, ?_⟩
            replace BK481 := kB BK481 hb
            replace BK485 := kB BK485 hb
            replace HB := mA (below_step (bT2 HB GE481 GE485) hb)
            (try clear hb)
            (try clear hb2)
            (try clear hk)
            (try clear hi)
            refine hK.out _ _ ⟨(blk_cell BK485.out 0).trans rfl, (blk_cell BK485.out 1).trans rfl, (blk_cell BK485.out 2).trans rfl, (blk_cell BK485.out 3).trans rfl, (blk_cell BK485.out 4).trans rfl, (blk_cell BK481.out 0).trans rfl, (blk_cell BK481.out 1).trans rfl, (blk_cell BK481.out 2).trans rfl, ((HB.out.cell (World.block_lt_of_cell? w _ hw487_0)).trans hw487_0), ((HB.out.cell (World.block_lt_of_cell? w _ hw487_1)).trans hw487_1), ((HB.out.cell (World.block_lt_of_cell? w _ hw487_2)).trans hw487_2), ((HB.out.cell (World.block_lt_of_cell? w _ hw487_3)).trans hw487_3), ((HB.out.cell (World.block_lt_of_cell? w _ hw487_4)).trans hw487_4)⟩ (fun hHeld => ?_)
            clear hK K
            refine norm_ (a' := ?_) ?_ ?_
            rotate_left
            ·
             show Act.put _ (some 31) _ = _
             simp only [Act.put, List.setIfInBounds_toArray, List.set_cons_zero, List.set_cons_succ, i64_w, i32_w]
             rfl
            refine pureT (i := 2) (N := some 32) #[true, true, true, false, false, false, false, false, false, false, false, false, false] (any_of HT_.out (by kernel_rfl)) ?_
            refine pureT (i := 3) (N := some 33) #[true, true, true, true, false, false, false, false, false, false, false, false, false] (any_of HT_.out (by kernel_rfl)) ?_
            refine pureT (i := 4) (N := some 34) #[true, true, true, true, true, false, false, false, false, false, false, false, false] (any_of HT_.out (by kernel_rfl)) ?_
            refine pureT (i := 6) (N := some 36) #[true, true, true, true, true, false, true, false, false, false, false, false, false] (any_of HT_.out (by kernel_rfl)) ?_
            refine take_ (i := 5) (N := some 35) (v := ?_) (a' := ?_) #[true, true, true, true, true, true, true, false, false, false, false, false, false] rfl rfl (take_ofW HT_.out HW_.out (by kernel_rfl)) (fun _ _ _ h => h) (Or.inl ⟨by rfl, ?_⟩) hHeld ?_ ?_
            rotate_left
            ·
             rintro w' ⟨s0, s1, s2, s3, s4, s5, s6, s7, s8, s9, s10, s11, s12⟩
             go_simp
             with_reducible rfl
            rotate_left
            ·
             simp only [Act.put, List.setIfInBounds_toArray, List.set_cons_zero, List.set_cons_succ, i64_w, i32_w]
             rfl
            refine take_ (i := 7) (N := some 37) (v := ?_) (a' := ?_) #[true, true, true, true, true, true, true, true, false, false, false, false, false] rfl rfl (take_ofW HT_.out HW_.out (by kernel_rfl)) (fun _ _ _ h => h) (Or.inl ⟨by rfl, ?_⟩) hHeld ?_ ?_
            rotate_left
            ·
             rintro w' ⟨s0, s1, s2, s3, s4, s5, s6, s7, s8, s9, s10, s11, s12⟩
             go_simp
             with_reducible rfl
            rotate_left
            ·
             simp only [Act.put, List.setIfInBounds_toArray, List.set_cons_zero, List.set_cons_succ, i64_w, i32_w]
             rfl
            refine pureT (i := 8) (N := some 38) #[true, true, true, true, true, true, true, true, true, false, false, false, false] (any_of HT_.out (by kernel_rfl)) ?_
            refine pureT (i := 9) (N := some 39) #[true, true, true, true, true, true, true, true, true, true, false, false, false] (any_of HT_.out (by kernel_rfl)) ?_
            refine take_ (i := 10) (N := some 40) (v := ?_) (a' := ?_) #[true, true, true, true, true, true, true, true, true, true, true, false, false] rfl rfl (take_ofW HT_.out HW_.out (by kernel_rfl)) (fun _ _ _ h => h) (Or.inl ⟨by rfl, ?_⟩) hHeld ?_ ?_
            rotate_left
            ·
             rintro w' ⟨s0, s1, s2, s3, s4, s5, s6, s7, s8, s9, s10, s11, s12⟩
             go_simp
             with_reducible rfl
            rotate_left
            ·
             simp only [Act.put, List.setIfInBounds_toArray, List.set_cons_zero, List.set_cons_succ, i64_w, i32_w]
             rfl
            refine pureT (i := 11) (N := some 41) #[true, true, true, true, true, true, true, true, true, true, true, true, false] (any_of HT_.out (by kernel_rfl)) ?_
            refine pureT (i := 12) (N := some 42) #[true, true, true, true, true, true, true, true, true, true, true, true, true] (any_of HT_.out (by kernel_rfl)) ?_
            refine done_ (done_of HT_.out (by kernel_rfl)) ?_
            try go_wp2
            go_ret
            exact ⟨eT, bT2 HB GE481 GE485⟩
          ·
           rw [if_neg c18] at H
           exact absurd H (by simp)
         ·
          replace c17 := Bool.eq_false_iff.mpr c17
          subst c17
          rw [if_neg (show ¬ (false = true) by decide)] at H
          obtain rfl := Option.some.inj H
          have p484 : 0 ≤ (x26_2 : Int) := of_decide_eq_true aT
          have q484 : x26_2 < (l0_0.length : Int) := of_decide_eq_true aT
          obtain ⟨ad484, A484_1, c484_1, A484_2, c484_2, A484_3, c484_3, e484, hx484_0, hx484_1, hx484_2, hx484_3, hx484_4, hl484_1, hi484_1, hl484_2, hi484_2, hl484_3, hi484_3⟩ := at_T37 HR0_0.out x26_2 p484 q484
          cases e484
          replace hx484_0 := (HB.out.cell (World.block_lt_of_cell? w _ hx484_0)).trans hx484_0
          replace hx484_1 := (HB.out.cell (World.block_lt_of_cell? w _ hx484_1)).trans hx484_1
          replace hx484_2 := (HB.out.cell (World.block_lt_of_cell? w _ hx484_2)).trans hx484_2
          replace hx484_3 := (HB.out.cell (World.block_lt_of_cell? w _ hx484_3)).trans hx484_3
          replace hx484_4 := (HB.out.cell (World.block_lt_of_cell? w _ hx484_4)).trans hx484_4
          have HR484_1 := mA hi484_1
          have HC484_1 := mA hl484_1
          clear hi484_1 hl484_1
          have HR484_2 := mA hi484_2
          have HC484_2 := mA hl484_2
          clear hi484_2 hl484_2
          have HR484_3 := mA hi484_3
          have HC484_3 := mA hl484_3
          clear hi484_3 hl484_3
          replace p484 := eq_true p484
          replace q484 := eq_true q484
          try go_wp2_with (first | ((with_reducible refine gate_dst (N := 6) rfl ?_); refine boxT 6 #[.int .i64 0, .slice none 0 0, .slice none 0 0, .slice none 0 0, .int .i64 0] 37 ?_; intro gb485 hg w33 hbox hb; have BK485 := mA (hbox); have GW485 := mA ((by rw [hg]; exact (below_size (bT1 HB GE481)) : w.heap.size ≤ gb485)); have GE485 := GW485; replace HB := mA (below_step (bT1 HB GE481) hb); have NB481_485 : Aside0 (gb481 ≠ gb485) := nL BK481 hg; have NB485_481 : Aside0 (gb485 ≠ gb481) := nG BK481 hg; replace BK481 := kB BK481 hb; clear hb hbox hg; have hnb34 := NB485_481.out; have hnc34 := NB481_485.out; obtain ⟨hcz35_0, hcz35_1, hcz35_2, hcz35_3, hcz35_4, hfz35_0, hfz35_1, hfz35_2, hfz35_3, hfz35_4⟩ := blk5 BK485.out))
          have n0_ : Aside0 ((((((w33.setCell ⟨gb485, 0, none⟩ (.int .i64 ((rd_T37 l0_0 x26_2).f0))).setCell ⟨gb485, 1, none⟩ (.slice A484_1 ((rd_T37 l0_0 x26_2).f1).length c484_1)).setCell ⟨gb485, 2, none⟩ (.slice A484_2 ((rd_T37 l0_0 x26_2).f2).length c484_2)).setCell ⟨gb485, 3, none⟩ (.slice A484_3 ((rd_T37 l0_0 x26_2).f3).length c484_3)).setCell ⟨gb485, 4, none⟩ (.int .i64 ((rd_T37 l0_0 x26_2).f4))).heap[gb481]? = some (.cells #[.slice (some ad484) l0_0.length c0_0, .int .i64 a0_1, .int .i64 a0_2] 59 (0, 0))) := ⟨by (with_reducible repeat (first | refine blk_drewN ?_ _ | refine blk_drew ?_ | refine blk_alloc ?_ _)); refine blk_far ?_ NB481_485.out _; (with_reducible repeat (first | refine blk_drewN ?_ _ | refine blk_drew ?_ | refine blk_alloc ?_ _)); refine blk_far ?_ NB481_485.out _; (with_reducible repeat (first | refine blk_drewN ?_ _ | refine blk_drew ?_ | refine blk_alloc ?_ _)); refine blk_far ?_ NB481_485.out _; (with_reducible repeat (first | refine blk_drewN ?_ _ | refine blk_drew ?_ | refine blk_alloc ?_ _)); refine blk_far ?_ NB481_485.out _; (with_reducible repeat (first | refine blk_drewN ?_ _ | refine blk_drew ?_ | refine blk_alloc ?_ _)); refine blk_far ?_ NB481_485.out _; (with_reducible repeat (first | refine blk_drewN ?_ _ | refine blk_drew ?_ | refine blk_alloc ?_ _)); exact BK481.out⟩
          have n1_ : Aside0 ((((((w33.setCell ⟨gb485, 0, none⟩ (.int .i64 ((rd_T37 l0_0 x26_2).f0))).setCell ⟨gb485, 1, none⟩ (.slice A484_1 ((rd_T37 l0_0 x26_2).f1).length c484_1)).setCell ⟨gb485, 2, none⟩ (.slice A484_2 ((rd_T37 l0_0 x26_2).f2).length c484_2)).setCell ⟨gb485, 3, none⟩ (.slice A484_3 ((rd_T37 l0_0 x26_2).f3).length c484_3)).setCell ⟨gb485, 4, none⟩ (.int .i64 ((rd_T37 l0_0 x26_2).f4))).heap[gb485]? = some (.cells #[.int .i64 ((rd_T37 l0_0 x26_2).f0), .slice A484_1 ((rd_T37 l0_0 x26_2).f1).length c484_1, .slice A484_2 ((rd_T37 l0_0 x26_2).f2).length c484_2, .slice A484_3 ((rd_T37 l0_0 x26_2).f3).length c484_3, .int .i64 ((rd_T37 l0_0 x26_2).f4)] 37 (0, 0))) := ⟨by (with_reducible repeat (first | refine blk_drewN ?_ _ | refine blk_drew ?_ | refine blk_alloc ?_ _)); refine blk_put (cs := #[.int .i64 ((rd_T37 l0_0 x26_2).f0), .slice A484_1 ((rd_T37 l0_0 x26_2).f1).length c484_1, .slice A484_2 ((rd_T37 l0_0 x26_2).f2).length c484_2, .slice A484_3 ((rd_T37 l0_0 x26_2).f3).length c484_3, .int .i64 0]) ?_ 4 _ rfl; (with_reducible repeat (first | refine blk_drewN ?_ _ | refine blk_drew ?_ | refine blk_alloc ?_ _)); refine blk_put (cs := #[.int .i64 ((rd_T37 l0_0 x26_2).f0), .slice A484_1 ((rd_T37 l0_0 x26_2).f1).length c484_1, .slice A484_2 ((rd_T37 l0_0 x26_2).f2).length c484_2, .slice none 0 0, .int .i64 0]) ?_ 3 _ rfl; (with_reducible repeat (first | refine blk_drewN ?_ _ | refine blk_drew ?_ | refine blk_alloc ?_ _)); refine blk_put (cs := #[.int .i64 ((rd_T37 l0_0 x26_2).f0), .slice A484_1 ((rd_T37 l0_0 x26_2).f1).length c484_1, .slice none 0 0, .slice none 0 0, .int .i64 0]) ?_ 2 _ rfl; (with_reducible repeat (first | refine blk_drewN ?_ _ | refine blk_drew ?_ | refine blk_alloc ?_ _)); refine blk_put (cs := #[.int .i64 ((rd_T37 l0_0 x26_2).f0), .slice none 0 0, .slice none 0 0, .slice none 0 0, .int .i64 0]) ?_ 1 _ rfl; (with_reducible repeat (first | refine blk_drewN ?_ _ | refine blk_drew ?_ | refine blk_alloc ?_ _)); refine blk_put (cs := #[.int .i64 0, .slice none 0 0, .slice none 0 0, .slice none 0 0, .int .i64 0]) ?_ 0 _ rfl; (with_reducible repeat (first | refine blk_drewN ?_ _ | refine blk_drew ?_ | refine blk_alloc ?_ _)); exact BK485.out⟩
          have n2_ : Aside0 (Below w.heap.size w (((((w33.setCell ⟨gb485, 0, none⟩ (.int .i64 ((rd_T37 l0_0 x26_2).f0))).setCell ⟨gb485, 1, none⟩ (.slice A484_1 ((rd_T37 l0_0 x26_2).f1).length c484_1)).setCell ⟨gb485, 2, none⟩ (.slice A484_2 ((rd_T37 l0_0 x26_2).f2).length c484_2)).setCell ⟨gb485, 3, none⟩ (.slice A484_3 ((rd_T37 l0_0 x26_2).f3).length c484_3)).setCell ⟨gb485, 4, none⟩ (.int .i64 ((rd_T37 l0_0 x26_2).f4)))) := ⟨bT2 HB GE481 GE485⟩
          (try clear BK481)
          (try clear BK485)
          (try clear HB)
          generalize (((((w33.setCell ⟨gb485, 0, none⟩ (.int .i64 ((rd_T37 l0_0 x26_2).f0))).setCell ⟨gb485, 1, none⟩ (.slice A484_1 ((rd_T37 l0_0 x26_2).f1).length c484_1)).setCell ⟨gb485, 2, none⟩ (.slice A484_2 ((rd_T37 l0_0 x26_2).f2).length c484_2)).setCell ⟨gb485, 3, none⟩ (.slice A484_3 ((rd_T37 l0_0 x26_2).f3).length c484_3)).setCell ⟨gb485, 4, none⟩ (.int .i64 ((rd_T37 l0_0 x26_2).f4))) = w36 at n0_ n1_ n2_ ⊢
          have BK481 := n0_
          have BK485 := n1_
          have HB := n2_
          clear n0_ n1_ n2_
          replace BK485 := mA (blk_drew BK485.out)
          replace HB := mA (below_drew1 HB.out)
          refine start_ (n := 13) (S := fun w' => w'.cell? ⟨gb485, 0, none⟩ = some (.int .i64 ((rd_T37 l0_0 x26_2).f0)) ∧ w'.cell? ⟨gb485, 1, none⟩ = some (.slice A484_1 ((rd_T37 l0_0 x26_2).f1).length c484_1) ∧ w'.cell? ⟨gb485, 2, none⟩ = some (.slice A484_2 ((rd_T37 l0_0 x26_2).f2).length c484_2) ∧ w'.cell? ⟨gb485, 3, none⟩ = some (.slice A484_3 ((rd_T37 l0_0 x26_2).f3).length c484_3) ∧ w'.cell? ⟨gb485, 4, none⟩ = some (.int .i64 ((rd_T37 l0_0 x26_2).f4))) (ds := []) #[false, false, false, false, false, false, false, false, false, false, false, false, false] (by kernel_rfl) rfl rfl ⟨(blk_cell BK485.out 0).trans rfl, (blk_cell BK485.out 1).trans rfl, (blk_cell BK485.out 2).trans rfl, (blk_cell BK485.out 3).trans rfl, (blk_cell BK485.out 4).trans rfl⟩ (fun hHeld => ?_); refine with_tabW impl_IsValidJoiner.tab7 impl_IsValidJoiner.bits7 (fun HT_ HW_ => ?_)
          generalize w36.drew = w37 at BK485 HB hHeld ⊢
          refine take_ (i := 0) (N := some 30) (v := ?_) (a' := ?_) #[true, false, false, false, false, false, false, false, false, false, false, false, false] rfl rfl (take_ofW HT_.out HW_.out (by kernel_rfl)) (fun _ _ _ h => h) (Or.inl ⟨by rfl, ?_⟩) hHeld ?_ ?_
          rotate_left
          ·
           rintro w' ⟨s0, s1, s2, s3, s4⟩
           go_simp
           with_reducible rfl
          rotate_left
          ·
           simp only [Act.put, List.setIfInBounds_toArray, List.set_cons_zero, List.set_cons_succ, i64_w, i32_w]
           rfl
          refine one_ (i := 1) (N := some 31) #[true, true, false, false, false, false, false, false, false, false, false, false, false] rfl rfl (one_of HT_.out (by kernel_rfl)) (by decide) (fun K hK => ?_)
          refine goes_ Try.func55 (by kernel_rfl) rfl #[.agg #[.int .i64 ((rd_T37 l0_0 x26_2).f0), .slice A484_1 ((rd_T37 l0_0 x26_2).f1).length c484_1, .slice A484_2 ((rd_T37 l0_0 x26_2).f2).length c484_2, .slice A484_3 ((rd_T37 l0_0 x26_2).f3).length c484_3, .int .i64 ((rd_T37 l0_0 x26_2).f4)]] (by rfl) rfl rfl mT ?_
          with_reducible refine (impl_IsValidTask.calls k2 ((rd_T37 l0_0 x26_2).f0) _ _ ((rd_T37 l0_0 x26_2).f1) _ _ ((rd_T37 l0_0 x26_2).f2) _ _ ((rd_T37 l0_0 x26_2).f3) ((rd_T37 l0_0 x26_2).f4) false _ ?side1 ?side2 ?side3 ?side4 ?side5 ?side6 A16.out).mono ?_
          (case side1 => exact cT (Kd.C_below HR484_1.out HB.out))
          (case side2 => exact HC484_1.out)
          (case side3 => exact cT (Kd.C_below HR484_2.out HB.out))
          (case side4 => exact HC484_2.out)
          (case side5 => exact cT (Kd.C_below HR484_3.out HB.out))
          (case side6 => exact HC484_3.out)
          rintro e w38 ⟨rfl, hb⟩
          refine ⟨_, rfl, ?_⟩
          replace BK485 := kB BK485 hb
          replace HB := mA (below_step (bT2 HB GE481 GE485) hb)
          (try clear hb)
          (try clear hb2)
          (try clear hk)
          (try clear hi)
          refine hK.out _ _ ⟨(blk_cell BK485.out 0).trans rfl, (blk_cell BK485.out 1).trans rfl, (blk_cell BK485.out 2).trans rfl, (blk_cell BK485.out 3).trans rfl, (blk_cell BK485.out 4).trans rfl⟩ (fun hHeld => ?_)
          clear hK K
          refine norm_ (a' := ?_) ?_ ?_
          rotate_left
          ·
           show Act.put _ (some 31) _ = _
           simp only [Act.put, List.setIfInBounds_toArray, List.set_cons_zero, List.set_cons_succ, i64_w, i32_w]
           rfl
          refine pureT (i := 2) (N := some 32) #[true, true, true, false, false, false, false, false, false, false, false, false, false] (any_of HT_.out (by kernel_rfl)) ?_
          refine pureT (i := 3) (N := some 33) #[true, true, true, true, false, false, false, false, false, false, false, false, false] (any_of HT_.out (by kernel_rfl)) ?_
          refine pure_ (i := 4) (N := some 34) (v := undef) (a' := ?_) #[true, true, true, true, true, false, false, false, false, false, false, false, false] rfl rfl (any_of HT_.out (by kernel_rfl)) (fun _ _ _ h => h) (Or.inr ⟨by rfl, rfl⟩) ?_ ?_
          rotate_left
          ·
           simp only [Act.put, List.setIfInBounds_toArray, List.set_cons_zero, List.set_cons_succ, i64_w, i32_w]
           rfl
          refine pure_ (i := 5) (N := some 35) (v := undef) (a' := ?_) #[true, true, true, true, true, true, false, false, false, false, false, false, false] rfl rfl (any_of HT_.out (by kernel_rfl)) (fun _ _ _ h => h) (Or.inr ⟨by rfl, rfl⟩) ?_ ?_
          rotate_left
          ·
           simp only [Act.put, List.setIfInBounds_toArray, List.set_cons_zero, List.set_cons_succ, i64_w, i32_w]
           rfl
          refine pure_ (i := 6) (N := some 36) (v := undef) (a' := ?_) #[true, true, true, true, true, true, true, false, false, false, false, false, false] rfl rfl (any_of HT_.out (by kernel_rfl)) (fun _ _ _ h => h) (Or.inr ⟨by rfl, rfl⟩) ?_ ?_
          rotate_left
          ·
           simp only [Act.put, List.setIfInBounds_toArray, List.set_cons_zero, List.set_cons_succ, i64_w, i32_w]
           rfl
          refine pure_ (i := 7) (N := some 37) (v := undef) (a' := ?_) #[true, true, true, true, true, true, true, true, false, false, false, false, false] rfl rfl (any_of HT_.out (by kernel_rfl)) (fun _ _ _ h => h) (Or.inr ⟨by rfl, rfl⟩) ?_ ?_
          rotate_left
          ·
           simp only [Act.put, List.setIfInBounds_toArray, List.set_cons_zero, List.set_cons_succ, i64_w, i32_w]
           rfl
          refine pure_ (i := 8) (N := some 38) (v := undef) (a' := ?_) #[true, true, true, true, true, true, true, true, true, false, false, false, false] rfl rfl (any_of HT_.out (by kernel_rfl)) (fun _ _ _ h => h) (Or.inr ⟨by rfl, rfl⟩) ?_ ?_
          rotate_left
          ·
           simp only [Act.put, List.setIfInBounds_toArray, List.set_cons_zero, List.set_cons_succ, i64_w, i32_w]
           rfl
          refine pure_ (i := 9) (N := some 39) (v := undef) (a' := ?_) #[true, true, true, true, true, true, true, true, true, true, false, false, false] rfl rfl (any_of HT_.out (by kernel_rfl)) (fun _ _ _ h => h) (Or.inr ⟨by rfl, rfl⟩) ?_ ?_
          rotate_left
          ·
           simp only [Act.put, List.setIfInBounds_toArray, List.set_cons_zero, List.set_cons_succ, i64_w, i32_w]
           rfl
          refine pure_ (i := 10) (N := some 40) (v := undef) (a' := ?_) #[true, true, true, true, true, true, true, true, true, true, true, false, false] rfl rfl (any_of HT_.out (by kernel_rfl)) (fun _ _ _ h => h) (Or.inr ⟨by rfl, rfl⟩) ?_ ?_
          rotate_left
          ·
           simp only [Act.put, List.setIfInBounds_toArray, List.set_cons_zero, List.set_cons_succ, i64_w, i32_w]
           rfl
          refine pure_ (i := 11) (N := some 41) (v := undef) (a' := ?_) #[true, true, true, true, true, true, true, true, true, true, true, true, false] rfl rfl (any_of HT_.out (by kernel_rfl)) (fun _ _ _ h => h) (Or.inr ⟨by rfl, rfl⟩) ?_ ?_
          rotate_left
          ·
           simp only [Act.put, List.setIfInBounds_toArray, List.set_cons_zero, List.set_cons_succ, i64_w, i32_w]
           rfl
          refine pureT (i := 12) (N := some 42) #[true, true, true, true, true, true, true, true, true, true, true, true, true] (any_of HT_.out (by kernel_rfl)) ?_
          refine done_ (done_of HT_.out (by kernel_rfl)) ?_
          try go_wp2
          go_ret
          exact ⟨eT, bT2 HB GE481 GE485⟩
        ·
         rw [if_neg c15] at H
         exact absurd H (by simp)
       ·
        rw [if_neg c14] at H
        exact absurd H (by simp)
      ·
       rw [if_neg c13] at H
       have c13b0 : decide (x26_2 < (l0_0.length : Int)) = false := decide_eq_false c13
       clear c13
       by_cases c39 : x3_2 ≤ 24
       ·
        rw [if_pos c39] at H
        have c39b0 : decide (x3_2 ≤ 24) = true := decide_eq_true c39
        clear c39
        obtain rfl := Option.some.inj H
        go_wp2
        go_ret
        exact ⟨eT, bT1 HB GE481⟩
       ·
        rw [if_neg c39] at H
        have c39b0 : decide (x3_2 ≤ 24) = false := decide_eq_false c39
        clear c39
        obtain rfl := Option.some.inj H
        go_wp2
        go_ret
        exact ⟨eT, bT1 HB GE481⟩

/-! ### laws_eqTaskS: function 68 -/
def laws_eqTaskS.l0 : Nat → List (S37) → List (S37) → Int → Option (Bool)
 | 0, _, _, _ => none
 | k + 1, x0, x1, x5 => if x5 < (x0.length : Int) then (if 0 ≤ x5 then (if x5 < (x1.length : Int) then ((laws_eqTask.f k ((rd_T37 x0 x5).f0) ((rd_T37 x0 x5).f1) ((rd_T37 x0 x5).f2) ((rd_T37 x0 x5).f3) ((rd_T37 x0 x5).f4) ((rd_T37 x1 x5).f0) ((rd_T37 x1 x5).f1) ((rd_T37 x1 x5).f2) ((rd_T37 x1 x5).f3) ((rd_T37 x1 x5).f4)).bind fun t504 => (if t504 = true then (laws_eqTaskS.l0 k x0 x1 (wrap64 (x5 + 1))) else (some false))) else (none)) else (none)) else (some true)
def laws_eqTaskS.f (k : Nat) (l0 : List (S37)) (l1 : List (S37)) : Option (Bool) := if (l0.length : Int) = (l1.length : Int) then (laws_eqTaskS.l0 k l0 l1 0) else (some false)
theorem laws_eqTaskS.mono_l : ∀ k, (∀ y0 y1 y2, LeO (laws_eqTaskS.l0 k y0 y1 y2) (laws_eqTaskS.l0 (k + 1) y0 y1 y2))
 | 0 => fun _ _ _ r h => by simp [laws_eqTaskS.l0] at h
 | k + 1 => by
  have ih0 := laws_eqTaskS.mono_l k
  ·
   intro y0 y1 y2
   unfold laws_eqTaskS.l0
   repeat' first
   | (with_reducible exact ih0 _ _ _)
   | (with_reducible exact laws_eqTask.mono _ _ _ _ _ _ _ _ _ _ _)
   | (with_reducible exact LeO.refl _)
   | (with_reducible exact LeO.none _)
   | (with_reducible refine LeO.ite ?_ ?_)
   | (with_reducible refine LeO.bind ?_ (fun _ => ?_))
   | exact ih0 _ _ _
   | exact laws_eqTask.mono _ _ _ _ _ _ _ _ _ _ _
   | exact LeO.none _
   | refine LeO.ite ?_ ?_
   | refine LeO.bind ?_ (fun _ => ?_)
theorem laws_eqTaskS.mono : ∀ a0 a1 k, LeO (laws_eqTaskS.f k a0 a1) (laws_eqTaskS.f (k + 1) a0 a1) := by
 intro a0 a1 k
 have ih0 := laws_eqTaskS.mono_l k
 unfold laws_eqTaskS.f
 repeat' first
   | (with_reducible exact ih0 _ _ _)
   | (with_reducible exact laws_eqTask.mono _ _ _ _ _ _ _ _ _ _ _)
   | (with_reducible exact LeO.refl _)
   | (with_reducible exact LeO.none _)
   | (with_reducible refine LeO.ite ?_ ?_)
   | (with_reducible refine LeO.bind ?_ (fun _ => ?_))
   | exact ih0 _ _ _
   | exact laws_eqTask.mono _ _ _ _ _ _ _ _ _ _ _
   | exact LeO.none _
   | refine LeO.ite ?_ ?_
   | refine LeO.bind ?_ (fun _ => ?_)
def laws_eqTaskS.T6 : Bool × List (List Nat × List Nat) := (true, [([], []), ([], []), ([0, 1], [0, 1]), ([2], [2]), ([], []), ([], []), ([4, 5], [4, 5]), ([6], [6]), ([3, 7], [3, 7]), ([8], [8])])
def laws_eqTaskS.B6 : List Nat := [0, 0, 3, 7, 0, 0, 48, 112, 255, 511]
theorem laws_eqTaskS.tab6 : rtab .any (opsOf Try.f68 6) = laws_eqTaskS.T6 := by kernel_rfl
theorem laws_eqTaskS.bits6 : waitsOk laws_eqTaskS.T6.2 laws_eqTaskS.B6 = true := by kernel_rfl
set_option maxHeartbeats 8000000 in
set_option maxRecDepth 100000 in
theorem laws_eqTaskS.calls (k : Nat) (A0 : Option Addr) (c0 : Nat) (l0 : List (S37)) (A1 : Option Addr) (c1 : Nat) (l1 : List (S37)) (r : Bool) (w : World) (hr0 : Kd.C k37 w A0 l0.length l0) (hc0 : l0.length ≤ c0) (hr1 : Kd.C k37 w A1 l1.length l1) (hc1 : l1.length ≤ c1) (h : laws_eqTaskS.f k l0 l1 = some r) :
  Calls Try.prog 68 #[.slice A0 l0.length c0, .slice A1 l1.length c1] w fun e w' => e = .returned (.bool r) ∧ Below w.heap.size w w' := by
 have hu37 := Try.underlying37
 have HR0 := mA hr0
 have HC0 := mA hc0
 clear hr0 hc0
 have HR1 := mA hr1
 have HC1 := mA hc1
 clear hr1 hc1
 have HB := mA (Below.refl w.heap.size w)
 have H : (if (l0.length : Int) = (l1.length : Int) then (laws_eqTaskS.l0 k l0 l1 0) else (some false)) = some r := h
 clear h
 by_cases c3 : (l0.length : Int) = (l1.length : Int)
 ·
  rw [if_pos c3] at H
  have c3b0 : ((l0.length : Int) == (l1.length : Int)) = true := beq_iff_eq.mpr c3
  have c3b1 : ((l0.length : Int) != (l1.length : Int)) = false := bne_eq_false_iff_eq.mpr c3
  have c3b2 : (l0.length == l1.length) = true := by first | simpa using c3 | (simp at c3 ⊢; omega)
  clear c3
  have H' := mA H
  clear H
  go_enter Try.func68, Try.ntmps68
  go_wp2
  go_loopg [5] k (fun kq v5 w' => ∃ (x5_1 : Int), v5 = .int .i64 x5_1 ∧ Aside0 (laws_eqTaskS.l0 kq l0 l1 x5_1 = some r) ∧ Aside0 (kq ≤ k) ∧ Aside0 (Below w.heap.size w w'))
  case atStart => exact ⟨(0), sT, H', ⟨Nat.le_refl _⟩, ⟨bT HB⟩⟩
  case round =>
   clear H'
   try clear c1
   try clear p2
   try clear c3
   try clear c3b0
   try clear c3b1
   try clear c3b2
   obtain ⟨x5_1, rfl, HA, HK1, HB⟩ := hrel
   cases gk with
   | zero => exact absurd HA.out (by simp [laws_eqTaskS.l0])
   | succ k1 =>
    have H := HA.out
    clear HA
    simp only [laws_eqTaskS.l0] at H
    by_cases c4 : x5_1 < (l0.length : Int)
    ·
     rw [if_pos c4] at H
     have c4b0 : decide (x5_1 < (l0.length : Int)) = true := decide_eq_true c4
     clear c4
     by_cases c5 : 0 ≤ x5_1
     ·
      rw [if_pos c5] at H
      have c5b0 : decide (0 ≤ x5_1) = true := decide_eq_true c5
      clear c5
      by_cases c6 : x5_1 < (l1.length : Int)
      ·
       rw [if_pos c6] at H
       have c6b0 : decide (x5_1 < (l1.length : Int)) = true := decide_eq_true c6
       clear c6
       obtain ⟨t504, A7, H⟩ := Option.bind_eq_some_iff.mp H
       replace A7 := mA A7
       try dsimp only at H
       by_cases c8 : t504 = true
       ·
        subst c8
        rw [if_pos rfl] at H
        have H' := mA H
        clear H
        try go_wp2
        replace HB := mA (below_drew1 HB.out)
        have p502 : 0 ≤ (x5_1 : Int) := of_decide_eq_true aT
        have q502 : x5_1 < (l0.length : Int) := of_decide_eq_true aT
        obtain ⟨ad502, A502_1, c502_1, A502_2, c502_2, A502_3, c502_3, e502, hx502_0, hx502_1, hx502_2, hx502_3, hx502_4, hl502_1, hi502_1, hl502_2, hi502_2, hl502_3, hi502_3⟩ := at_T37 HR0.out x5_1 p502 q502
        have hw502_4 := hx502_4
        have hw502_3 := hx502_3
        have hw502_2 := hx502_2
        have hw502_1 := hx502_1
        have hw502_0 := hx502_0
        cases e502
        replace hx502_0 := (HB.out.cell (World.block_lt_of_cell? w _ hx502_0)).trans hx502_0
        replace hx502_1 := (HB.out.cell (World.block_lt_of_cell? w _ hx502_1)).trans hx502_1
        replace hx502_2 := (HB.out.cell (World.block_lt_of_cell? w _ hx502_2)).trans hx502_2
        replace hx502_3 := (HB.out.cell (World.block_lt_of_cell? w _ hx502_3)).trans hx502_3
        replace hx502_4 := (HB.out.cell (World.block_lt_of_cell? w _ hx502_4)).trans hx502_4
        have HR502_1 := mA hi502_1
        have HC502_1 := mA hl502_1
        clear hi502_1 hl502_1
        have HR502_2 := mA hi502_2
        have HC502_2 := mA hl502_2
        clear hi502_2 hl502_2
        have HR502_3 := mA hi502_3
        have HC502_3 := mA hl502_3
        clear hi502_3 hl502_3
        replace p502 := eq_true p502
        replace q502 := eq_true q502
        have p503 : 0 ≤ (x5_1 : Int) := of_decide_eq_true aT
        have q503 : x5_1 < (l1.length : Int) := of_decide_eq_true aT
        obtain ⟨ad503, A503_1, c503_1, A503_2, c503_2, A503_3, c503_3, e503, hx503_0, hx503_1, hx503_2, hx503_3, hx503_4, hl503_1, hi503_1, hl503_2, hi503_2, hl503_3, hi503_3⟩ := at_T37 HR1.out x5_1 p503 q503
        have hw503_4 := hx503_4
        have hw503_3 := hx503_3
        have hw503_2 := hx503_2
        have hw503_1 := hx503_1
        have hw503_0 := hx503_0
        cases e503
        replace hx503_0 := (HB.out.cell (World.block_lt_of_cell? w _ hx503_0)).trans hx503_0
        replace hx503_1 := (HB.out.cell (World.block_lt_of_cell? w _ hx503_1)).trans hx503_1
        replace hx503_2 := (HB.out.cell (World.block_lt_of_cell? w _ hx503_2)).trans hx503_2
        replace hx503_3 := (HB.out.cell (World.block_lt_of_cell? w _ hx503_3)).trans hx503_3
        replace hx503_4 := (HB.out.cell (World.block_lt_of_cell? w _ hx503_4)).trans hx503_4
        have HR503_1 := mA hi503_1
        have HC503_1 := mA hl503_1
        clear hi503_1 hl503_1
        have HR503_2 := mA hi503_2
        have HC503_2 := mA hl503_2
        clear hi503_2 hl503_2
        have HR503_3 := mA hi503_3
        have HC503_3 := mA hl503_3
        clear hi503_3 hl503_3
        replace p503 := eq_true p503
        replace q503 := eq_true q503
        refine start_ (n := 10) (S := fun w' => w'.cell? (ad502.add ((x5_1).toNat * 5)) = some (.int .i64 ((rd_T37 l0 x5_1).f0)) ∧ w'.cell? ⟨(ad502.add ((x5_1).toNat * 5)).block, (ad502.add ((x5_1).toNat * 5)).off + 1, none⟩ = some (.slice A502_1 ((rd_T37 l0 x5_1).f1).length c502_1) ∧ w'.cell? ⟨(ad502.add ((x5_1).toNat * 5)).block, (ad502.add ((x5_1).toNat * 5)).off + 2, none⟩ = some (.slice A502_2 ((rd_T37 l0 x5_1).f2).length c502_2) ∧ w'.cell? ⟨(ad502.add ((x5_1).toNat * 5)).block, (ad502.add ((x5_1).toNat * 5)).off + 3, none⟩ = some (.slice A502_3 ((rd_T37 l0 x5_1).f3).length c502_3) ∧ w'.cell? ⟨(ad502.add ((x5_1).toNat * 5)).block, (ad502.add ((x5_1).toNat * 5)).off + 4, none⟩ = some (.int .i64 ((rd_T37 l0 x5_1).f4)) ∧ w'.cell? (ad503.add ((x5_1).toNat * 5)) = some (.int .i64 ((rd_T37 l1 x5_1).f0)) ∧ w'.cell? ⟨(ad503.add ((x5_1).toNat * 5)).block, (ad503.add ((x5_1).toNat * 5)).off + 1, none⟩ = some (.slice A503_1 ((rd_T37 l1 x5_1).f1).length c503_1) ∧ w'.cell? ⟨(ad503.add ((x5_1).toNat * 5)).block, (ad503.add ((x5_1).toNat * 5)).off + 2, none⟩ = some (.slice A503_2 ((rd_T37 l1 x5_1).f2).length c503_2) ∧ w'.cell? ⟨(ad503.add ((x5_1).toNat * 5)).block, (ad503.add ((x5_1).toNat * 5)).off + 3, none⟩ = some (.slice A503_3 ((rd_T37 l1 x5_1).f3).length c503_3) ∧ w'.cell? ⟨(ad503.add ((x5_1).toNat * 5)).block, (ad503.add ((x5_1).toNat * 5)).off + 4, none⟩ = some (.int .i64 ((rd_T37 l1 x5_1).f4))) (ds := []) #[false, false, false, false, false, false, false, false, false, false] (by kernel_rfl) rfl rfl ⟨((HB.out.cell (World.block_lt_of_cell? w _ hw502_0)).trans hw502_0), ((HB.out.cell (World.block_lt_of_cell? w _ hw502_1)).trans hw502_1), ((HB.out.cell (World.block_lt_of_cell? w _ hw502_2)).trans hw502_2), ((HB.out.cell (World.block_lt_of_cell? w _ hw502_3)).trans hw502_3), ((HB.out.cell (World.block_lt_of_cell? w _ hw502_4)).trans hw502_4), ((HB.out.cell (World.block_lt_of_cell? w _ hw503_0)).trans hw503_0), ((HB.out.cell (World.block_lt_of_cell? w _ hw503_1)).trans hw503_1), ((HB.out.cell (World.block_lt_of_cell? w _ hw503_2)).trans hw503_2), ((HB.out.cell (World.block_lt_of_cell? w _ hw503_3)).trans hw503_3), ((HB.out.cell (World.block_lt_of_cell? w _ hw503_4)).trans hw503_4)⟩ (fun hHeld => ?_); refine with_tabW laws_eqTaskS.tab6 laws_eqTaskS.bits6 (fun HT_ HW_ => ?_)
        generalize wr.drew = w9 at HB HR502_1 HR502_2 HR502_3 HR503_1 HR503_2 HR503_3 hx502_0 hx502_1 hx502_2 hx502_3 hx502_4 hx503_0 hx503_1 hx503_2 hx503_3 hx503_4 hHeld ⊢
        refine pureT (i := 0) (N := some 17) #[true, false, false, false, false, false, false, false, false, false] (any_of HT_.out (by kernel_rfl)) ?_
        refine pureT (i := 1) (N := some 18) #[true, true, false, false, false, false, false, false, false, false] (any_of HT_.out (by kernel_rfl)) ?_
        refine pureT (i := 2) (N := some 19) #[true, true, true, false, false, false, false, false, false, false] (any_of HT_.out (by kernel_rfl)) ?_
        refine pureT (i := 4) (N := some 21) #[true, true, true, false, true, false, false, false, false, false] (any_of HT_.out (by kernel_rfl)) ?_
        refine pureT (i := 5) (N := some 22) #[true, true, true, false, true, true, false, false, false, false] (any_of HT_.out (by kernel_rfl)) ?_
        refine pureT (i := 6) (N := some 23) #[true, true, true, false, true, true, true, false, false, false] (any_of HT_.out (by kernel_rfl)) ?_
        refine take_ (i := 3) (N := some 20) (v := ?_) (a' := ?_) #[true, true, true, true, true, true, true, false, false, false] rfl rfl (take_ofW HT_.out HW_.out (by kernel_rfl)) (fun _ _ _ h => h) (Or.inl ⟨by rfl, ?_⟩) hHeld ?_ ?_
        rotate_left
        ·
         rintro w' ⟨s0, s1, s2, s3, s4, s5, s6, s7, s8, s9⟩
         go_simp
         with_reducible rfl
        rotate_left
        ·
         simp only [Act.put, List.setIfInBounds_toArray, List.set_cons_zero, List.set_cons_succ, i64_w, i32_w]
         rfl
        refine take_ (i := 7) (N := some 24) (v := ?_) (a' := ?_) #[true, true, true, true, true, true, true, true, false, false] rfl rfl (take_ofW HT_.out HW_.out (by kernel_rfl)) (fun _ _ _ h => h) (Or.inl ⟨by rfl, ?_⟩) hHeld ?_ ?_
        rotate_left
        ·
         rintro w' ⟨s0, s1, s2, s3, s4, s5, s6, s7, s8, s9⟩
         go_simp
         with_reducible rfl
        rotate_left
        ·
         simp only [Act.put, List.setIfInBounds_toArray, List.set_cons_zero, List.set_cons_succ, i64_w, i32_w]
         rfl
        refine one_ (i := 8) (N := some 25) #[true, true, true, true, true, true, true, true, true, false] rfl rfl (one_of HT_.out (by kernel_rfl)) (by decide) (fun K hK => ?_)
        refine goes_ Try.func19 (by kernel_rfl) rfl #[.agg #[.int .i64 ((rd_T37 l0 x5_1).f0), .slice A502_1 ((rd_T37 l0 x5_1).f1).length c502_1, .slice A502_2 ((rd_T37 l0 x5_1).f2).length c502_2, .slice A502_3 ((rd_T37 l0 x5_1).f3).length c502_3, .int .i64 ((rd_T37 l0 x5_1).f4)], .agg #[.int .i64 ((rd_T37 l1 x5_1).f0), .slice A503_1 ((rd_T37 l1 x5_1).f1).length c503_1, .slice A503_2 ((rd_T37 l1 x5_1).f2).length c503_2, .slice A503_3 ((rd_T37 l1 x5_1).f3).length c503_3, .int .i64 ((rd_T37 l1 x5_1).f4)]] (by rfl) rfl rfl mT ?_
        with_reducible refine (laws_eqTask.calls k1 ((rd_T37 l0 x5_1).f0) _ _ ((rd_T37 l0 x5_1).f1) _ _ ((rd_T37 l0 x5_1).f2) _ _ ((rd_T37 l0 x5_1).f3) ((rd_T37 l0 x5_1).f4) ((rd_T37 l1 x5_1).f0) _ _ ((rd_T37 l1 x5_1).f1) _ _ ((rd_T37 l1 x5_1).f2) _ _ ((rd_T37 l1 x5_1).f3) ((rd_T37 l1 x5_1).f4) true _ ?side1 ?side2 ?side3 ?side4 ?side5 ?side6 ?side7 ?side8 ?side9 ?side10 ?side11 ?side12 A7.out).mono ?_
        (case side1 => exact cT (Kd.C_below HR502_1.out HB.out))
        (case side2 => exact HC502_1.out)
        (case side3 => exact cT (Kd.C_below HR502_2.out HB.out))
        (case side4 => exact HC502_2.out)
        (case side5 => exact cT (Kd.C_below HR502_3.out HB.out))
        (case side6 => exact HC502_3.out)
        (case side7 => exact cT (Kd.C_below HR503_1.out HB.out))
        (case side8 => exact HC503_1.out)
        (case side9 => exact cT (Kd.C_below HR503_2.out HB.out))
        (case side10 => exact HC503_2.out)
        (case side11 => exact cT (Kd.C_below HR503_3.out HB.out))
        (case side12 => exact HC503_3.out)
        rintro e w10 ⟨rfl, hb⟩
        refine ⟨_, rfl, ?_⟩
        replace HB := mA (below_step (bT HB) hb)
        (try clear hb)
        (try clear hb2)
        (try clear hk)
        (try clear hi)
        refine hK.out _ _ ⟨((HB.out.cell (World.block_lt_of_cell? w _ hw502_0)).trans hw502_0), ((HB.out.cell (World.block_lt_of_cell? w _ hw502_1)).trans hw502_1), ((HB.out.cell (World.block_lt_of_cell? w _ hw502_2)).trans hw502_2), ((HB.out.cell (World.block_lt_of_cell? w _ hw502_3)).trans hw502_3), ((HB.out.cell (World.block_lt_of_cell? w _ hw502_4)).trans hw502_4), ((HB.out.cell (World.block_lt_of_cell? w _ hw503_0)).trans hw503_0), ((HB.out.cell (World.block_lt_of_cell? w _ hw503_1)).trans hw503_1), ((HB.out.cell (World.block_lt_of_cell? w _ hw503_2)).trans hw503_2), ((HB.out.cell (World.block_lt_of_cell? w _ hw503_3)).trans hw503_3), ((HB.out.cell (World.block_lt_of_cell? w _ hw503_4)).trans hw503_4)⟩ (fun hHeld => ?_)
        clear hK K
        refine norm_ (a' := ?_) ?_ ?_
        rotate_left
        ·
         show Act.put _ (some 25) _ = _
         simp only [Act.put, List.setIfInBounds_toArray, List.set_cons_zero, List.set_cons_succ, i64_w, i32_w]
         rfl
        refine pureT (i := 9) (N := some 26) #[true, true, true, true, true, true, true, true, true, true] (any_of HT_.out (by kernel_rfl)) ?_
        refine done_ (done_of HT_.out (by kernel_rfl)) ?_
        try go_wp2
        go_roundg k1
        case measure => have := HK1.out; omega
        case rel => exact ⟨(wrap64 (x5_1 + 1)), sT, H', ⟨by have := HK1.out; omega⟩, ⟨bT HB⟩⟩
       ·
        replace c8 := Bool.eq_false_iff.mpr c8
        subst c8
        rw [if_neg (show ¬ (false = true) by decide)] at H
        obtain rfl := Option.some.inj H
        try go_wp2
        replace HB := mA (below_drew1 HB.out)
        have p502 : 0 ≤ (x5_1 : Int) := of_decide_eq_true aT
        have q502 : x5_1 < (l0.length : Int) := of_decide_eq_true aT
        obtain ⟨ad502, A502_1, c502_1, A502_2, c502_2, A502_3, c502_3, e502, hx502_0, hx502_1, hx502_2, hx502_3, hx502_4, hl502_1, hi502_1, hl502_2, hi502_2, hl502_3, hi502_3⟩ := at_T37 HR0.out x5_1 p502 q502
        have hw502_4 := hx502_4
        have hw502_3 := hx502_3
        have hw502_2 := hx502_2
        have hw502_1 := hx502_1
        have hw502_0 := hx502_0
        cases e502
        replace hx502_0 := (HB.out.cell (World.block_lt_of_cell? w _ hx502_0)).trans hx502_0
        replace hx502_1 := (HB.out.cell (World.block_lt_of_cell? w _ hx502_1)).trans hx502_1
        replace hx502_2 := (HB.out.cell (World.block_lt_of_cell? w _ hx502_2)).trans hx502_2
        replace hx502_3 := (HB.out.cell (World.block_lt_of_cell? w _ hx502_3)).trans hx502_3
        replace hx502_4 := (HB.out.cell (World.block_lt_of_cell? w _ hx502_4)).trans hx502_4
        have HR502_1 := mA hi502_1
        have HC502_1 := mA hl502_1
        clear hi502_1 hl502_1
        have HR502_2 := mA hi502_2
        have HC502_2 := mA hl502_2
        clear hi502_2 hl502_2
        have HR502_3 := mA hi502_3
        have HC502_3 := mA hl502_3
        clear hi502_3 hl502_3
        replace p502 := eq_true p502
        replace q502 := eq_true q502
        have p503 : 0 ≤ (x5_1 : Int) := of_decide_eq_true aT
        have q503 : x5_1 < (l1.length : Int) := of_decide_eq_true aT
        obtain ⟨ad503, A503_1, c503_1, A503_2, c503_2, A503_3, c503_3, e503, hx503_0, hx503_1, hx503_2, hx503_3, hx503_4, hl503_1, hi503_1, hl503_2, hi503_2, hl503_3, hi503_3⟩ := at_T37 HR1.out x5_1 p503 q503
        have hw503_4 := hx503_4
        have hw503_3 := hx503_3
        have hw503_2 := hx503_2
        have hw503_1 := hx503_1
        have hw503_0 := hx503_0
        cases e503
        replace hx503_0 := (HB.out.cell (World.block_lt_of_cell? w _ hx503_0)).trans hx503_0
        replace hx503_1 := (HB.out.cell (World.block_lt_of_cell? w _ hx503_1)).trans hx503_1
        replace hx503_2 := (HB.out.cell (World.block_lt_of_cell? w _ hx503_2)).trans hx503_2
        replace hx503_3 := (HB.out.cell (World.block_lt_of_cell? w _ hx503_3)).trans hx503_3
        replace hx503_4 := (HB.out.cell (World.block_lt_of_cell? w _ hx503_4)).trans hx503_4
        have HR503_1 := mA hi503_1
        have HC503_1 := mA hl503_1
        clear hi503_1 hl503_1
        have HR503_2 := mA hi503_2
        have HC503_2 := mA hl503_2
        clear hi503_2 hl503_2
        have HR503_3 := mA hi503_3
        have HC503_3 := mA hl503_3
        clear hi503_3 hl503_3
        replace p503 := eq_true p503
        replace q503 := eq_true q503
        refine start_ (n := 10) (S := fun w' => w'.cell? (ad502.add ((x5_1).toNat * 5)) = some (.int .i64 ((rd_T37 l0 x5_1).f0)) ∧ w'.cell? ⟨(ad502.add ((x5_1).toNat * 5)).block, (ad502.add ((x5_1).toNat * 5)).off + 1, none⟩ = some (.slice A502_1 ((rd_T37 l0 x5_1).f1).length c502_1) ∧ w'.cell? ⟨(ad502.add ((x5_1).toNat * 5)).block, (ad502.add ((x5_1).toNat * 5)).off + 2, none⟩ = some (.slice A502_2 ((rd_T37 l0 x5_1).f2).length c502_2) ∧ w'.cell? ⟨(ad502.add ((x5_1).toNat * 5)).block, (ad502.add ((x5_1).toNat * 5)).off + 3, none⟩ = some (.slice A502_3 ((rd_T37 l0 x5_1).f3).length c502_3) ∧ w'.cell? ⟨(ad502.add ((x5_1).toNat * 5)).block, (ad502.add ((x5_1).toNat * 5)).off + 4, none⟩ = some (.int .i64 ((rd_T37 l0 x5_1).f4)) ∧ w'.cell? (ad503.add ((x5_1).toNat * 5)) = some (.int .i64 ((rd_T37 l1 x5_1).f0)) ∧ w'.cell? ⟨(ad503.add ((x5_1).toNat * 5)).block, (ad503.add ((x5_1).toNat * 5)).off + 1, none⟩ = some (.slice A503_1 ((rd_T37 l1 x5_1).f1).length c503_1) ∧ w'.cell? ⟨(ad503.add ((x5_1).toNat * 5)).block, (ad503.add ((x5_1).toNat * 5)).off + 2, none⟩ = some (.slice A503_2 ((rd_T37 l1 x5_1).f2).length c503_2) ∧ w'.cell? ⟨(ad503.add ((x5_1).toNat * 5)).block, (ad503.add ((x5_1).toNat * 5)).off + 3, none⟩ = some (.slice A503_3 ((rd_T37 l1 x5_1).f3).length c503_3) ∧ w'.cell? ⟨(ad503.add ((x5_1).toNat * 5)).block, (ad503.add ((x5_1).toNat * 5)).off + 4, none⟩ = some (.int .i64 ((rd_T37 l1 x5_1).f4))) (ds := []) #[false, false, false, false, false, false, false, false, false, false] (by kernel_rfl) rfl rfl ⟨((HB.out.cell (World.block_lt_of_cell? w _ hw502_0)).trans hw502_0), ((HB.out.cell (World.block_lt_of_cell? w _ hw502_1)).trans hw502_1), ((HB.out.cell (World.block_lt_of_cell? w _ hw502_2)).trans hw502_2), ((HB.out.cell (World.block_lt_of_cell? w _ hw502_3)).trans hw502_3), ((HB.out.cell (World.block_lt_of_cell? w _ hw502_4)).trans hw502_4), ((HB.out.cell (World.block_lt_of_cell? w _ hw503_0)).trans hw503_0), ((HB.out.cell (World.block_lt_of_cell? w _ hw503_1)).trans hw503_1), ((HB.out.cell (World.block_lt_of_cell? w _ hw503_2)).trans hw503_2), ((HB.out.cell (World.block_lt_of_cell? w _ hw503_3)).trans hw503_3), ((HB.out.cell (World.block_lt_of_cell? w _ hw503_4)).trans hw503_4)⟩ (fun hHeld => ?_); refine with_tabW laws_eqTaskS.tab6 laws_eqTaskS.bits6 (fun HT_ HW_ => ?_)
        generalize wr.drew = w11 at HB HR502_1 HR502_2 HR502_3 HR503_1 HR503_2 HR503_3 hx502_0 hx502_1 hx502_2 hx502_3 hx502_4 hx503_0 hx503_1 hx503_2 hx503_3 hx503_4 hHeld ⊢
        refine pureT (i := 0) (N := some 17) #[true, false, false, false, false, false, false, false, false, false] (any_of HT_.out (by kernel_rfl)) ?_
        refine pureT (i := 1) (N := some 18) #[true, true, false, false, false, false, false, false, false, false] (any_of HT_.out (by kernel_rfl)) ?_
        refine pureT (i := 2) (N := some 19) #[true, true, true, false, false, false, false, false, false, false] (any_of HT_.out (by kernel_rfl)) ?_
        refine pureT (i := 4) (N := some 21) #[true, true, true, false, true, false, false, false, false, false] (any_of HT_.out (by kernel_rfl)) ?_
        refine pureT (i := 5) (N := some 22) #[true, true, true, false, true, true, false, false, false, false] (any_of HT_.out (by kernel_rfl)) ?_
        refine pureT (i := 6) (N := some 23) #[true, true, true, false, true, true, true, false, false, false] (any_of HT_.out (by kernel_rfl)) ?_
        refine take_ (i := 3) (N := some 20) (v := ?_) (a' := ?_) #[true, true, true, true, true, true, true, false, false, false] rfl rfl (take_ofW HT_.out HW_.out (by kernel_rfl)) (fun _ _ _ h => h) (Or.inl ⟨by rfl, ?_⟩) hHeld ?_ ?_
        rotate_left
        ·
         rintro w' ⟨s0, s1, s2, s3, s4, s5, s6, s7, s8, s9⟩
         go_simp
         with_reducible rfl
        rotate_left
        ·
         simp only [Act.put, List.setIfInBounds_toArray, List.set_cons_zero, List.set_cons_succ, i64_w, i32_w]
         rfl
        refine take_ (i := 7) (N := some 24) (v := ?_) (a' := ?_) #[true, true, true, true, true, true, true, true, false, false] rfl rfl (take_ofW HT_.out HW_.out (by kernel_rfl)) (fun _ _ _ h => h) (Or.inl ⟨by rfl, ?_⟩) hHeld ?_ ?_
        rotate_left
        ·
         rintro w' ⟨s0, s1, s2, s3, s4, s5, s6, s7, s8, s9⟩
         go_simp
         with_reducible rfl
        rotate_left
        ·
         simp only [Act.put, List.setIfInBounds_toArray, List.set_cons_zero, List.set_cons_succ, i64_w, i32_w]
         rfl
        refine one_ (i := 8) (N := some 25) #[true, true, true, true, true, true, true, true, true, false] rfl rfl (one_of HT_.out (by kernel_rfl)) (by decide) (fun K hK => ?_)
        refine goes_ Try.func19 (by kernel_rfl) rfl #[.agg #[.int .i64 ((rd_T37 l0 x5_1).f0), .slice A502_1 ((rd_T37 l0 x5_1).f1).length c502_1, .slice A502_2 ((rd_T37 l0 x5_1).f2).length c502_2, .slice A502_3 ((rd_T37 l0 x5_1).f3).length c502_3, .int .i64 ((rd_T37 l0 x5_1).f4)], .agg #[.int .i64 ((rd_T37 l1 x5_1).f0), .slice A503_1 ((rd_T37 l1 x5_1).f1).length c503_1, .slice A503_2 ((rd_T37 l1 x5_1).f2).length c503_2, .slice A503_3 ((rd_T37 l1 x5_1).f3).length c503_3, .int .i64 ((rd_T37 l1 x5_1).f4)]] (by rfl) rfl rfl mT ?_
        with_reducible refine (laws_eqTask.calls k1 ((rd_T37 l0 x5_1).f0) _ _ ((rd_T37 l0 x5_1).f1) _ _ ((rd_T37 l0 x5_1).f2) _ _ ((rd_T37 l0 x5_1).f3) ((rd_T37 l0 x5_1).f4) ((rd_T37 l1 x5_1).f0) _ _ ((rd_T37 l1 x5_1).f1) _ _ ((rd_T37 l1 x5_1).f2) _ _ ((rd_T37 l1 x5_1).f3) ((rd_T37 l1 x5_1).f4) false _ ?side1 ?side2 ?side3 ?side4 ?side5 ?side6 ?side7 ?side8 ?side9 ?side10 ?side11 ?side12 A7.out).mono ?_
        (case side1 => exact cT (Kd.C_below HR502_1.out HB.out))
        (case side2 => exact HC502_1.out)
        (case side3 => exact cT (Kd.C_below HR502_2.out HB.out))
        (case side4 => exact HC502_2.out)
        (case side5 => exact cT (Kd.C_below HR502_3.out HB.out))
        (case side6 => exact HC502_3.out)
        (case side7 => exact cT (Kd.C_below HR503_1.out HB.out))
        (case side8 => exact HC503_1.out)
        (case side9 => exact cT (Kd.C_below HR503_2.out HB.out))
        (case side10 => exact HC503_2.out)
        (case side11 => exact cT (Kd.C_below HR503_3.out HB.out))
        (case side12 => exact HC503_3.out)
        rintro e w12 ⟨rfl, hb⟩
        refine ⟨_, rfl, ?_⟩
        replace HB := mA (below_step (bT HB) hb)
        (try clear hb)
        (try clear hb2)
        (try clear hk)
        (try clear hi)
        refine hK.out _ _ ⟨((HB.out.cell (World.block_lt_of_cell? w _ hw502_0)).trans hw502_0), ((HB.out.cell (World.block_lt_of_cell? w _ hw502_1)).trans hw502_1), ((HB.out.cell (World.block_lt_of_cell? w _ hw502_2)).trans hw502_2), ((HB.out.cell (World.block_lt_of_cell? w _ hw502_3)).trans hw502_3), ((HB.out.cell (World.block_lt_of_cell? w _ hw502_4)).trans hw502_4), ((HB.out.cell (World.block_lt_of_cell? w _ hw503_0)).trans hw503_0), ((HB.out.cell (World.block_lt_of_cell? w _ hw503_1)).trans hw503_1), ((HB.out.cell (World.block_lt_of_cell? w _ hw503_2)).trans hw503_2), ((HB.out.cell (World.block_lt_of_cell? w _ hw503_3)).trans hw503_3), ((HB.out.cell (World.block_lt_of_cell? w _ hw503_4)).trans hw503_4)⟩ (fun hHeld => ?_)
        clear hK K
        refine norm_ (a' := ?_) ?_ ?_
        rotate_left
        ·
         show Act.put _ (some 25) _ = _
         simp only [Act.put, List.setIfInBounds_toArray, List.set_cons_zero, List.set_cons_succ, i64_w, i32_w]
         rfl
        refine pureT (i := 9) (N := some 26) #[true, true, true, true, true, true, true, true, true, true] (any_of HT_.out (by kernel_rfl)) ?_
        refine done_ (done_of HT_.out (by kernel_rfl)) ?_
        try go_wp2
        go_ret
        exact ⟨eT, bT HB⟩
      ·
       rw [if_neg c6] at H
       exact absurd H (by simp)
     ·
      rw [if_neg c5] at H
      exact absurd H (by simp)
    ·
     rw [if_neg c4] at H
     have c4b0 : decide (x5_1 < (l0.length : Int)) = false := decide_eq_false c4
     clear c4
     obtain rfl := Option.some.inj H
     go_wp2
     go_ret
     exact ⟨eT, bT HB⟩
 ·
  rw [if_neg c3] at H
  have c3b0 : ((l0.length : Int) == (l1.length : Int)) = false := beq_eq_false_iff_ne.mpr c3
  have c3b1 : ((l0.length : Int) != (l1.length : Int)) = true := bne_iff_ne.mpr c3
  have c3b2 : (l0.length == l1.length) = false := by first | simpa using c3 | (simp at c3 ⊢; omega)
  obtain rfl := Option.some.inj H
  go_enter Try.func68, Try.ntmps68
  go_wp2
  go_ret
  exact ⟨eT, bT HB⟩

/-! ### laws_eqJoiner: function 29 -/
def laws_eqJoiner.f (k : Nat) (l0_0 : List (S37)) (a0_1 : Int) (a0_2 : Int) (l1_0 : List (S37)) (a1_1 : Int) (a1_2 : Int) : Option (Bool) := (laws_eqTaskS.f k l0_0 l1_0).bind fun t507 => (if t507 = true then (if a0_1 = a1_1 then (if a0_2 = a1_2 then (some true) else (some false)) else (some false)) else (some false))
theorem laws_eqJoiner.mono : ∀ a0 a1 a2 a3 a4 a5 k, LeO (laws_eqJoiner.f k a0 a1 a2 a3 a4 a5) (laws_eqJoiner.f (k + 1) a0 a1 a2 a3 a4 a5) := by
 intro a0 a1 a2 a3 a4 a5 k
 unfold laws_eqJoiner.f
 repeat' first
   | (with_reducible exact laws_eqTaskS.mono _ _ _)
   | (with_reducible exact LeO.refl _)
   | (with_reducible exact LeO.none _)
   | (with_reducible refine LeO.ite ?_ ?_)
   | (with_reducible refine LeO.bind ?_ (fun _ => ?_))
   | exact laws_eqTaskS.mono _ _ _
   | exact LeO.none _
   | refine LeO.ite ?_ ?_
   | refine LeO.bind ?_ (fun _ => ?_)
set_option maxHeartbeats 8000000 in
set_option maxRecDepth 100000 in
theorem laws_eqJoiner.calls (k : Nat) (A0_0 : Option Addr) (c0_0 : Nat) (l0_0 : List (S37)) (a0_1 : Int) (a0_2 : Int) (A1_0 : Option Addr) (c1_0 : Nat) (l1_0 : List (S37)) (a1_1 : Int) (a1_2 : Int) (r : Bool) (w : World) (hr0_0 : Kd.C k37 w A0_0 l0_0.length l0_0) (hc0_0 : l0_0.length ≤ c0_0) (hr1_0 : Kd.C k37 w A1_0 l1_0.length l1_0) (hc1_0 : l1_0.length ≤ c1_0) (h : laws_eqJoiner.f k l0_0 a0_1 a0_2 l1_0 a1_1 a1_2 = some r) :
  Calls Try.prog 29 #[.agg #[.slice A0_0 l0_0.length c0_0, .int .i64 a0_1, .int .i64 a0_2], .agg #[.slice A1_0 l1_0.length c1_0, .int .i64 a1_1, .int .i64 a1_2]] w fun e w' => e = .returned (.bool r) ∧ Below w.heap.size w w' := by
 have hu59 := Try.underlying59
 have HR0_0 := mA hr0_0
 have HC0_0 := mA hc0_0
 clear hr0_0 hc0_0
 have HR1_0 := mA hr1_0
 have HC1_0 := mA hc1_0
 clear hr1_0 hc1_0
 have HB := mA (Below.refl w.heap.size w)
 have H : ((laws_eqTaskS.f k l0_0 l1_0).bind fun t507 => (if t507 = true then (if a0_1 = a1_1 then (if a0_2 = a1_2 then (some true) else (some false)) else (some false)) else (some false))) = some r := h
 clear h
 obtain ⟨t507, A3, H⟩ := Option.bind_eq_some_iff.mp H
 replace A3 := mA A3
 try dsimp only at H
 by_cases c4 : t507 = true
 ·
  subst c4
  rw [if_pos rfl] at H
  by_cases c5 : a0_1 = a1_1
  ·
   rw [if_pos c5] at H
   have c5b0 : (a0_1 == a1_1) = true := beq_iff_eq.mpr c5
   have c5b1 : (a0_1 != a1_1) = false := bne_eq_false_iff_eq.mpr c5
   clear c5
   by_cases c6 : a0_2 = a1_2
   ·
    rw [if_pos c6] at H
    have c6b0 : (a0_2 == a1_2) = true := beq_iff_eq.mpr c6
    have c6b1 : (a0_2 != a1_2) = false := bne_eq_false_iff_eq.mpr c6
    clear c6
    obtain rfl := Option.some.inj H
    go_enter Try.func29, Try.ntmps29
    go_wp2_with (first | ((with_reducible refine gate_dst (N := 2) rfl ?_); refine boxT 2 #[.slice A0_0 l0_0.length c0_0, .int .i64 a0_1, .int .i64 a0_2] 59 ?_; intro gb505 hg w7 hbox hb; have BK505 := mA (hbox); have GW505 := mA ((by rw [hg]; exact (below_size (bT HB)) : w.heap.size ≤ gb505)); have GE505 := GW505; replace HB := mA (below_step (bT HB) hb); clear hb hbox hg) | ((with_reducible refine gate_dst (N := 3) rfl ?_); refine boxT 3 #[.slice A1_0 l1_0.length c1_0, .int .i64 a1_1, .int .i64 a1_2] 59 ?_; intro gb506 hg w8 hbox hb; have BK506 := mA (hbox); have GW506 := mA ((by rw [hg]; exact (below_size (bT1 HB GE505)) : w.heap.size ≤ gb506)); have GE506 := GW506; replace HB := mA (below_step (bT1 HB GE505) hb); have NB505_506 : Aside0 (gb505 ≠ gb506) := nL BK505 hg; have NB506_505 : Aside0 (gb506 ≠ gb505) := nG BK505 hg; replace BK505 := kB BK505 hb; clear hb hbox hg; have hnb9 := NB505_506.out; have hnc9 := NB506_505.out; obtain ⟨hcz10_0, hcz10_1, hcz10_2, hfz10_0, hfz10_1, hfz10_2⟩ := blk3 BK505.out; obtain ⟨hcz11_0, hcz11_1, hcz11_2, hfz11_0, hfz11_1, hfz11_2⟩ := blk3 BK506.out) | ((with_reducible refine gate_callee (f := 68) rfl ?_); refine goesT (some 9) Try.func68 #[.slice A0_0 l0_0.length c0_0, .slice A1_0 l1_0.length c1_0] ?_; (with_reducible refine (laws_eqTaskS.calls k _ _ l0_0 _ _ l1_0 true _ ?side1 ?side2 ?side3 ?side4 A3.out).mono ?_); (case side1 => exact cT (Kd.C_below HR0_0.out HB.out)); (case side2 => exact HC0_0.out); (case side3 => exact cT (Kd.C_below HR1_0.out HB.out)); (case side4 => exact HC1_0.out); rintro e w12 ⟨rfl, hb⟩; refine ⟨_, rfl, ?_⟩; replace BK505 := kB BK505 hb; replace BK506 := kB BK506 hb; replace HB := mA (below_step (bT2 HB GE505 GE506) hb); (try clear hb); obtain ⟨hcz13_0, hcz13_1, hcz13_2, hfz13_0, hfz13_1, hfz13_2⟩ := blk3 BK505.out; obtain ⟨hcz14_0, hcz14_1, hcz14_2, hfz14_0, hfz14_1, hfz14_2⟩ := blk3 BK506.out))
    go_ret
    exact ⟨eT, bT2 HB GE505 GE506⟩
   ·
    rw [if_neg c6] at H
    have c6b0 : (a0_2 == a1_2) = false := beq_eq_false_iff_ne.mpr c6
    have c6b1 : (a0_2 != a1_2) = true := bne_iff_ne.mpr c6
    obtain rfl := Option.some.inj H
    go_enter Try.func29, Try.ntmps29
    go_wp2_with (first | ((with_reducible refine gate_dst (N := 2) rfl ?_); refine boxT 2 #[.slice A0_0 l0_0.length c0_0, .int .i64 a0_1, .int .i64 a0_2] 59 ?_; intro gb505 hg w15 hbox hb; have BK505 := mA (hbox); have GW505 := mA ((by rw [hg]; exact (below_size (bT HB)) : w.heap.size ≤ gb505)); have GE505 := GW505; replace HB := mA (below_step (bT HB) hb); clear hb hbox hg) | ((with_reducible refine gate_dst (N := 3) rfl ?_); refine boxT 3 #[.slice A1_0 l1_0.length c1_0, .int .i64 a1_1, .int .i64 a1_2] 59 ?_; intro gb506 hg w16 hbox hb; have BK506 := mA (hbox); have GW506 := mA ((by rw [hg]; exact (below_size (bT1 HB GE505)) : w.heap.size ≤ gb506)); have GE506 := GW506; replace HB := mA (below_step (bT1 HB GE505) hb); have NB505_506 : Aside0 (gb505 ≠ gb506) := nL BK505 hg; have NB506_505 : Aside0 (gb506 ≠ gb505) := nG BK505 hg; replace BK505 := kB BK505 hb; clear hb hbox hg; have hnb17 := NB505_506.out; have hnc17 := NB506_505.out; obtain ⟨hcz18_0, hcz18_1, hcz18_2, hfz18_0, hfz18_1, hfz18_2⟩ := blk3 BK505.out; obtain ⟨hcz19_0, hcz19_1, hcz19_2, hfz19_0, hfz19_1, hfz19_2⟩ := blk3 BK506.out) | ((with_reducible refine gate_callee (f := 68) rfl ?_); refine goesT (some 9) Try.func68 #[.slice A0_0 l0_0.length c0_0, .slice A1_0 l1_0.length c1_0] ?_; (with_reducible refine (laws_eqTaskS.calls k _ _ l0_0 _ _ l1_0 true _ ?side1 ?side2 ?side3 ?side4 A3.out).mono ?_); (case side1 => exact cT (Kd.C_below HR0_0.out HB.out)); (case side2 => exact HC0_0.out); (case side3 => exact cT (Kd.C_below HR1_0.out HB.out)); (case side4 => exact HC1_0.out); rintro e w20 ⟨rfl, hb⟩; refine ⟨_, rfl, ?_⟩; replace BK505 := kB BK505 hb; replace BK506 := kB BK506 hb; replace HB := mA (below_step (bT2 HB GE505 GE506) hb); (try clear hb); obtain ⟨hcz21_0, hcz21_1, hcz21_2, hfz21_0, hfz21_1, hfz21_2⟩ := blk3 BK505.out; obtain ⟨hcz22_0, hcz22_1, hcz22_2, hfz22_0, hfz22_1, hfz22_2⟩ := blk3 BK506.out))
    go_ret
    exact ⟨eT, bT2 HB GE505 GE506⟩
  ·
   rw [if_neg c5] at H
   have c5b0 : (a0_1 == a1_1) = false := beq_eq_false_iff_ne.mpr c5
   have c5b1 : (a0_1 != a1_1) = true := bne_iff_ne.mpr c5
   obtain rfl := Option.some.inj H
   go_enter Try.func29, Try.ntmps29
   go_wp2_with (first | ((with_reducible refine gate_dst (N := 2) rfl ?_); refine boxT 2 #[.slice A0_0 l0_0.length c0_0, .int .i64 a0_1, .int .i64 a0_2] 59 ?_; intro gb505 hg w23 hbox hb; have BK505 := mA (hbox); have GW505 := mA ((by rw [hg]; exact (below_size (bT HB)) : w.heap.size ≤ gb505)); have GE505 := GW505; replace HB := mA (below_step (bT HB) hb); clear hb hbox hg) | ((with_reducible refine gate_dst (N := 3) rfl ?_); refine boxT 3 #[.slice A1_0 l1_0.length c1_0, .int .i64 a1_1, .int .i64 a1_2] 59 ?_; intro gb506 hg w24 hbox hb; have BK506 := mA (hbox); have GW506 := mA ((by rw [hg]; exact (below_size (bT1 HB GE505)) : w.heap.size ≤ gb506)); have GE506 := GW506; replace HB := mA (below_step (bT1 HB GE505) hb); have NB505_506 : Aside0 (gb505 ≠ gb506) := nL BK505 hg; have NB506_505 : Aside0 (gb506 ≠ gb505) := nG BK505 hg; replace BK505 := kB BK505 hb; clear hb hbox hg; have hnb25 := NB505_506.out; have hnc25 := NB506_505.out; obtain ⟨hcz26_0, hcz26_1, hcz26_2, hfz26_0, hfz26_1, hfz26_2⟩ := blk3 BK505.out; obtain ⟨hcz27_0, hcz27_1, hcz27_2, hfz27_0, hfz27_1, hfz27_2⟩ := blk3 BK506.out) | ((with_reducible refine gate_callee (f := 68) rfl ?_); refine goesT (some 9) Try.func68 #[.slice A0_0 l0_0.length c0_0, .slice A1_0 l1_0.length c1_0] ?_; (with_reducible refine (laws_eqTaskS.calls k _ _ l0_0 _ _ l1_0 true _ ?side1 ?side2 ?side3 ?side4 A3.out).mono ?_); (case side1 => exact cT (Kd.C_below HR0_0.out HB.out)); (case side2 => exact HC0_0.out); (case side3 => exact cT (Kd.C_below HR1_0.out HB.out)); (case side4 => exact HC1_0.out); rintro e w28 ⟨rfl, hb⟩; refine ⟨_, rfl, ?_⟩; replace BK505 := kB BK505 hb; replace BK506 := kB BK506 hb; replace HB := mA (below_step (bT2 HB GE505 GE506) hb); (try clear hb); obtain ⟨hcz29_0, hcz29_1, hcz29_2, hfz29_0, hfz29_1, hfz29_2⟩ := blk3 BK505.out; obtain ⟨hcz30_0, hcz30_1, hcz30_2, hfz30_0, hfz30_1, hfz30_2⟩ := blk3 BK506.out))
   go_ret
   exact ⟨eT, bT2 HB GE505 GE506⟩
 ·
  replace c4 := Bool.eq_false_iff.mpr c4
  subst c4
  rw [if_neg (show ¬ (false = true) by decide)] at H
  obtain rfl := Option.some.inj H
  go_enter Try.func29, Try.ntmps29
  go_wp2_with (first | ((with_reducible refine gate_dst (N := 2) rfl ?_); refine boxT 2 #[.slice A0_0 l0_0.length c0_0, .int .i64 a0_1, .int .i64 a0_2] 59 ?_; intro gb505 hg w31 hbox hb; have BK505 := mA (hbox); have GW505 := mA ((by rw [hg]; exact (below_size (bT HB)) : w.heap.size ≤ gb505)); have GE505 := GW505; replace HB := mA (below_step (bT HB) hb); clear hb hbox hg) | ((with_reducible refine gate_dst (N := 3) rfl ?_); refine boxT 3 #[.slice A1_0 l1_0.length c1_0, .int .i64 a1_1, .int .i64 a1_2] 59 ?_; intro gb506 hg w32 hbox hb; have BK506 := mA (hbox); have GW506 := mA ((by rw [hg]; exact (below_size (bT1 HB GE505)) : w.heap.size ≤ gb506)); have GE506 := GW506; replace HB := mA (below_step (bT1 HB GE505) hb); have NB505_506 : Aside0 (gb505 ≠ gb506) := nL BK505 hg; have NB506_505 : Aside0 (gb506 ≠ gb505) := nG BK505 hg; replace BK505 := kB BK505 hb; clear hb hbox hg; have hnb33 := NB505_506.out; have hnc33 := NB506_505.out; obtain ⟨hcz34_0, hcz34_1, hcz34_2, hfz34_0, hfz34_1, hfz34_2⟩ := blk3 BK505.out; obtain ⟨hcz35_0, hcz35_1, hcz35_2, hfz35_0, hfz35_1, hfz35_2⟩ := blk3 BK506.out) | ((with_reducible refine gate_callee (f := 68) rfl ?_); refine goesT (some 9) Try.func68 #[.slice A0_0 l0_0.length c0_0, .slice A1_0 l1_0.length c1_0] ?_; (with_reducible refine (laws_eqTaskS.calls k _ _ l0_0 _ _ l1_0 false _ ?side1 ?side2 ?side3 ?side4 A3.out).mono ?_); (case side1 => exact cT (Kd.C_below HR0_0.out HB.out)); (case side2 => exact HC0_0.out); (case side3 => exact cT (Kd.C_below HR1_0.out HB.out)); (case side4 => exact HC1_0.out); rintro e w36 ⟨rfl, hb⟩; refine ⟨_, rfl, ?_⟩; replace HB := mA (below_step (bT2 HB GE505 GE506) hb); (try clear hb)))
  go_ret
  exact ⟨eT, bT2 HB GE505 GE506⟩

end Go.Proofs.Ytnllplklggoabaa.P
