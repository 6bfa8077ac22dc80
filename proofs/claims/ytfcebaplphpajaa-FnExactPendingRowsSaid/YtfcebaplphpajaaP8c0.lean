/- Written by tools/seatprint.py over the translation. Lean checks it. -/
import Derived.Test.YtfcebaplphpajaaP0
import Derived.Test.YtfcebaplphpajaaP6bc0
import Derived.Test.YtfcebaplphpajaaP6fc0
namespace Go.Proofs.Ytfcebaplphpajaa.P
open Go.RowKit Go.Proofs.YtfcebaplphpajaaW.PrintWords Go.Proofs.YtfcebaplphpajaaW.PrintLast Go.Proofs.YtfcebaplphpajaaW.PrintMore
attribute [local go_sem] max2_int min2_int max_two min_two max_three min_three max_four min_four
set_option linter.unusedVariables false
set_option linter.unusedSimpArgs false

/-! ### spec_PendingRows: function 11 -/
def spec_PendingRows.l0 : Nat → Int → Int → List (S68) → Int → Int → Option (Int)
 | 0, _, _, _, _, _ => none
 | k + 1, x3, x4, x110000, x110001, x110002 => if x4 < (x110000.length : Int) then (if 0 ≤ x4 then (spec_PendingRows.l0 k (wrap64 ((wrap64 (x3 + (((rd_T68 x110000 x4).f1).length : Int))) + (((rd_T68 x110000 x4).f2).length : Int))) (wrap64 (x4 + 1)) x110000 x110001 x110002) else (none)) else (some x3)
def spec_PendingRows.f (k : Nat) (l0_0 : List (S68)) (a0_1 : Int) (a0_2 : Int) : Option (Int) := spec_PendingRows.l0 k 0 0 l0_0 a0_1 a0_2
theorem spec_PendingRows.mono_l : ∀ k, (∀ y0 y1 y2 y3 y4, LeO (spec_PendingRows.l0 k y0 y1 y2 y3 y4) (spec_PendingRows.l0 (k + 1) y0 y1 y2 y3 y4))
 | 0 => fun _ _ _ _ _ r h => by simp [spec_PendingRows.l0] at h
 | k + 1 => by
  have ih0 := spec_PendingRows.mono_l k
  ·
   intro y0 y1 y2 y3 y4
   unfold spec_PendingRows.l0
   repeat' first
   | (with_reducible exact ih0 _ _ _ _ _)
   | (with_reducible exact LeO.refl _)
   | (with_reducible exact LeO.none _)
   | (with_reducible refine LeO.ite ?_ ?_)
   | (with_reducible refine LeO.bind ?_ (fun _ => ?_))
   | exact ih0 _ _ _ _ _
   | exact LeO.none _
   | refine LeO.ite ?_ ?_
   | refine LeO.bind ?_ (fun _ => ?_)
theorem spec_PendingRows.mono : ∀ a0 a1 a2 k, LeO (spec_PendingRows.f k a0 a1 a2) (spec_PendingRows.f (k + 1) a0 a1 a2) := by
 intro a0 a1 a2 k
 have ih0 := spec_PendingRows.mono_l k
 unfold spec_PendingRows.f
 repeat' first
   | (with_reducible exact ih0 _ _ _ _ _)
   | (with_reducible exact LeO.refl _)
   | (with_reducible exact LeO.none _)
   | (with_reducible refine LeO.ite ?_ ?_)
   | (with_reducible refine LeO.bind ?_ (fun _ => ?_))
   | exact ih0 _ _ _ _ _
   | exact LeO.none _
   | refine LeO.ite ?_ ?_
   | refine LeO.bind ?_ (fun _ => ?_)
set_option maxHeartbeats 8000000 in
set_option maxRecDepth 100000 in
theorem spec_PendingRows.calls (k : Nat) (A0_0 : Option Addr) (c0_0 : Nat) (l0_0 : List (S68)) (a0_1 : Int) (a0_2 : Int) (r : Int) (w : World) (hr0_0 : Kd.C k68 w A0_0 l0_0.length l0_0) (hc0_0 : l0_0.length ≤ c0_0) (h : spec_PendingRows.f k l0_0 a0_1 a0_2 = some r) :
  Calls Try.prog 11 #[.agg #[.slice A0_0 l0_0.length c0_0, .int .i64 a0_1, .int .i64 a0_2]] w fun e w' => e = .returned (.int .i64 r) ∧ Below w.heap.size w w' := by
 have hu29 := Try.underlying29
 have HR0_0 := mA hr0_0
 have HC0_0 := mA hc0_0
 clear hr0_0 hc0_0
 have HB := mA (Below.refl w.heap.size w)
 have H : (spec_PendingRows.l0 k 0 0 l0_0 a0_1 a0_2) = some r := h
 clear h
 have H' := mA H
 clear H
 go_enter Try.func11, Try.ntmps11
 go_wp2_with (first | ((with_reducible refine gate_dst (N := 1) rfl ?_); refine boxT 1 #[.slice A0_0 l0_0.length c0_0, .int .i64 a0_1, .int .i64 a0_2] 29 ?_; intro gb109 hg w2 hbox hb; have BK109 := mA (hbox); have GW109 := mA ((by rw [hg]; exact (below_size (bT HB)) : w.heap.size ≤ gb109)); have GE109 := GW109; replace HB := mA (below_step (bT HB) hb); clear hb hbox hg))
 repeat (go_quiet (first | ((with_reducible refine gate_dst (N := 1) rfl ?_); refine boxT 1 #[.slice A0_0 l0_0.length c0_0, .int .i64 a0_1, .int .i64 a0_2] 29 ?_; intro gb109 hg w2 hbox hb; have BK109 := mA (hbox); have GW109 := mA ((by rw [hg]; exact (below_size (bT HB)) : w.heap.size ≤ gb109)); have GE109 := GW109; replace HB := mA (below_step (bT HB) hb); clear hb hbox hg)); try go_wp2_with (first | ((with_reducible refine gate_dst (N := 1) rfl ?_); refine boxT 1 #[.slice A0_0 l0_0.length c0_0, .int .i64 a0_1, .int .i64 a0_2] 29 ?_; intro gb109 hg w2 hbox hb; have BK109 := mA (hbox); have GW109 := mA ((by rw [hg]; exact (below_size (bT HB)) : w.heap.size ≤ gb109)); have GE109 := GW109; replace HB := mA (below_step (bT HB) hb); clear hb hbox hg)))
 go_loopg [3, 4] k (fun kq v3 v4 w' => ∃ (x3_1 : Int) (x4_1 : Int), v3 = .int .i64 x3_1 ∧ v4 = .int .i64 x4_1 ∧ Aside0 (spec_PendingRows.l0 kq x3_1 x4_1 l0_0 a0_1 a0_2 = some r) ∧ Aside0 (kq ≤ k) ∧ Aside0 (w'.heap[gb109]? = some (.cells #[(.slice A0_0 l0_0.length c0_0), .int .i64 a0_1, .int .i64 a0_2] 29 (0, 0))) ∧ Aside0 (Below w.heap.size w w'))
 case atStart => exact ⟨(0), (0), sT, sT, H', ⟨Nat.le_refl _⟩, ⟨kT BK109⟩, ⟨bT1 HB GE109⟩⟩
 case round =>
  clear H'
  try clear c1
  try clear p2
  obtain ⟨x3_1, x4_1, rfl, rfl, HA, HK1, BK109, HB⟩ := hrel
  cases gk with
  | zero => exact absurd HA.out (by simp [spec_PendingRows.l0])
  | succ k1 =>
   have H := HA.out
   clear HA
   simp only [spec_PendingRows.l0] at H
   by_cases c3 : x4_1 < (l0_0.length : Int)
   ·
    rw [if_pos c3] at H
    have c3b0 : decide (x4_1 < (l0_0.length : Int)) = true := decide_eq_true c3
    clear c3
    by_cases c4 : 0 ≤ x4_1
    ·
     rw [if_pos c4] at H
     have c4b0 : decide (0 ≤ x4_1) = true := decide_eq_true c4
     clear c4
     have H' := mA H
     clear H
     have hcz5_0 : wr.cell? ⟨gb109, 0, none⟩ = some (.slice A0_0 l0_0.length c0_0) := (blk_cell BK109.out 0).trans rfl
     have hcz5_1 : wr.cell? ⟨gb109, 1, none⟩ = some (.int .i64 a0_1) := (blk_cell BK109.out 1).trans rfl
     have hcz5_2 : wr.cell? ⟨gb109, 2, none⟩ = some (.int .i64 a0_2) := (blk_cell BK109.out 2).trans rfl
     have hfz5_0 := blk_frozen BK109.out 0
     have hfz5_1 := blk_frozen BK109.out 1
     have hfz5_2 := blk_frozen BK109.out 2
     have p110 : 0 ≤ (x4_1 : Int) := of_decide_eq_true aT
     have q110 : x4_1 < (l0_0.length : Int) := of_decide_eq_true aT
     obtain ⟨ad110, A110_1, c110_1, A110_2, c110_2, A110_3, c110_3, e110, hx110_0, hx110_1, hx110_2, hx110_3, hx110_4, hl110_1, hi110_1, hl110_2, hi110_2, hl110_3, hi110_3⟩ := at_T68 HR0_0.out x4_1 p110 q110
     cases e110
     replace hx110_0 := (HB.out.cell (World.block_lt_of_cell? w _ hx110_0)).trans hx110_0
     replace hx110_1 := (HB.out.cell (World.block_lt_of_cell? w _ hx110_1)).trans hx110_1
     replace hx110_2 := (HB.out.cell (World.block_lt_of_cell? w _ hx110_2)).trans hx110_2
     replace hx110_3 := (HB.out.cell (World.block_lt_of_cell? w _ hx110_3)).trans hx110_3
     replace hx110_4 := (HB.out.cell (World.block_lt_of_cell? w _ hx110_4)).trans hx110_4
     have HR110_1 := mA hi110_1
     have HC110_1 := mA hl110_1
     clear hi110_1 hl110_1
     have HR110_2 := mA hi110_2
     have HC110_2 := mA hl110_2
     clear hi110_2 hl110_2
     have HR110_3 := mA hi110_3
     have HC110_3 := mA hl110_3
     clear hi110_3 hl110_3
     replace p110 := eq_true p110
     replace q110 := eq_true q110
     have p111 : 0 ≤ (x4_1 : Int) := of_decide_eq_true aT
     have q111 : x4_1 < (l0_0.length : Int) := of_decide_eq_true aT
     obtain ⟨ad111, A111_1, c111_1, A111_2, c111_2, A111_3, c111_3, e111, hx111_0, hx111_1, hx111_2, hx111_3, hx111_4, hl111_1, hi111_1, hl111_2, hi111_2, hl111_3, hi111_3⟩ := at_T68 HR0_0.out x4_1 p111 q111
     obtain rfl : ad110 = ad111 := (by injection e111)
     replace hx111_0 := (HB.out.cell (World.block_lt_of_cell? w _ hx111_0)).trans hx111_0
     replace hx111_1 := (HB.out.cell (World.block_lt_of_cell? w _ hx111_1)).trans hx111_1
     replace hx111_2 := (HB.out.cell (World.block_lt_of_cell? w _ hx111_2)).trans hx111_2
     replace hx111_3 := (HB.out.cell (World.block_lt_of_cell? w _ hx111_3)).trans hx111_3
     replace hx111_4 := (HB.out.cell (World.block_lt_of_cell? w _ hx111_4)).trans hx111_4
     have HR111_1 := mA hi111_1
     have HC111_1 := mA hl111_1
     clear hi111_1 hl111_1
     have HR111_2 := mA hi111_2
     have HC111_2 := mA hl111_2
     clear hi111_2 hl111_2
     have HR111_3 := mA hi111_3
     have HC111_3 := mA hl111_3
     clear hi111_3 hl111_3
     replace p111 := eq_true p111
     replace q111 := eq_true q111
     first | (have ea_ := Option.some.inj (hx110_1.symm.trans hx111_1)) | (have ea_ := Option.some.inj (((HB.out.cell (World.block_lt_of_cell? w _ hw110_1)).trans hw110_1).symm.trans hx111_1))
     injection ea_ with ea_ en_ ec_
     subst ea_
     subst ec_
     clear en_
     first | (have ea_ := Option.some.inj (hx110_2.symm.trans hx111_2)) | (have ea_ := Option.some.inj (((HB.out.cell (World.block_lt_of_cell? w _ hw110_2)).trans hw110_2).symm.trans hx111_2))
     injection ea_ with ea_ en_ ec_
     subst ea_
     subst ec_
     clear en_
     first | (have ea_ := Option.some.inj (hx110_3.symm.trans hx111_3)) | (have ea_ := Option.some.inj (((HB.out.cell (World.block_lt_of_cell? w _ hw110_3)).trans hw110_3).symm.trans hx111_3))
     injection ea_ with ea_ en_ ec_
     subst ea_
     subst ec_
     clear en_
     go_wp2
     repeat (go_quiet (fail); try go_wp2)
     go_roundg k1
     case measure => have := HK1.out; omega
     case rel => exact ⟨(wrap64 ((wrap64 (x3_1 + (((rd_T68 l0_0 x4_1).f1).length : Int))) + (((rd_T68 l0_0 x4_1).f2).length : Int))), (wrap64 (x4_1 + 1)), sT, sT, H', ⟨by have := HK1.out; omega⟩, ⟨kT BK109⟩, ⟨bT1 HB GE109⟩⟩
    ·
     rw [if_neg c4] at H
     exact absurd H (by simp)
   ·
    rw [if_neg c3] at H
    have c3b0 : decide (x4_1 < (l0_0.length : Int)) = false := decide_eq_false c3
    clear c3
    obtain rfl := Option.some.inj H
    have hcz6_0 : wr.cell? ⟨gb109, 0, none⟩ = some (.slice A0_0 l0_0.length c0_0) := (blk_cell BK109.out 0).trans rfl
    have hcz6_1 : wr.cell? ⟨gb109, 1, none⟩ = some (.int .i64 a0_1) := (blk_cell BK109.out 1).trans rfl
    have hcz6_2 : wr.cell? ⟨gb109, 2, none⟩ = some (.int .i64 a0_2) := (blk_cell BK109.out 2).trans rfl
    have hfz6_0 := blk_frozen BK109.out 0
    have hfz6_1 := blk_frozen BK109.out 1
    have hfz6_2 := blk_frozen BK109.out 2
    go_wp2
    repeat (go_quiet (fail); try go_wp2)
    go_ret
    exact ⟨eT, bT1 HB GE109⟩

/-! ### impl_PendingRows: function 13 -/
def impl_PendingRows.l0 : Nat → Int → List (S68) → Int → Int → Option (Int)
 | 0, _, _, _, _ => none
 | k + 1, x3, x7, x8, x9 => if x9 < x8 then (if 0 ≤ x9 then (if x9 < (x7.length : Int) then (impl_PendingRows.l0 k (wrap64 (x3 + (wrap64 ((((rd_T68 x7 x9).f1).length : Int) + (((rd_T68 x7 x9).f2).length : Int))))) x7 x8 (wrap64 (x9 + 1))) else (none)) else (none)) else (some x3)
def impl_PendingRows.f (k : Nat) (l0_0 : List (S68)) (a0_1 : Int) (a0_2 : Int) : Option (Int) := impl_PendingRows.l0 k 0 l0_0 (l0_0.length : Int) 0
theorem impl_PendingRows.mono_l : ∀ k, (∀ y0 y1 y2 y3, LeO (impl_PendingRows.l0 k y0 y1 y2 y3) (impl_PendingRows.l0 (k + 1) y0 y1 y2 y3))
 | 0 => fun _ _ _ _ r h => by simp [impl_PendingRows.l0] at h
 | k + 1 => by
  have ih0 := impl_PendingRows.mono_l k
  ·
   intro y0 y1 y2 y3
   unfold impl_PendingRows.l0
   repeat' first
   | (with_reducible exact ih0 _ _ _ _)
   | (with_reducible exact LeO.refl _)
   | (with_reducible exact LeO.none _)
   | (with_reducible refine LeO.ite ?_ ?_)
   | (with_reducible refine LeO.bind ?_ (fun _ => ?_))
   | exact ih0 _ _ _ _
   | exact LeO.none _
   | refine LeO.ite ?_ ?_
   | refine LeO.bind ?_ (fun _ => ?_)
theorem impl_PendingRows.mono : ∀ a0 a1 a2 k, LeO (impl_PendingRows.f k a0 a1 a2) (impl_PendingRows.f (k + 1) a0 a1 a2) := by
 intro a0 a1 a2 k
 have ih0 := impl_PendingRows.mono_l k
 unfold impl_PendingRows.f
 repeat' first
   | (with_reducible exact ih0 _ _ _ _)
   | (with_reducible exact LeO.refl _)
   | (with_reducible exact LeO.none _)
   | (with_reducible refine LeO.ite ?_ ?_)
   | (with_reducible refine LeO.bind ?_ (fun _ => ?_))
   | exact ih0 _ _ _ _
   | exact LeO.none _
   | refine LeO.ite ?_ ?_
   | refine LeO.bind ?_ (fun _ => ?_)
set_option maxHeartbeats 8000000 in
set_option maxRecDepth 100000 in
theorem impl_PendingRows.calls (k : Nat) (A0_0 : Option Addr) (c0_0 : Nat) (l0_0 : List (S68)) (a0_1 : Int) (a0_2 : Int) (r : Int) (w : World) (hr0_0 : Kd.C k68 w A0_0 l0_0.length l0_0) (hc0_0 : l0_0.length ≤ c0_0) (h : impl_PendingRows.f k l0_0 a0_1 a0_2 = some r) :
  Calls Try.prog 13 #[.agg #[.slice A0_0 l0_0.length c0_0, .int .i64 a0_1, .int .i64 a0_2]] w fun e w' => e = .returned (.int .i64 r) ∧ Below w.heap.size w w' := by
 have hu29 := Try.underlying29
 have hu68 := Try.underlying68
 have HR0_0 := mA hr0_0
 have HC0_0 := mA hc0_0
 clear hr0_0 hc0_0
 have HB := mA (Below.refl w.heap.size w)
 have H : (impl_PendingRows.l0 k 0 l0_0 (l0_0.length : Int) 0) = some r := h
 clear h
 have H' := mA H
 clear H
 go_enter Try.func13, Try.ntmps13
 go_wp2_with (first | ((with_reducible refine gate_dst (N := 1) rfl ?_); refine boxT 1 #[.slice A0_0 l0_0.length c0_0, .int .i64 a0_1, .int .i64 a0_2] 29 ?_; intro gb162 hg w2 hbox hb; have BK162 := mA (hbox); have GW162 := mA ((by rw [hg]; exact (below_size (bT HB)) : w.heap.size ≤ gb162)); have GE162 := GW162; replace HB := mA (below_step (bT HB) hb); clear hb hbox hg; obtain ⟨hcz3_0, hcz3_1, hcz3_2, hfz3_0, hfz3_1, hfz3_2⟩ := blk3 BK162.out))
 go_loopg [3, 9] k (fun kq v3 v9 w' => ∃ (x3_1 : Int) (x9_1 : Int), v3 = .int .i64 x3_1 ∧ v9 = .int .i64 x9_1 ∧ Aside0 (impl_PendingRows.l0 kq x3_1 l0_0 (l0_0.length : Int) x9_1 = some r) ∧ Aside0 (kq ≤ k) ∧ Aside0 (w'.heap[gb162]? = some (.cells #[(.slice A0_0 l0_0.length c0_0), .int .i64 a0_1, .int .i64 a0_2] 29 (0, 0))) ∧ Aside0 (Below w.heap.size w w'))
 case atStart => exact ⟨(0), (0), sT, sT, H', ⟨Nat.le_refl _⟩, ⟨kT BK162⟩, ⟨bT1 HB GE162⟩⟩
 case round =>
  clear H'
  try clear c1
  try clear p2
  try clear hcz3_0
  try clear hcz3_1
  try clear hcz3_2
  try clear hfz3_0
  try clear hfz3_1
  try clear hfz3_2
  obtain ⟨x3_1, x9_1, rfl, rfl, HA, HK1, BK162, HB⟩ := hrel
  cases gk with
  | zero => exact absurd HA.out (by simp [impl_PendingRows.l0])
  | succ k1 =>
   have H := HA.out
   clear HA
   simp only [impl_PendingRows.l0] at H
   by_cases c4 : x9_1 < (l0_0.length : Int)
   ·
    rw [if_pos c4] at H
    have c4b0 : decide (x9_1 < (l0_0.length : Int)) = true := decide_eq_true c4
    clear c4
    by_cases c5 : 0 ≤ x9_1
    ·
     rw [if_pos c5] at H
     have c5b0 : decide (0 ≤ x9_1) = true := decide_eq_true c5
     clear c5
     by_cases c6 : x9_1 < (l0_0.length : Int)
     ·
      rw [if_pos c6] at H
      have c6b0 : decide (x9_1 < (l0_0.length : Int)) = true := decide_eq_true c6
      clear c6
      have H' := mA H
      clear H
      have p163 : 0 ≤ (x9_1 : Int) := of_decide_eq_true aT
      have q163 : x9_1 < (l0_0.length : Int) := of_decide_eq_true aT
      obtain ⟨ad163, A163_1, c163_1, A163_2, c163_2, A163_3, c163_3, e163, hx163_0, hx163_1, hx163_2, hx163_3, hx163_4, hl163_1, hi163_1, hl163_2, hi163_2, hl163_3, hi163_3⟩ := at_T68 HR0_0.out x9_1 p163 q163
      cases e163
      replace hx163_0 := (HB.out.cell (World.block_lt_of_cell? w _ hx163_0)).trans hx163_0
      replace hx163_1 := (HB.out.cell (World.block_lt_of_cell? w _ hx163_1)).trans hx163_1
      replace hx163_2 := (HB.out.cell (World.block_lt_of_cell? w _ hx163_2)).trans hx163_2
      replace hx163_3 := (HB.out.cell (World.block_lt_of_cell? w _ hx163_3)).trans hx163_3
      replace hx163_4 := (HB.out.cell (World.block_lt_of_cell? w _ hx163_4)).trans hx163_4
      have HR163_1 := mA hi163_1
      have HC163_1 := mA hl163_1
      clear hi163_1 hl163_1
      have HR163_2 := mA hi163_2
      have HC163_2 := mA hl163_2
      clear hi163_2 hl163_2
      have HR163_3 := mA hi163_3
      have HC163_3 := mA hl163_3
      clear hi163_3 hl163_3
      replace p163 := eq_true p163
      replace q163 := eq_true q163
      go_wp2_with (first | ((with_reducible refine gate_dst (N := 5) rfl ?_); refine boxT 5 #[.int .i64 0, .slice none 0 0, .slice none 0 0, .slice none 0 0, .int .i64 0] 68 ?_; intro gb164 hg w7 hbox hb; have BK164 := mA (hbox); have GW164 := mA ((by rw [hg]; exact (below_size (bT1 HB GE162)) : w.heap.size ≤ gb164)); have GE164 := GW164; replace HB := mA (below_step (bT1 HB GE162) hb); have NB162_164 : Aside0 (gb162 ≠ gb164) := nL BK162 hg; have NB164_162 : Aside0 (gb164 ≠ gb162) := nG BK162 hg; replace BK162 := kB BK162 hb; clear hb hbox hg; have hnb8 := NB164_162.out; have hnc8 := NB162_164.out; obtain ⟨hcz9_0, hcz9_1, hcz9_2, hcz9_3, hcz9_4, hfz9_0, hfz9_1, hfz9_2, hfz9_3, hfz9_4⟩ := blk5 BK164.out))
      go_roundg k1
      case measure => have := HK1.out; omega
      case rel => exact ⟨(wrap64 (x3_1 + (wrap64 ((((rd_T68 l0_0 x9_1).f1).length : Int) + (((rd_T68 l0_0 x9_1).f2).length : Int))))), (wrap64 (x9_1 + 1)), sT, sT, H', ⟨by have := HK1.out; omega⟩, ⟨by (with_reducible repeat (first | refine blk_drewN ?_ _ | refine blk_drew ?_ | refine blk_alloc ?_ _)); refine blk_far ?_ NB162_164.out _; (with_reducible repeat (first | refine blk_drewN ?_ _ | refine blk_drew ?_ | refine blk_alloc ?_ _)); refine blk_far ?_ NB162_164.out _; (with_reducible repeat (first | refine blk_drewN ?_ _ | refine blk_drew ?_ | refine blk_alloc ?_ _)); refine blk_far ?_ NB162_164.out _; (with_reducible repeat (first | refine blk_drewN ?_ _ | refine blk_drew ?_ | refine blk_alloc ?_ _)); refine blk_far ?_ NB162_164.out _; (with_reducible repeat (first | refine blk_drewN ?_ _ | refine blk_drew ?_ | refine blk_alloc ?_ _)); refine blk_far ?_ NB162_164.out _; (with_reducible repeat (first | refine blk_drewN ?_ _ | refine blk_drew ?_ | refine blk_alloc ?_ _)); exact BK162.out⟩, ⟨bT2 HB GE162 GE164⟩⟩
     ·
      rw [if_neg c6] at H
      exact absurd H (by simp)
    ·
     rw [if_neg c5] at H
     exact absurd H (by simp)
   ·
    rw [if_neg c4] at H
    have c4b0 : decide (x9_1 < (l0_0.length : Int)) = false := decide_eq_false c4
    clear c4
    obtain rfl := Option.some.inj H
    go_wp2
    go_ret
    exact ⟨eT, bT1 HB GE162⟩

/-! ### laws_FnExactPendingRows: function 3 -/
def laws_FnExactPendingRows.f (k : Nat) (l0_0 : List (S102)) (a0_1 : Int) (a0_2 : Int) : Option (Bool) := (laws_szJoiner.f k l0_0 a0_1 a0_2 1048576).bind fun t184 => (if t184 < 0 then (some true) else ((laws_toJoiner.f k l0_0 a0_1 a0_2).bind fun bt185 => ((spec_PendingRows.f k bt185.1 bt185.2.1 bt185.2.2).bind fun t190 => ((laws_toJoiner.f k l0_0 a0_1 a0_2).bind fun bt191 => ((impl_PendingRows.f k bt191.1 bt191.2.1 bt191.2.2).bind fun t197 => (if t197 = t190 then ((laws_toJoiner.f k l0_0 a0_1 a0_2).bind fun bt198 => ((laws_eqJoiner.f k bt191.1 bt191.2.1 bt191.2.2 bt198.1 bt198.2.1 bt198.2.2).bind fun t203 => (if t203 = true then (some true) else (some false)))) else (some false)))))))
theorem laws_FnExactPendingRows.mono : ∀ a0 a1 a2 k, LeO (laws_FnExactPendingRows.f k a0 a1 a2) (laws_FnExactPendingRows.f (k + 1) a0 a1 a2) := by
 intro a0 a1 a2 k
 unfold laws_FnExactPendingRows.f
 repeat' first
   | (with_reducible exact impl_PendingRows.mono _ _ _ _)
   | (with_reducible exact laws_eqJoiner.mono _ _ _ _ _ _ _)
   | (with_reducible exact laws_szJoiner.mono _ _ _ _ _)
   | (with_reducible exact laws_toJoiner.mono _ _ _ _)
   | (with_reducible exact spec_PendingRows.mono _ _ _ _)
   | (with_reducible exact LeO.refl _)
   | (with_reducible exact LeO.none _)
   | (with_reducible refine LeO.ite ?_ ?_)
   | (with_reducible refine LeO.bind ?_ (fun _ => ?_))
   | exact impl_PendingRows.mono _ _ _ _
   | exact laws_eqJoiner.mono _ _ _ _ _ _ _
   | exact laws_szJoiner.mono _ _ _ _ _
   | exact laws_toJoiner.mono _ _ _ _
   | exact spec_PendingRows.mono _ _ _ _
   | exact LeO.none _
   | refine LeO.ite ?_ ?_
   | refine LeO.bind ?_ (fun _ => ?_)
set_option maxHeartbeats 8000000 in
set_option maxRecDepth 100000 in
theorem laws_FnExactPendingRows.calls (k : Nat) (A0_0 : Option Addr) (c0_0 : Nat) (l0_0 : List (S102)) (a0_1 : Int) (a0_2 : Int) (r : Bool) (w : World) (hr0_0 : Kd.C k102 w A0_0 l0_0.length l0_0) (hc0_0 : l0_0.length ≤ c0_0) (ht : r = true) (h : laws_FnExactPendingRows.f k l0_0 a0_1 a0_2 = some r) :
  Calls Try.prog 3 #[.agg #[.slice A0_0 l0_0.length c0_0, .int .i64 a0_1, .int .i64 a0_2]] w fun e w' => e = .returned (.bool r) ∧ Below w.heap.size w w' := by
 have hu24 := Try.underlying24
 have hu29 := Try.underlying29
 have HR0_0 := mA hr0_0
 have HC0_0 := mA hc0_0
 clear hr0_0 hc0_0
 have HB := mA (Below.refl w.heap.size w)
 have HT := mA ht
 clear ht
 have H : ((laws_szJoiner.f k l0_0 a0_1 a0_2 1048576).bind fun t184 => (if t184 < 0 then (some true) else ((laws_toJoiner.f k l0_0 a0_1 a0_2).bind fun bt185 => ((spec_PendingRows.f k bt185.1 bt185.2.1 bt185.2.2).bind fun t190 => ((laws_toJoiner.f k l0_0 a0_1 a0_2).bind fun bt191 => ((impl_PendingRows.f k bt191.1 bt191.2.1 bt191.2.2).bind fun t197 => (if t197 = t190 then ((laws_toJoiner.f k l0_0 a0_1 a0_2).bind fun bt198 => ((laws_eqJoiner.f k bt191.1 bt191.2.1 bt191.2.2 bt198.1 bt198.2.1 bt198.2.2).bind fun t203 => (if t203 = true then (some true) else (some false)))) else (some false)))))))) = some r := h
 clear h
 obtain ⟨t184, A2, H⟩ := Option.bind_eq_some_iff.mp H
 replace A2 := mA A2
 try dsimp only at H
 by_cases c3 : t184 < 0
 ·
  rw [if_pos c3] at H
  have c3b0 : decide (t184 < 0) = true := decide_eq_true c3
  clear c3
  obtain rfl := Option.some.inj H
  go_enter Try.func3, Try.ntmps3
  go_wp2_with (first | ((with_reducible refine gate_dst (N := 1) rfl ?_); refine boxT 1 #[.slice A0_0 l0_0.length c0_0, .int .i64 a0_1, .int .i64 a0_2] 24 ?_; intro gb183 hg w4 hbox hb; have BK183 := mA (hbox); have GW183 := mA ((by rw [hg]; exact (below_size (bT HB)) : w.heap.size ≤ gb183)); have GE183 := GW183; replace HB := mA (below_step (bT HB) hb); clear hb hbox hg; obtain ⟨hcz5_0, hcz5_1, hcz5_2, hfz5_0, hfz5_1, hfz5_2⟩ := blk3 BK183.out) | ((with_reducible refine gate_callee (f := 10) rfl ?_); refine goesT (some 9) Try.func10 #[.agg #[.slice A0_0 l0_0.length c0_0, .int .i64 a0_1, .int .i64 a0_2], .int .i64 1048576] ?_; (with_reducible refine (laws_szJoiner.calls k _ _ l0_0 a0_1 a0_2 1048576 t184 _ ?side1 ?side2 A2.out).mono ?_); (case side1 => exact cT (Kd.C_below HR0_0.out HB.out)); (case side2 => exact HC0_0.out); rintro e w6 ⟨rfl, hb⟩; refine ⟨_, rfl, ?_⟩; replace HB := mA (below_step (bT1 HB GE183) hb); (try clear hb)))
  go_ret
  exact ⟨eT, bT1 HB GE183⟩
 ·
  rw [if_neg c3] at H
  have c3b0 : decide (t184 < 0) = false := decide_eq_false c3
  clear c3
  obtain ⟨⟨t185, t188, t189⟩, A7, H⟩ := Option.bind_eq_some_iff.mp H
  replace A7 := mA A7
  try dsimp only at H
  obtain ⟨t190, A8, H⟩ := Option.bind_eq_some_iff.mp H
  replace A8 := mA A8
  try dsimp only at H
  obtain ⟨⟨t191, t194, t195⟩, A9, H⟩ := Option.bind_eq_some_iff.mp H
  replace A9 := mA A9
  try dsimp only at H
  obtain ⟨t197, A10, H⟩ := Option.bind_eq_some_iff.mp H
  replace A10 := mA A10
  try dsimp only at H
  by_cases c11 : t197 = t190
  ·
   rw [if_pos c11] at H
   have c11b0 : (t197 == t190) = true := beq_iff_eq.mpr c11
   have c11b1 : (t197 != t190) = false := bne_eq_false_iff_eq.mpr c11
   clear c11
   obtain ⟨⟨t198, t201, t202⟩, A12, H⟩ := Option.bind_eq_some_iff.mp H
   replace A12 := mA A12
   try dsimp only at H
   obtain ⟨t203, A13, H⟩ := Option.bind_eq_some_iff.mp H
   replace A13 := mA A13
   replace H : (if t203 = true then (some true) else (some false)) = some r := H
   by_cases c14 : t203 = true
   ·
    subst c14
    rw [if_pos rfl] at H
    obtain rfl := Option.some.inj H
    go_enter Try.func3, Try.ntmps3
    try go_wp2_with (first | ((with_reducible refine gate_dst (N := 1) rfl ?_); refine boxT 1 #[.slice A0_0 l0_0.length c0_0, .int .i64 a0_1, .int .i64 a0_2] 24 ?_; intro gb183 hg w15 hbox hb; have BK183 := mA (hbox); have GW183 := mA ((by rw [hg]; exact (below_size (bT HB)) : w.heap.size ≤ gb183)); have GE183 := GW183; replace HB := mA (below_step (bT HB) hb); clear hb hbox hg; obtain ⟨hcz16_0, hcz16_1, hcz16_2, hfz16_0, hfz16_1, hfz16_2⟩ := blk3 BK183.out) | ((with_reducible refine gate_callee (f := 10) rfl ?_); refine goesT (some 9) Try.func10 #[.agg #[.slice A0_0 l0_0.length c0_0, .int .i64 a0_1, .int .i64 a0_2], .int .i64 1048576] ?_; (with_reducible refine (laws_szJoiner.calls k _ _ l0_0 a0_1 a0_2 1048576 t184 _ ?side1 ?side2 A2.out).mono ?_); (case side1 => exact cT (Kd.C_below HR0_0.out HB.out)); (case side2 => exact HC0_0.out); rintro e w17 ⟨rfl, hb⟩; refine ⟨_, rfl, ?_⟩; replace BK183 := kB BK183 hb; replace HB := mA (below_step (bT1 HB GE183) hb); (try clear hb); (try clear hk); obtain ⟨hcz18_0, hcz18_1, hcz18_2, hfz18_0, hfz18_1, hfz18_2⟩ := blk3 BK183.out) | ((with_reducible refine gate_callee (f := 12) rfl ?_); refine goesT (some 13) Try.func12 #[.agg #[.slice A0_0 l0_0.length c0_0, .int .i64 a0_1, .int .i64 a0_2]] ?_; (with_reducible refine (laws_toJoiner.calls k _ _ l0_0 a0_1 a0_2 t185 t188 t189 _ ?side1 ?side2 A7.out).mono ?_); (case side1 => exact cT (Kd.C_below HR0_0.out HB.out)); (case side2 => exact HC0_0.out); rintro e w19 ⟨v186, rfl, ho0, hb⟩; refine ⟨_, rfl, ?_⟩; have HO187 := mA (Kd.S_lower ho0 (below_size (bT1 HB GE183))); replace BK183 := kB BK183 hb; replace HB := mA (below_step (bT1 HB GE183) hb); (try clear hb); (try clear hk); (try clear ho0); obtain ⟨Ao20, co20, eo20⟩ := Kd.S_slice HO187.out; subst eo20) | ((with_reducible refine gate_callee (f := 11) rfl ?_); refine goesT (some 14) Try.func11 #[.agg #[.slice Ao20 t185.length co20, .int .i64 t188, .int .i64 t189]] ?_; (with_reducible refine (spec_PendingRows.calls k _ _ t185 t188 t189 t190 _ ?side1 ?side2 A8.out).mono ?_); (case side1 => exact cT ((Kd.S_reads' HO187.out).2.2)); (case side2 => exact (Kd.S_reads' HO187.out).2.1); rintro e w21 ⟨rfl, hb⟩; refine ⟨_, rfl, ?_⟩; replace HO187 := rBS HO187 hb; replace BK183 := kB BK183 hb; replace HB := mA (below_step (bT1 HB GE183) hb); (try clear hb); (try clear hk); obtain ⟨hcz22_0, hcz22_1, hcz22_2, hfz22_0, hfz22_1, hfz22_2⟩ := blk3 BK183.out) | ((with_reducible refine gate_callee (f := 12) rfl ?_); refine goesT (some 16) Try.func12 #[.agg #[.slice A0_0 l0_0.length c0_0, .int .i64 a0_1, .int .i64 a0_2]] ?_; (with_reducible refine (laws_toJoiner.calls k _ _ l0_0 a0_1 a0_2 t191 t194 t195 _ ?side1 ?side2 A9.out).mono ?_); (case side1 => exact cT (Kd.C_below HR0_0.out HB.out)); (case side2 => exact HC0_0.out); rintro e w23 ⟨v192, rfl, ho0, hb⟩; refine ⟨_, rfl, ?_⟩; have HO193 := mA (Kd.S_lower (Kd.S_new' ho0 (Kd.S_lt (rTS HO187))) (below_size (bT1 HB GE183))); replace HO187 := mA (Kd.S_elder' (rTS HO187) (Kd.S_base ho0) hb); replace BK183 := kB BK183 hb; replace HB := mA (below_step (bT1 HB GE183) hb); (try clear hb); (try clear hk); (try clear ho0)) | ((with_reducible refine gate_dst (N := 5) rfl ?_); refine boxT 5 #[.slice none 0 0, .int .i64 0, .int .i64 0] 29 ?_; intro gb196 hg w24 hbox hb; replace HO187 := rBS HO187 hb; replace HO193 := rBS HO193 hb; have BK196 := mA (hbox); have GW196 := mA ((by rw [hg]; exact (below_size (bT1 HB GE183)) : w.heap.size ≤ gb196)); have GE196 := GW196; replace HB := mA (below_step (bT1 HB GE183) hb); have NB183_196 : Aside0 (gb183 ≠ gb196) := nL BK183 hg; have NB196_183 : Aside0 (gb196 ≠ gb183) := nG BK183 hg; replace BK183 := kB BK183 hb; clear hb hbox hg; obtain ⟨Ao25, co25, eo25⟩ := Kd.S_slice HO193.out; subst eo25; have hnb26 := NB196_183.out; have hnc26 := NB183_196.out; obtain ⟨hcz27_0, hcz27_1, hcz27_2, hfz27_0, hfz27_1, hfz27_2⟩ := blk3 BK196.out) | ((with_reducible refine gate_callee (f := 13) rfl ?_); refine goesT (some 18) Try.func13 #[.agg #[.slice Ao25 t191.length co25, .int .i64 t194, .int .i64 t195]] ?_; (with_reducible refine (impl_PendingRows.calls k _ _ t191 t194 t195 t197 _ ?side1 ?side2 A10.out).mono ?_); (case side1 => refine (Kd.S_reads' (e := 68) (base := w.heap.size) (ok := fun k_ => (True ∧ some k_ ≠ (.slice Ao20 t185.length co20 : Value).ownBlock)) (n := t191.length) (c := co25) ?_).2.2; exact (by (with_reducible repeat (first | apply Kd.S_alloc | apply Kd.S_drewN | apply Kd.S_drew)); exact (Kd.S_mono (Kd.S_far (p := ⟨gb196, 2, none⟩) (Kd.S_far (p := ⟨gb196, 1, none⟩) (Kd.S_far (p := ⟨gb196, 0, none⟩) (Kd.S_types HO193.out BK196.out (by decide)) (fun _ hk => hk.2) (.slice Ao25 t191.length co25)) (fun _ hk => hk.2) (.int .i64 t194)) (fun _ hk => hk.2) (.int .i64 t195)) (fun _ h_ => h_.1)))); (case side2 => exact (Kd.S_reads' HO193.out).2.1); rintro e w28 ⟨rfl, hb⟩; refine ⟨_, rfl, ?_⟩; replace HO187 := mA (Kd.S_below (by (with_reducible repeat (first | apply Kd.S_alloc | apply Kd.S_drewN | apply Kd.S_drew)); exact (Kd.S_mono (Kd.S_far (p := ⟨gb196, 2, none⟩) (Kd.S_far (p := ⟨gb196, 1, none⟩) (Kd.S_far (p := ⟨gb196, 0, none⟩) (Kd.S_types HO187.out BK196.out (by decide)) (fun _ hk => hk.2) (.slice Ao25 t191.length co25)) (fun _ hk => hk.2) (.int .i64 t194)) (fun _ hk => hk.2) (.int .i64 t195)) (fun _ h_ => h_.1))) hb); replace HO193 := mA (Kd.S_below (by (with_reducible repeat (first | apply Kd.S_alloc | apply Kd.S_drewN | apply Kd.S_drew)); exact (Kd.S_mono (Kd.S_far (p := ⟨gb196, 2, none⟩) (Kd.S_far (p := ⟨gb196, 1, none⟩) (Kd.S_far (p := ⟨gb196, 0, none⟩) (Kd.S_types HO193.out BK196.out (by decide)) (fun _ hk => hk.2) (.slice Ao25 t191.length co25)) (fun _ hk => hk.2) (.int .i64 t194)) (fun _ hk => hk.2) (.int .i64 t195)) (fun _ h_ => h_.1))) hb); replace BK183 := mA (blk_below (g := gb183) (o := .cells #[.slice A0_0 l0_0.length c0_0, .int .i64 a0_1, .int .i64 a0_2] 24 (0, 0)) (by (with_reducible repeat (first | refine blk_drewN ?_ _ | refine blk_drew ?_ | refine blk_alloc ?_ _)); refine blk_far ?_ NB183_196.out _; (with_reducible repeat (first | refine blk_drewN ?_ _ | refine blk_drew ?_ | refine blk_alloc ?_ _)); refine blk_far ?_ NB183_196.out _; (with_reducible repeat (first | refine blk_drewN ?_ _ | refine blk_drew ?_ | refine blk_alloc ?_ _)); refine blk_far ?_ NB183_196.out _; (with_reducible repeat (first | refine blk_drewN ?_ _ | refine blk_drew ?_ | refine blk_alloc ?_ _)); exact BK183.out) hb); replace BK196 := mA (blk_below (g := gb196) (o := .cells #[.slice Ao25 t191.length co25, .int .i64 t194, .int .i64 t195] 29 (0, 0)) (by (with_reducible repeat (first | refine blk_drewN ?_ _ | refine blk_drew ?_ | refine blk_alloc ?_ _)); refine blk_put (cs := #[.slice Ao25 t191.length co25, .int .i64 t194, .int .i64 0]) ?_ 2 _ rfl; (with_reducible repeat (first | refine blk_drewN ?_ _ | refine blk_drew ?_ | refine blk_alloc ?_ _)); refine blk_put (cs := #[.slice Ao25 t191.length co25, .int .i64 0, .int .i64 0]) ?_ 1 _ rfl; (with_reducible repeat (first | refine blk_drewN ?_ _ | refine blk_drew ?_ | refine blk_alloc ?_ _)); refine blk_put (cs := #[.slice none 0 0, .int .i64 0, .int .i64 0]) ?_ 0 _ rfl; (with_reducible repeat (first | refine blk_drewN ?_ _ | refine blk_drew ?_ | refine blk_alloc ?_ _)); exact BK196.out) hb); replace HB := mA (below_step (bT2 HB GE183 GE196) hb); (try clear hb); (try clear hk)))
    replace HO187 := mA (Kd.S_drew HO187.out)
    replace HO193 := mA (Kd.S_drew HO193.out)
    replace BK183 := mA (blk_drew BK183.out)
    replace BK196 := mA (blk_drew BK196.out)
    replace HB := mA (below_drew1 HB.out)
    refine start_ (n := 5) (S := fun w' => w'.cell? ⟨gb196, 0, none⟩ = some (.slice Ao25 t191.length co25) ∧ w'.cell? ⟨gb196, 1, none⟩ = some (.int .i64 t194) ∧ w'.cell? ⟨gb196, 2, none⟩ = some (.int .i64 t195) ∧ w'.cell? ⟨gb183, 0, none⟩ = some (.slice A0_0 l0_0.length c0_0) ∧ w'.cell? ⟨gb183, 1, none⟩ = some (.int .i64 a0_1) ∧ w'.cell? ⟨gb183, 2, none⟩ = some (.int .i64 a0_2)) (ds := []) #[false, false, false, false, false] (by kernel_rfl) rfl rfl ⟨(blk_cell BK196.out 0).trans rfl, (blk_cell BK196.out 1).trans rfl, (blk_cell BK196.out 2).trans rfl, (blk_cell BK183.out 0).trans rfl, (blk_cell BK183.out 1).trans rfl, (blk_cell BK183.out 2).trans rfl⟩ (fun hHeld => ?_)
    generalize w28.drew = w29 at HO187 HO193 BK183 BK196 HB hHeld ⊢
    refine take_ (i := 0) (N := some 22) (v := ?_) (a' := ?_) #[true, false, false, false, false] rfl rfl (by kernel_rfl) (fun _ _ _ h => h) (Or.inl ⟨by rfl, ?_⟩) hHeld ?_ ?_
    rotate_left
    ·
     rintro w' ⟨s0, s1, s2, s3, s4, s5⟩
     go_simp
     with_reducible rfl
    rotate_left
    ·
     simp only [Act.put, List.setIfInBounds_toArray, List.set_cons_zero, List.set_cons_succ, i64_w, i32_w]
     rfl
    refine take_ (i := 1) (N := some 23) (v := ?_) (a' := ?_) #[true, true, false, false, false] rfl rfl (by kernel_rfl) (fun _ _ _ h => h) (Or.inl ⟨by rfl, ?_⟩) hHeld ?_ ?_
    rotate_left
    ·
     rintro w' ⟨s0, s1, s2, s3, s4, s5⟩
     go_simp
     with_reducible rfl
    rotate_left
    ·
     simp only [Act.put, List.setIfInBounds_toArray, List.set_cons_zero, List.set_cons_succ, i64_w, i32_w]
     rfl
    refine one_ (i := 2) (N := some 24) #[true, true, true, false, false] rfl rfl (by kernel_rfl) (by decide) (fun K hK => ?_)
    refine goes_ Try.func12 (by kernel_rfl) rfl #[.agg #[.slice A0_0 l0_0.length c0_0, .int .i64 a0_1, .int .i64 a0_2]] (by rfl) rfl rfl mT ?_
    with_reducible refine (laws_toJoiner.calls k _ _ l0_0 a0_1 a0_2 t198 t201 t202 _ ?side1 ?side2 A12.out).mono ?_
    (case side1 => exact cT (Kd.C_below HR0_0.out HB.out))
    (case side2 => exact HC0_0.out)
    rintro e w30 ⟨v199, rfl, ho0, hb⟩
    refine ⟨_, rfl, ?_⟩
    have HO200 := mA (Kd.S_lower (Kd.S_new' (Kd.S_new' ho0 (Kd.S_lt (rTS HO187))) (Kd.S_lt (rTS HO193))) (below_size (bT2 HB GE183 GE196)))
    replace HO193 := mA (Kd.S_elder' (rTS HO193) (Kd.S_base ho0) hb)
    replace BK183 := kB BK183 hb
    replace BK196 := kB BK196 hb
    replace HB := mA (below_step (bT2 HB GE183 GE196) hb)
    (try clear hb)
    (try clear hb2)
    (try clear hk)
    (try clear hi)
    (try clear ho0)
    obtain ⟨Ao31, co31, eo31⟩ := Kd.S_slice HO200.out
    (first | subst eo31 | (injection eo31 with f1_ f2_ f3_; have f4_ := f1_.symm; have f5_ := f3_.symm; clear f1_ f2_ f3_; subst f4_; subst f5_))
    refine hK.out _ _ ⟨(blk_cell BK196.out 0).trans rfl, (blk_cell BK196.out 1).trans rfl, (blk_cell BK196.out 2).trans rfl, (blk_cell BK183.out 0).trans rfl, (blk_cell BK183.out 1).trans rfl, (blk_cell BK183.out 2).trans rfl⟩ (fun hHeld => ?_)
    clear hK K
    refine norm_ (a' := ?_) ?_ ?_
    rotate_left
    ·
     show Act.put _ (some 24) _ = _
     simp only [Act.put, List.setIfInBounds_toArray, List.set_cons_zero, List.set_cons_succ, i64_w, i32_w]
     rfl
    refine one_ (i := 3) (N := some 25) #[true, true, true, true, false] rfl rfl (by kernel_rfl) (by decide) (fun K hK => ?_)
    refine goes_ Try.func14 (by kernel_rfl) rfl #[.agg #[.slice Ao25 t191.length co25, .int .i64 t194, .int .i64 t195], .agg #[.slice Ao31 t198.length co31, .int .i64 t201, .int .i64 t202]] (by rfl) rfl rfl mT ?_
    with_reducible refine (laws_eqJoiner.calls k _ _ t191 t194 t195 _ _ t198 t201 t202 true _ ?side1 ?side2 ?side3 ?side4 A13.out).mono ?_
    (case side1 => exact cT ((Kd.S_reads' HO193.out).2.2))
    (case side2 => exact (Kd.S_reads' HO193.out).2.1)
    (case side3 => exact cT ((Kd.S_reads' HO200.out).2.2))
    (case side4 => exact (Kd.S_reads' HO200.out).2.1)
    rintro e w32 ⟨rfl, hb⟩
    refine ⟨_, rfl, ?_⟩
    replace BK183 := kB BK183 hb
    replace BK196 := kB BK196 hb
    replace HB := mA (below_step (bT2 HB GE183 GE196) hb)
    (try clear hb)
    (try clear hb2)
    (try clear hk)
    (try clear hi)
    refine hK.out _ _ ⟨(blk_cell BK196.out 0).trans rfl, (blk_cell BK196.out 1).trans rfl, (blk_cell BK196.out 2).trans rfl, (blk_cell BK183.out 0).trans rfl, (blk_cell BK183.out 1).trans rfl, (blk_cell BK183.out 2).trans rfl⟩ (fun hHeld => ?_)
    clear hK K
    refine norm_ (a' := ?_) ?_ ?_
    rotate_left
    ·
     show Act.put _ (some 25) _ = _
     simp only [Act.put, List.setIfInBounds_toArray, List.set_cons_zero, List.set_cons_succ, i64_w, i32_w]
     rfl
    refine pureT (i := 4) (N := some 26) #[true, true, true, true, true] (by kernel_rfl) ?_
    refine done_ (by kernel_rfl) ?_
    try go_wp2
    go_ret
    exact ⟨eT, bT2 HB GE183 GE196⟩
   ·
    replace c14 := Bool.eq_false_iff.mpr c14
    subst c14
    rw [if_neg (show ¬ (false = true) by decide)] at H
    exact absurd ((Option.some.inj H).trans HT.out) (by simp)
  ·
   rw [if_neg c11] at H
   have c11b0 : (t197 == t190) = false := beq_eq_false_iff_ne.mpr c11
   have c11b1 : (t197 != t190) = true := bne_iff_ne.mpr c11
   exact absurd ((Option.some.inj H).trans HT.out) (by simp)

end Go.Proofs.Ytfcebaplphpajaa.P
