/- Written by tools/seatprint.py over the translation. Lean checks it. -/
import Derived.Test.YthciieopabndcaaP0
import Derived.Test.YthciieopabndcaaPb1bc0
namespace Go.Proofs.Ythciieopabndcaa.P
open Go.RowKit Go.Proofs.YthciieopabndcaaW.PrintWords Go.Proofs.YthciieopabndcaaW.PrintLast Go.Proofs.YthciieopabndcaaW.PrintMore
attribute [local go_sem] max2_int min2_int max_two min_two max_three min_three max_four min_four
set_option linter.unusedVariables false
set_option linter.unusedSimpArgs false

/-! ### spec_UnmatchedRows: function 39 -/
mutual
def spec_UnmatchedRows.l0 : Nat → List (S75) → Int → Int → List (S62) → List (S62) → List Bool → Int → Option ((List (S75)))
 | 0, _, _, _, _, _, _, _ => none
 | k + 1, x3, x4, x680000, x680001, x680002, x680003, x680004 => if x4 < (x680001.length : Int) then ((spec_IsValidTask.f k x680000 x680001 x680002 x680003 x680004).bind fun t683 => (spec_UnmatchedRows.j1 k x3 x4 t683 x680000 x680001 x680002 x680003 x680004)) else (spec_UnmatchedRows.j1 k x3 x4 false x680000 x680001 x680002 x680003 x680004)
def spec_UnmatchedRows.j1 : Nat → List (S75) → Int → Bool → Int → List (S62) → List (S62) → List Bool → Int → Option ((List (S75)))
 | 0, _, _, _, _, _, _, _, _ => none
 | k + 1, x3, x4, x14, x680000, x680001, x680002, x680003, x680004 => if x14 = true then (if 0 ≤ x4 then (if x4 < (x680003.length : Int) then (if rdOf false x680003 x4 = true then (spec_UnmatchedRows.l0 k x3 (wrap64 (x4 + 1)) x680000 x680001 x680002 x680003 x680004) else (if x680000 = 3 then (if x4 < (x680001.length : Int) then (if x3.length < 2513169434916 then (spec_UnmatchedRows.l0 k (x3 ++ [(⟨(⟨(rd_T62 x680001 x4).f0, (rd_T62 x680001 x4).f1, (rd_T62 x680001 x4).f2⟩ : S62), (⟨0, 0, 0⟩ : S62), false⟩ : S75)]) (wrap64 (x4 + 1)) x680000 x680001 x680002 x680003 x680004) else (none)) else (none)) else (if x680000 = 4 then (if x4 < (x680001.length : Int) then (if x3.length < 2513169434916 then (spec_UnmatchedRows.l0 k (x3 ++ [(⟨(⟨(rd_T62 x680001 x4).f0, (rd_T62 x680001 x4).f1, (rd_T62 x680001 x4).f2⟩ : S62), (⟨0, 0, 0⟩ : S62), false⟩ : S75)]) (wrap64 (x4 + 1)) x680000 x680001 x680002 x680003 x680004) else (none)) else (none)) else (spec_UnmatchedRows.l0 k x3 (wrap64 (x4 + 1)) x680000 x680001 x680002 x680003 x680004)))) else (none)) else (none)) else (some x3)
end
def spec_UnmatchedRows.f (k : Nat) (a0_0 : Int) (l0_1 : List (S62)) (l0_2 : List (S62)) (l0_3 : List Bool) (a0_4 : Int) : Option ((List (S75))) := spec_UnmatchedRows.l0 k (([] : List (S75))) 0 a0_0 l0_1 l0_2 l0_3 a0_4
theorem spec_UnmatchedRows.mono_l : ∀ k, (∀ y0 y1 y2 y3 y4 y5 y6, LeO (spec_UnmatchedRows.l0 k y0 y1 y2 y3 y4 y5 y6) (spec_UnmatchedRows.l0 (k + 1) y0 y1 y2 y3 y4 y5 y6)) ∧ (∀ y0 y1 y2 y3 y4 y5 y6 y7, LeO (spec_UnmatchedRows.j1 k y0 y1 y2 y3 y4 y5 y6 y7) (spec_UnmatchedRows.j1 (k + 1) y0 y1 y2 y3 y4 y5 y6 y7))
 | 0 => ⟨fun _ _ _ _ _ _ _ r h => by simp [spec_UnmatchedRows.l0] at h, fun _ _ _ _ _ _ _ _ r h => by simp [spec_UnmatchedRows.j1] at h⟩
 | k + 1 => by
  obtain ⟨ih0, ih1⟩ := spec_UnmatchedRows.mono_l k
  refine ⟨?_, ?_⟩
  ·
   intro y0 y1 y2 y3 y4 y5 y6
   unfold spec_UnmatchedRows.l0
   repeat' first
   | (with_reducible exact ih0 _ _ _ _ _ _ _)
   | (with_reducible exact ih1 _ _ _ _ _ _ _ _)
   | (with_reducible exact spec_IsValidTask.mono _ _ _ _ _ _)
   | (with_reducible exact LeO.refl _)
   | (with_reducible exact LeO.none _)
   | (with_reducible refine LeO.ite ?_ ?_)
   | (with_reducible refine LeO.bind ?_ (fun _ => ?_))
   | exact ih0 _ _ _ _ _ _ _
   | exact ih1 _ _ _ _ _ _ _ _
   | exact spec_IsValidTask.mono _ _ _ _ _ _
   | exact LeO.none _
   | refine LeO.ite ?_ ?_
   | refine LeO.bind ?_ (fun _ => ?_)
  ·
   intro y0 y1 y2 y3 y4 y5 y6 y7
   unfold spec_UnmatchedRows.j1
   repeat' first
   | (with_reducible exact ih0 _ _ _ _ _ _ _)
   | (with_reducible exact ih1 _ _ _ _ _ _ _ _)
   | (with_reducible exact spec_IsValidTask.mono _ _ _ _ _ _)
   | (with_reducible exact LeO.refl _)
   | (with_reducible exact LeO.none _)
   | (with_reducible refine LeO.ite ?_ ?_)
   | (with_reducible refine LeO.bind ?_ (fun _ => ?_))
   | exact ih0 _ _ _ _ _ _ _
   | exact ih1 _ _ _ _ _ _ _ _
   | exact spec_IsValidTask.mono _ _ _ _ _ _
   | exact LeO.none _
   | refine LeO.ite ?_ ?_
   | refine LeO.bind ?_ (fun _ => ?_)
theorem spec_UnmatchedRows.mono : ∀ a0 a1 a2 a3 a4 k, LeO (spec_UnmatchedRows.f k a0 a1 a2 a3 a4) (spec_UnmatchedRows.f (k + 1) a0 a1 a2 a3 a4) := by
 intro a0 a1 a2 a3 a4 k
 obtain ⟨ih0, ih1⟩ := spec_UnmatchedRows.mono_l k
 unfold spec_UnmatchedRows.f
 repeat' first
   | (with_reducible exact ih0 _ _ _ _ _ _ _)
   | (with_reducible exact ih1 _ _ _ _ _ _ _ _)
   | (with_reducible exact spec_IsValidTask.mono _ _ _ _ _ _)
   | (with_reducible exact LeO.refl _)
   | (with_reducible exact LeO.none _)
   | (with_reducible refine LeO.ite ?_ ?_)
   | (with_reducible refine LeO.bind ?_ (fun _ => ?_))
   | exact ih0 _ _ _ _ _ _ _
   | exact ih1 _ _ _ _ _ _ _ _
   | exact spec_IsValidTask.mono _ _ _ _ _ _
   | exact LeO.none _
   | refine LeO.ite ?_ ?_
   | refine LeO.bind ?_ (fun _ => ?_)
set_option maxHeartbeats 8000000 in
set_option maxRecDepth 100000 in
theorem spec_UnmatchedRows.calls (k : Nat) (a0_0 : Int) (A0_1 : Option Addr) (c0_1 : Nat) (l0_1 : List (S62)) (A0_2 : Option Addr) (c0_2 : Nat) (l0_2 : List (S62)) (A0_3 : Option Addr) (c0_3 : Nat) (l0_3 : List Bool) (a0_4 : Int) (r : List (S75)) (w : World) (hr0_1 : Kd.C k62 w A0_1 l0_1.length l0_1) (hc0_1 : l0_1.length ≤ c0_1) (hr0_2 : Kd.C k62 w A0_2 l0_2.length l0_2) (hc0_2 : l0_2.length ≤ c0_2) (hr0_3 : Kd.C Kd.bool w A0_3 l0_3.length l0_3) (hc0_3 : l0_3.length ≤ c0_3) (h : spec_UnmatchedRows.f k a0_0 l0_1 l0_2 l0_3 a0_4 = some r) :
  Calls Try.prog 39 #[.agg #[.int .i64 a0_0, .slice A0_1 l0_1.length c0_1, .slice A0_2 l0_2.length c0_2, .slice A0_3 l0_3.length c0_3, .int .i64 a0_4]] w fun e w' => ∃ v0_ : Value, e = .returned (v0_) ∧ Kd.R k75 75 w' w.heap.size (fun _ => True) v0_ r ∧ Below w.heap.size w w' := by
 have hu37 := Try.underlying37
 have hu62 := Try.underlying62
 have hu75 := Try.underlying75
 have HR0_1 := mA hr0_1
 have HC0_1 := mA hc0_1
 clear hr0_1 hc0_1
 have HR0_2 := mA hr0_2
 have HC0_2 := mA hc0_2
 clear hr0_2 hc0_2
 have HR0_3 := mA hr0_3
 have HC0_3 := mA hc0_3
 clear hr0_3 hc0_3
 have HB := mA (Below.refl w.heap.size w)
 have H : (spec_UnmatchedRows.l0 k (([] : List (S75))) 0 a0_0 l0_1 l0_2 l0_3 a0_4) = some r := h
 clear h
 obtain ⟨y680, hy680⟩ : ∃ y_ : List (S75), y_ = (([] : List (S75))) := ⟨_, rfl⟩
 replace H : (spec_UnmatchedRows.l0 k y680 0 a0_0 l0_1 l0_2 l0_3 a0_4) = some r := by first | (rw [hy680]; with_reducible exact H) | (have H2_ := (Option.bind_some _ _).symm.trans H; rw [hy680]; with_reducible exact H2_) | (have H2_ := (Option.bind_some _ _).symm.trans H; with_reducible exact H2_) | with_reducible exact H | (rw [hy680]; exact H) | exact H
 have Ny680 := mA hy680
 clear hy680
 have H' := mA H
 clear H
 go_enter Try.func39, Try.ntmps39
 go_wp2_with (first | ((with_reducible refine gate_dst (N := 1) rfl ?_); refine boxT 1 #[.int .i64 a0_0, .slice A0_1 l0_1.length c0_1, .slice A0_2 l0_2.length c0_2, .slice A0_3 l0_3.length c0_3, .int .i64 a0_4] 37 ?_; intro gb679 hg w2 hbox hb; have BK679 := mA (hbox); have GW679 := mA ((by rw [hg]; exact (below_size (bT HB)) : w.heap.size ≤ gb679)); have GE679 := GW679; replace HB := mA (below_step (bT HB) hb); clear hb hbox hg) | ((with_reducible refine gate_dst (N := 5) rfl ?_); refine Kd.R_lit k75 _ 75 ?hg (N := 5) ?hd (xs := ([] : List (S75))) (inner := []) (ok := fun _ => True) (okp := fun _ => True) ?hr ?hp (fun _ hk => hk) trivial (Below.refl _ _) (Nat.le_refl _) (by simp) ?_; (case hd => rfl); (case hg => rfl); (case hr => first | (go_simp; done) | (go_simp; rfl)); (case hp => exact (Reps.none _ _)); intro v681 w3 ho4 hb hg_ hnew_; clear hg_ hnew_; (first | rw [← Ny680.out] at ho4 | (simp only [Int.reduceToNat] at ho4; rw [← Ny680.out] at ho4)); have HO682 := mA (Kd.R_lower ho4 (below_size (bT1 HB GE679))); replace BK679 := kB BK679 hb; replace HB := mA (below_step (bT1 HB GE679) hb); clear hb ho4))
 go_loopg [3, 4] k (fun kq v3 v4 w' => ∃ (x3_1 : List (S75)) (x4_1 : Int), v4 = .int .i64 x4_1 ∧ Aside0 (spec_UnmatchedRows.l0 kq x3_1 x4_1 a0_0 l0_1 l0_2 l0_3 a0_4 = some r) ∧ Aside0 (kq ≤ k) ∧ Aside0 (Kd.R k75 75 w' w.heap.size (fun _ => True) v3 x3_1) ∧ Aside0 (w'.heap[gb679]? = some (.cells #[.int .i64 a0_0, (.slice A0_1 l0_1.length c0_1), (.slice A0_2 l0_2.length c0_2), (.slice A0_3 l0_3.length c0_3), .int .i64 a0_4] 37 (0, 0))) ∧ Aside0 (Below w.heap.size w w'))
 case atStart => exact ⟨(y680), (0), sT, H', ⟨Nat.le_refl _⟩, ⟨rTR HO682⟩, ⟨kT BK679⟩, ⟨bT1 HB GE679⟩⟩
 case round =>
  clear H'
  try clear p2
  try clear c3
  obtain ⟨x3_1, x4_1, rfl, HA, HK1, HO_3, BK679, HB⟩ := hrel
  cases gk with
  | zero => exact absurd HA.out (by simp [spec_UnmatchedRows.l0])
  | succ k1 =>
   have H := HA.out
   clear HA
   simp only [spec_UnmatchedRows.l0] at H
   have HC5 := mA H
   clear H
   go_upto_region 3 with (fail)
   go_cut [14] (fun v14 wc => ∃ (kq : Nat) (x14_4 : Bool), v14 = .bool x14_4 ∧ Aside0 (spec_UnmatchedRows.j1 kq x3_1 x4_1 x14_4 a0_0 l0_1 l0_2 l0_3 a0_4 = some r) ∧ Aside0 (kq ≤ k1) ∧ Aside0 (Kd.R k75 75 wc w.heap.size (fun _ => True) u3 x3_1) ∧ Aside0 (wc.heap[gb679]? = some (.cells #[.int .i64 a0_0, (.slice A0_1 l0_1.length c0_1), (.slice A0_2 l0_2.length c0_2), (.slice A0_3 l0_3.length c0_3), .int .i64 a0_4] 37 (0, 0))) ∧ Aside0 (Below w.heap.size w wc))
   case first =>
    have H := HC5.out
    clear HC5
    by_cases c6 : x4_1 < (l0_1.length : Int)
    ·
     rw [if_pos c6] at H
     have c6b0 : decide (x4_1 < (l0_1.length : Int)) = true := decide_eq_true c6
     clear c6
     (first | rw [c6b0] | (simp only [i64_w, i32_w]; rw [c6b0]) | skip)
     obtain ⟨t683, A7, H⟩ := Option.bind_eq_some_iff.mp H
     replace A7 := mA A7
     try dsimp only at H
     have H' := mA H
     clear H
     have hcz8_0 : wr.cell? ⟨gb679, 0, none⟩ = some (.int .i64 a0_0) := (blk_cell BK679.out 0).trans rfl
     have hcz8_1 : wr.cell? ⟨gb679, 1, none⟩ = some (.slice A0_1 l0_1.length c0_1) := (blk_cell BK679.out 1).trans rfl
     have hcz8_2 : wr.cell? ⟨gb679, 2, none⟩ = some (.slice A0_2 l0_2.length c0_2) := (blk_cell BK679.out 2).trans rfl
     have hcz8_3 : wr.cell? ⟨gb679, 3, none⟩ = some (.slice A0_3 l0_3.length c0_3) := (blk_cell BK679.out 3).trans rfl
     have hcz8_4 : wr.cell? ⟨gb679, 4, none⟩ = some (.int .i64 a0_4) := (blk_cell BK679.out 4).trans rfl
     have hfz8_0 := blk_frozen BK679.out 0
     have hfz8_1 := blk_frozen BK679.out 1
     have hfz8_2 := blk_frozen BK679.out 2
     have hfz8_3 := blk_frozen BK679.out 3
     have hfz8_4 := blk_frozen BK679.out 4
     go_wp2_with (first | (go_at_call 27; (with_reducible refine (spec_IsValidTask.calls k1 a0_0 _ _ l0_1 _ _ l0_2 _ _ l0_3 a0_4 t683 _ ?side1 ?side2 ?side3 ?side4 ?side5 ?side6 A7.out).mono ?_); (case side1 => exact cT (Kd.C_below HR0_1.out HB.out)); (case side2 => exact HC0_1.out); (case side3 => exact cT (Kd.C_below HR0_2.out HB.out)); (case side4 => exact HC0_2.out); (case side5 => exact cT (Kd.C_below HR0_3.out HB.out)); (case side6 => exact HC0_3.out); rintro e w9 ⟨rfl, hb⟩; replace HO_3 := rBR HO_3 hb; replace BK679 := kB BK679 hb; replace HB := mA (below_step (bT1 HB GE679) hb); (try clear hb)))
     go_meet
     case rel => exact ⟨_, (t683), sT, H', ⟨by have := HK1.out; first | omega | exact Nat.le_refl _⟩, ⟨rTR HO_3⟩, ⟨kT BK679⟩, ⟨bT1 HB GE679⟩⟩
    ·
     rw [if_neg c6] at H
     have c6b0 : decide (x4_1 < (l0_1.length : Int)) = false := decide_eq_false c6
     clear c6
     (first | rw [c6b0] | (simp only [i64_w, i32_w]; rw [c6b0]) | skip)
     have H' := mA H
     clear H
     have hcz10_0 : wr.cell? ⟨gb679, 0, none⟩ = some (.int .i64 a0_0) := (blk_cell BK679.out 0).trans rfl
     have hcz10_1 : wr.cell? ⟨gb679, 1, none⟩ = some (.slice A0_1 l0_1.length c0_1) := (blk_cell BK679.out 1).trans rfl
     have hcz10_2 : wr.cell? ⟨gb679, 2, none⟩ = some (.slice A0_2 l0_2.length c0_2) := (blk_cell BK679.out 2).trans rfl
     have hcz10_3 : wr.cell? ⟨gb679, 3, none⟩ = some (.slice A0_3 l0_3.length c0_3) := (blk_cell BK679.out 3).trans rfl
     have hcz10_4 : wr.cell? ⟨gb679, 4, none⟩ = some (.int .i64 a0_4) := (blk_cell BK679.out 4).trans rfl
     have hfz10_0 := blk_frozen BK679.out 0
     have hfz10_1 := blk_frozen BK679.out 1
     have hfz10_2 := blk_frozen BK679.out 2
     have hfz10_3 := blk_frozen BK679.out 3
     have hfz10_4 := blk_frozen BK679.out 4
     go_wp2
     go_meet
     case rel => exact ⟨_, (false), sT, H', ⟨by have := HK1.out; first | omega | exact Nat.le_refl _⟩, ⟨rTR HO_3⟩, ⟨kT BK679⟩, ⟨bT1 HB GE679⟩⟩
   case rest =>
    clear HC5
    try clear p2
    try clear c3
    try clear c6
    try clear c6b0
    try clear hcz10_0
    try clear hcz10_1
    try clear hcz10_2
    try clear hcz10_3
    try clear hcz10_4
    try clear hcz8_0
    try clear hcz8_1
    try clear hcz8_2
    try clear hcz8_3
    try clear hcz8_4
    try clear hfz10_0
    try clear hfz10_1
    try clear hfz10_2
    try clear hfz10_3
    try clear hfz10_4
    try clear hfz8_0
    try clear hfz8_1
    try clear hfz8_2
    try clear hfz8_3
    try clear hfz8_4
    try clear p2
    obtain ⟨kq, x14_4, rfl, HA, HJ4, HO_3, BK679, HB⟩ := hcut
    cases kq with
    | zero => exact absurd HA.out (by simp [spec_UnmatchedRows.j1])
    | succ kj4 =>
     have H := HA.out
     clear HA
     simp only [spec_UnmatchedRows.j1] at H
     by_cases c11 : x14_4 = true
     ·
      subst c11
      rw [if_pos rfl] at H
      by_cases c12 : 0 ≤ x4_1
      ·
       rw [if_pos c12] at H
       have c12b0 : decide (0 ≤ x4_1) = true := decide_eq_true c12
       clear c12
       by_cases c13 : x4_1 < (l0_3.length : Int)
       ·
        rw [if_pos c13] at H
        have c13b0 : decide (x4_1 < (l0_3.length : Int)) = true := decide_eq_true c13
        clear c13
        obtain ⟨bq14, hbq14⟩ : ∃ b_ : Bool, b_ = (rdOf false l0_3 x4_1) := ⟨_, rfl⟩
        replace H : (if bq14 = true then (spec_UnmatchedRows.l0 kj4 x3_1 (wrap64 (x4_1 + 1)) a0_0 l0_1 l0_2 l0_3 a0_4) else (if a0_0 = 3 then (if x4_1 < (l0_1.length : Int) then (if x3_1.length < 2513169434916 then (spec_UnmatchedRows.l0 kj4 (x3_1 ++ [(⟨(⟨(rd_T62 l0_1 x4_1).f0, (rd_T62 l0_1 x4_1).f1, (rd_T62 l0_1 x4_1).f2⟩ : S62), (⟨0, 0, 0⟩ : S62), false⟩ : S75)]) (wrap64 (x4_1 + 1)) a0_0 l0_1 l0_2 l0_3 a0_4) else (none)) else (none)) else (if a0_0 = 4 then (if x4_1 < (l0_1.length : Int) then (if x3_1.length < 2513169434916 then (spec_UnmatchedRows.l0 kj4 (x3_1 ++ [(⟨(⟨(rd_T62 l0_1 x4_1).f0, (rd_T62 l0_1 x4_1).f1, (rd_T62 l0_1 x4_1).f2⟩ : S62), (⟨0, 0, 0⟩ : S62), false⟩ : S75)]) (wrap64 (x4_1 + 1)) a0_0 l0_1 l0_2 l0_3 a0_4) else (none)) else (none)) else (spec_UnmatchedRows.l0 kj4 x3_1 (wrap64 (x4_1 + 1)) a0_0 l0_1 l0_2 l0_3 a0_4)))) = some r := by rw [← hbq14] at H; exact H
        have Nbq14 := mA hbq14
        clear hbq14
        by_cases c15 : bq14 = true
        ·
         subst c15
         rw [if_pos rfl] at H
         have H' := mA H
         clear H
         have hcz16_0 : wc.cell? ⟨gb679, 0, none⟩ = some (.int .i64 a0_0) := (blk_cell BK679.out 0).trans rfl
         have hcz16_1 : wc.cell? ⟨gb679, 1, none⟩ = some (.slice A0_1 l0_1.length c0_1) := (blk_cell BK679.out 1).trans rfl
         have hcz16_2 : wc.cell? ⟨gb679, 2, none⟩ = some (.slice A0_2 l0_2.length c0_2) := (blk_cell BK679.out 2).trans rfl
         have hcz16_3 : wc.cell? ⟨gb679, 3, none⟩ = some (.slice A0_3 l0_3.length c0_3) := (blk_cell BK679.out 3).trans rfl
         have hcz16_4 : wc.cell? ⟨gb679, 4, none⟩ = some (.int .i64 a0_4) := (blk_cell BK679.out 4).trans rfl
         have hfz16_0 := blk_frozen BK679.out 0
         have hfz16_1 := blk_frozen BK679.out 1
         have hfz16_2 := blk_frozen BK679.out 2
         have hfz16_3 := blk_frozen BK679.out 3
         have hfz16_4 := blk_frozen BK679.out 4
         have p684 : 0 ≤ (x4_1 : Int) := of_decide_eq_true aT
         have q684 : x4_1 < (l0_3.length : Int) := of_decide_eq_true aT
         obtain ⟨ad684, e684, hx684_0⟩ := Kd.at_bool HR0_3.out x4_1 p684 q684
         (try rw [← Nbq14.out] at hx684_0)
         cases e684
         replace hx684_0 := (HB.out.cell (World.block_lt_of_cell? w _ hx684_0)).trans hx684_0
         replace p684 := eq_true p684
         replace q684 := eq_true q684
         go_wp2
         go_roundg kj4
         case measure => have := HK1.out; have := HJ4.out; omega
         case rel => exact ⟨(x3_1), (wrap64 (x4_1 + 1)), sT, H', ⟨by have := HK1.out; have := HJ4.out; omega⟩, ⟨rTR HO_3⟩, ⟨kT BK679⟩, ⟨bT1 HB GE679⟩⟩
        ·
         replace c15 := Bool.eq_false_iff.mpr c15
         subst c15
         rw [if_neg (show ¬ (false = true) by decide)] at H
         by_cases c17 : a0_0 = 3
         ·
          rw [if_pos c17] at H
          have c17b0 : (a0_0 == 3) = true := beq_iff_eq.mpr c17
          have c17b1 : (a0_0 != 3) = false := bne_eq_false_iff_eq.mpr c17
          clear c17
          by_cases c18 : x4_1 < (l0_1.length : Int)
          ·
           rw [if_pos c18] at H
           have c18b0 : decide (x4_1 < (l0_1.length : Int)) = true := decide_eq_true c18
           clear c18
           by_cases c19 : x3_1.length < 2513169434916
           ·
            rw [if_pos c19] at H
            have LMc19 := mA c19
            clear c19
            obtain ⟨y686, hy686⟩ : ∃ y_ : List (S75), y_ = (x3_1 ++ [(⟨(⟨(rd_T62 l0_1 x4_1).f0, (rd_T62 l0_1 x4_1).f1, (rd_T62 l0_1 x4_1).f2⟩ : S62), (⟨0, 0, 0⟩ : S62), false⟩ : S75)]) := ⟨_, rfl⟩
            replace H : (spec_UnmatchedRows.l0 kj4 y686 (wrap64 (x4_1 + 1)) a0_0 l0_1 l0_2 l0_3 a0_4) = some r := by first | (rw [hy686]; with_reducible exact H) | (have H2_ := (Option.bind_some _ _).symm.trans H; rw [hy686]; with_reducible exact H2_) | (have H2_ := (Option.bind_some _ _).symm.trans H; with_reducible exact H2_) | with_reducible exact H | (rw [hy686]; exact H) | exact H
            have Ny686 := mA hy686
            clear hy686
            have H' := mA H
            clear H
            have hcz20_0 : wc.cell? ⟨gb679, 0, none⟩ = some (.int .i64 a0_0) := (blk_cell BK679.out 0).trans rfl
            have hcz20_1 : wc.cell? ⟨gb679, 1, none⟩ = some (.slice A0_1 l0_1.length c0_1) := (blk_cell BK679.out 1).trans rfl
            have hcz20_2 : wc.cell? ⟨gb679, 2, none⟩ = some (.slice A0_2 l0_2.length c0_2) := (blk_cell BK679.out 2).trans rfl
            have hcz20_3 : wc.cell? ⟨gb679, 3, none⟩ = some (.slice A0_3 l0_3.length c0_3) := (blk_cell BK679.out 3).trans rfl
            have hcz20_4 : wc.cell? ⟨gb679, 4, none⟩ = some (.int .i64 a0_4) := (blk_cell BK679.out 4).trans rfl
            have hfz20_0 := blk_frozen BK679.out 0
            have hfz20_1 := blk_frozen BK679.out 1
            have hfz20_2 := blk_frozen BK679.out 2
            have hfz20_3 := blk_frozen BK679.out 3
            have hfz20_4 := blk_frozen BK679.out 4
            have p684 : 0 ≤ (x4_1 : Int) := of_decide_eq_true aT
            have q684 : x4_1 < (l0_3.length : Int) := of_decide_eq_true aT
            obtain ⟨ad684, e684, hx684_0⟩ := Kd.at_bool HR0_3.out x4_1 p684 q684
            (try rw [← Nbq14.out] at hx684_0)
            cases e684
            replace hx684_0 := (HB.out.cell (World.block_lt_of_cell? w _ hx684_0)).trans hx684_0
            replace p684 := eq_true p684
            replace q684 := eq_true q684
            have p685 : 0 ≤ (x4_1 : Int) := of_decide_eq_true aT
            have q685 : x4_1 < (l0_1.length : Int) := of_decide_eq_true aT
            obtain ⟨ad685, e685, hx685_0, hx685_1, hx685_2⟩ := at_T62 HR0_1.out x4_1 p685 q685
            cases e685
            replace hx685_0 := (HB.out.cell (World.block_lt_of_cell? w _ hx685_0)).trans hx685_0
            replace hx685_1 := (HB.out.cell (World.block_lt_of_cell? w _ hx685_1)).trans hx685_1
            replace hx685_2 := (HB.out.cell (World.block_lt_of_cell? w _ hx685_2)).trans hx685_2
            replace p685 := eq_true p685
            replace q685 := eq_true q685
            go_wp2_with (first | ((with_reducible refine gate_builtin (b := .append) (xs := #[.tmp 33, .tmp 40]) rfl ?_); at_builtin; refine Kd.R_append k75 (w0 := w) w.heap.size rfl (.tmp 33) (.tmp 40) 48 75 (.agg #[(.int .i64 0), (.int .i64 0), (.int .i64 0), (.int .i64 0), (.int .i64 0), (.int .i64 0), (.bool false)]) 56 rfl Try.underlying48 info75 rfl (by decide) (by omega) u3 x3_1 (⟨(⟨(rd_T62 l0_1 x4_1).f0, (rd_T62 l0_1 x4_1).f1, (rd_T62 l0_1 x4_1).f2⟩ : S62), (⟨0, 0, 0⟩ : S62), false⟩ : S75) [.int .i64 ((rd_T62 l0_1 x4_1).f0), .int .i64 ((rd_T62 l0_1 x4_1).f1), .int .i64 ((rd_T62 l0_1 x4_1).f2), .int .i64 0, .int .i64 0, .int .i64 0, .bool false] (fun _ => True) (fun _ => False) rfl rfl ?aP (fun _ hk => hk.elim) ?aF ?aO ?aB ?aS ?aL ?_; (case aP => exact k75_mkM _ _ _ (⟨(⟨(rd_T62 l0_1 x4_1).f0, (rd_T62 l0_1 x4_1).f1, (rd_T62 l0_1 x4_1).f2⟩ : S62), (⟨0, 0, 0⟩ : S62), false⟩ : S75)); (case aB => exact (bT1 HB GE679)); (case aF => exact (fun _ _ => trivial)); (case aO => exact (rTR HO_3)); (case aS => exact (below_size (bT1 HB GE679))); (case aL => have := LMc19.out; omega); intro v687 w21 ho hb hg hat; rw [← Ny686.out] at ho; replace BK679 := mA (blk_grown (g := gb679) (o := .cells #[.int .i64 a0_0, .slice (some ad685) l0_1.length c0_1, .slice A0_2 l0_2.length c0_2, .slice (some ad684) l0_3.length c0_3, .int .i64 a0_4] 37 (0, 0)) (kT BK679) hg (Kd.R_ne HO_3.out BK679.out (by decide))); replace HB := mA (hb); have HO688 := mA (ho); clear HO_3; clear ho hb hg hat))
            go_roundg kj4
            case measure => have := HK1.out; have := HJ4.out; omega
            case rel => exact ⟨(y686), (wrap64 (x4_1 + 1)), sT, H', ⟨by have := HK1.out; have := HJ4.out; omega⟩, ⟨rTR HO688⟩, ⟨kT BK679⟩, ⟨bT1 HB GE679⟩⟩
           ·
            rw [if_neg c19] at H
            exact absurd H (by simp)
          ·
           rw [if_neg c18] at H
           exact absurd H (by simp)
         ·
          rw [if_neg c17] at H
          have c17b0 : (a0_0 == 3) = false := beq_eq_false_iff_ne.mpr c17
          have c17b1 : (a0_0 != 3) = true := bne_iff_ne.mpr c17
          by_cases c22 : a0_0 = 4
          ·
           rw [if_pos c22] at H
           have c22b0 : (a0_0 == 4) = true := beq_iff_eq.mpr c22
           have c22b1 : (a0_0 != 4) = false := bne_eq_false_iff_eq.mpr c22
           clear c22
           by_cases c23 : x4_1 < (l0_1.length : Int)
           ·
            rw [if_pos c23] at H
            have c23b0 : decide (x4_1 < (l0_1.length : Int)) = true := decide_eq_true c23
            clear c23
            by_cases c24 : x3_1.length < 2513169434916
            ·
             rw [if_pos c24] at H
             have LMc24 := mA c24
             clear c24
             obtain ⟨y690, hy690⟩ : ∃ y_ : List (S75), y_ = (x3_1 ++ [(⟨(⟨(rd_T62 l0_1 x4_1).f0, (rd_T62 l0_1 x4_1).f1, (rd_T62 l0_1 x4_1).f2⟩ : S62), (⟨0, 0, 0⟩ : S62), false⟩ : S75)]) := ⟨_, rfl⟩
             replace H : (spec_UnmatchedRows.l0 kj4 y690 (wrap64 (x4_1 + 1)) a0_0 l0_1 l0_2 l0_3 a0_4) = some r := by first | (rw [hy690]; with_reducible exact H) | (have H2_ := (Option.bind_some _ _).symm.trans H; rw [hy690]; with_reducible exact H2_) | (have H2_ := (Option.bind_some _ _).symm.trans H; with_reducible exact H2_) | with_reducible exact H | (rw [hy690]; exact H) | exact H
             have Ny690 := mA hy690
             clear hy690
             have H' := mA H
             clear H
             have hcz25_0 : wc.cell? ⟨gb679, 0, none⟩ = some (.int .i64 a0_0) := (blk_cell BK679.out 0).trans rfl
             have hcz25_1 : wc.cell? ⟨gb679, 1, none⟩ = some (.slice A0_1 l0_1.length c0_1) := (blk_cell BK679.out 1).trans rfl
             have hcz25_2 : wc.cell? ⟨gb679, 2, none⟩ = some (.slice A0_2 l0_2.length c0_2) := (blk_cell BK679.out 2).trans rfl
             have hcz25_3 : wc.cell? ⟨gb679, 3, none⟩ = some (.slice A0_3 l0_3.length c0_3) := (blk_cell BK679.out 3).trans rfl
             have hcz25_4 : wc.cell? ⟨gb679, 4, none⟩ = some (.int .i64 a0_4) := (blk_cell BK679.out 4).trans rfl
             have hfz25_0 := blk_frozen BK679.out 0
             have hfz25_1 := blk_frozen BK679.out 1
             have hfz25_2 := blk_frozen BK679.out 2
             have hfz25_3 := blk_frozen BK679.out 3
             have hfz25_4 := blk_frozen BK679.out 4
             have p684 : 0 ≤ (x4_1 : Int) := of_decide_eq_true aT
             have q684 : x4_1 < (l0_3.length : Int) := of_decide_eq_true aT
             obtain ⟨ad684, e684, hx684_0⟩ := Kd.at_bool HR0_3.out x4_1 p684 q684
             (try rw [← Nbq14.out] at hx684_0)
             cases e684
             replace hx684_0 := (HB.out.cell (World.block_lt_of_cell? w _ hx684_0)).trans hx684_0
             replace p684 := eq_true p684
             replace q684 := eq_true q684
             have p689 : 0 ≤ (x4_1 : Int) := of_decide_eq_true aT
             have q689 : x4_1 < (l0_1.length : Int) := of_decide_eq_true aT
             obtain ⟨ad689, e689, hx689_0, hx689_1, hx689_2⟩ := at_T62 HR0_1.out x4_1 p689 q689
             cases e689
             replace hx689_0 := (HB.out.cell (World.block_lt_of_cell? w _ hx689_0)).trans hx689_0
             replace hx689_1 := (HB.out.cell (World.block_lt_of_cell? w _ hx689_1)).trans hx689_1
             replace hx689_2 := (HB.out.cell (World.block_lt_of_cell? w _ hx689_2)).trans hx689_2
             replace p689 := eq_true p689
             replace q689 := eq_true q689
             go_wp2_with (first | ((with_reducible refine gate_builtin (b := .append) (xs := #[.tmp 33, .tmp 40]) rfl ?_); at_builtin; refine Kd.R_append k75 (w0 := w) w.heap.size rfl (.tmp 33) (.tmp 40) 48 75 (.agg #[(.int .i64 0), (.int .i64 0), (.int .i64 0), (.int .i64 0), (.int .i64 0), (.int .i64 0), (.bool false)]) 56 rfl Try.underlying48 info75 rfl (by decide) (by omega) u3 x3_1 (⟨(⟨(rd_T62 l0_1 x4_1).f0, (rd_T62 l0_1 x4_1).f1, (rd_T62 l0_1 x4_1).f2⟩ : S62), (⟨0, 0, 0⟩ : S62), false⟩ : S75) [.int .i64 ((rd_T62 l0_1 x4_1).f0), .int .i64 ((rd_T62 l0_1 x4_1).f1), .int .i64 ((rd_T62 l0_1 x4_1).f2), .int .i64 0, .int .i64 0, .int .i64 0, .bool false] (fun _ => True) (fun _ => False) rfl rfl ?aP (fun _ hk => hk.elim) ?aF ?aO ?aB ?aS ?aL ?_; (case aP => exact k75_mkM _ _ _ (⟨(⟨(rd_T62 l0_1 x4_1).f0, (rd_T62 l0_1 x4_1).f1, (rd_T62 l0_1 x4_1).f2⟩ : S62), (⟨0, 0, 0⟩ : S62), false⟩ : S75)); (case aB => exact (bT1 HB GE679)); (case aF => exact (fun _ _ => trivial)); (case aO => exact (rTR HO_3)); (case aS => exact (below_size (bT1 HB GE679))); (case aL => have := LMc24.out; omega); intro v691 w26 ho hb hg hat; rw [← Ny690.out] at ho; replace BK679 := mA (blk_grown (g := gb679) (o := .cells #[.int .i64 a0_0, .slice (some ad689) l0_1.length c0_1, .slice A0_2 l0_2.length c0_2, .slice (some ad684) l0_3.length c0_3, .int .i64 a0_4] 37 (0, 0)) (kT BK679) hg (Kd.R_ne HO_3.out BK679.out (by decide))); replace HB := mA (hb); have HO692 := mA (ho); clear HO_3; clear ho hb hg hat))
             go_roundg kj4
             case measure => have := HK1.out; have := HJ4.out; omega
             case rel => exact ⟨(y690), (wrap64 (x4_1 + 1)), sT, H', ⟨by have := HK1.out; have := HJ4.out; omega⟩, ⟨rTR HO692⟩, ⟨kT BK679⟩, ⟨bT1 HB GE679⟩⟩
            ·
             rw [if_neg c24] at H
             exact absurd H (by simp)
           ·
            rw [if_neg c23] at H
            exact absurd H (by simp)
          ·
           rw [if_neg c22] at H
           have c22b0 : (a0_0 == 4) = false := beq_eq_false_iff_ne.mpr c22
           have c22b1 : (a0_0 != 4) = true := bne_iff_ne.mpr c22
           have H' := mA H
           clear H
           have hcz27_0 : wc.cell? ⟨gb679, 0, none⟩ = some (.int .i64 a0_0) := (blk_cell BK679.out 0).trans rfl
           have hcz27_1 : wc.cell? ⟨gb679, 1, none⟩ = some (.slice A0_1 l0_1.length c0_1) := (blk_cell BK679.out 1).trans rfl
           have hcz27_2 : wc.cell? ⟨gb679, 2, none⟩ = some (.slice A0_2 l0_2.length c0_2) := (blk_cell BK679.out 2).trans rfl
           have hcz27_3 : wc.cell? ⟨gb679, 3, none⟩ = some (.slice A0_3 l0_3.length c0_3) := (blk_cell BK679.out 3).trans rfl
           have hcz27_4 : wc.cell? ⟨gb679, 4, none⟩ = some (.int .i64 a0_4) := (blk_cell BK679.out 4).trans rfl
           have hfz27_0 := blk_frozen BK679.out 0
           have hfz27_1 := blk_frozen BK679.out 1
           have hfz27_2 := blk_frozen BK679.out 2
           have hfz27_3 := blk_frozen BK679.out 3
           have hfz27_4 := blk_frozen BK679.out 4
           have p684 : 0 ≤ (x4_1 : Int) := of_decide_eq_true aT
           have q684 : x4_1 < (l0_3.length : Int) := of_decide_eq_true aT
           obtain ⟨ad684, e684, hx684_0⟩ := Kd.at_bool HR0_3.out x4_1 p684 q684
           (try rw [← Nbq14.out] at hx684_0)
           cases e684
           replace hx684_0 := (HB.out.cell (World.block_lt_of_cell? w _ hx684_0)).trans hx684_0
           replace p684 := eq_true p684
           replace q684 := eq_true q684
           go_wp2
           go_roundg kj4
           case measure => have := HK1.out; have := HJ4.out; omega
           case rel => exact ⟨(x3_1), (wrap64 (x4_1 + 1)), sT, H', ⟨by have := HK1.out; have := HJ4.out; omega⟩, ⟨rTR HO_3⟩, ⟨kT BK679⟩, ⟨bT1 HB GE679⟩⟩
       ·
        rw [if_neg c13] at H
        exact absurd H (by simp)
      ·
       rw [if_neg c12] at H
       exact absurd H (by simp)
     ·
      replace c11 := Bool.eq_false_iff.mpr c11
      subst c11
      rw [if_neg (show ¬ (false = true) by decide)] at H
      obtain rfl := Option.some.inj H
      go_wp2
      go_ret
      exact ⟨_, eT, rTR HO_3, bT1 HB GE679⟩

/-! ### impl_UnmatchedRows: function 40 -/
mutual
def impl_UnmatchedRows.j0 : Nat → Bool → Int → List (S62) → List (S62) → List Bool → Int → Option ((List (S75)))
 | 0, _, _, _, _, _, _ => none
 | k + 1, x18, x694000, x694001, x694002, x694003, x694004 => if x18 = true then (some ([] : List (S75))) else (impl_UnmatchedRows.l0 k (([] : List (S75))) x694001 (x694001.length : Int) 0 x694000 x694001 x694002 x694003 x694004)
def impl_UnmatchedRows.l0 : Nat → List (S75) → List (S62) → Int → Int → Int → List (S62) → List (S62) → List Bool → Int → Option ((List (S75)))
 | 0, _, _, _, _, _, _, _, _, _ => none
 | k + 1, x3, x21, x22, x23, x694000, x694001, x694002, x694003, x694004 => if x23 < x22 then (if 0 ≤ x23 then (if x23 < (x21.length : Int) then (if x23 < (x694003.length : Int) then (if rdOf false x694003 x23 = true then (impl_UnmatchedRows.l0 k x3 x21 x22 (wrap64 (x23 + 1)) x694000 x694001 x694002 x694003 x694004) else (if x3.length < 2513169434916 then (impl_UnmatchedRows.l0 k (x3 ++ [(⟨(⟨(rd_T62 x21 x23).f0, (rd_T62 x21 x23).f1, (rd_T62 x21 x23).f2⟩ : S62), (⟨0, 0, 0⟩ : S62), false⟩ : S75)]) x21 x22 (wrap64 (x23 + 1)) x694000 x694001 x694002 x694003 x694004) else (none))) else (none)) else (none)) else (none)) else (some x3)
end
def impl_UnmatchedRows.f (k : Nat) (a0_0 : Int) (l0_1 : List (S62)) (l0_2 : List (S62)) (l0_3 : List Bool) (a0_4 : Int) : Option ((List (S75))) := (impl_IsValidTask.f k a0_0 l0_1 l0_2 l0_3 a0_4).bind fun t694 => (if t694 = true then (if a0_0 = 3 then (impl_UnmatchedRows.j0 k false a0_0 l0_1 l0_2 l0_3 a0_4) else (impl_UnmatchedRows.j0 k (a0_0 != 4) a0_0 l0_1 l0_2 l0_3 a0_4)) else (impl_UnmatchedRows.j0 k true a0_0 l0_1 l0_2 l0_3 a0_4))
theorem impl_UnmatchedRows.mono_l : ∀ k, (∀ y0 y1 y2 y3 y4 y5, LeO (impl_UnmatchedRows.j0 k y0 y1 y2 y3 y4 y5) (impl_UnmatchedRows.j0 (k + 1) y0 y1 y2 y3 y4 y5)) ∧ (∀ y0 y1 y2 y3 y4 y5 y6 y7 y8, LeO (impl_UnmatchedRows.l0 k y0 y1 y2 y3 y4 y5 y6 y7 y8) (impl_UnmatchedRows.l0 (k + 1) y0 y1 y2 y3 y4 y5 y6 y7 y8))
 | 0 => ⟨fun _ _ _ _ _ _ r h => by simp [impl_UnmatchedRows.j0] at h, fun _ _ _ _ _ _ _ _ _ r h => by simp [impl_UnmatchedRows.l0] at h⟩
 | k + 1 => by
  obtain ⟨ih0, ih1⟩ := impl_UnmatchedRows.mono_l k
  refine ⟨?_, ?_⟩
  ·
   intro y0 y1 y2 y3 y4 y5
   unfold impl_UnmatchedRows.j0
   repeat' first
   | (with_reducible exact ih0 _ _ _ _ _ _)
   | (with_reducible exact ih1 _ _ _ _ _ _ _ _ _)
   | (with_reducible exact impl_IsValidTask.mono _ _ _ _ _ _)
   | (with_reducible exact LeO.refl _)
   | (with_reducible exact LeO.none _)
   | (with_reducible refine LeO.ite ?_ ?_)
   | (with_reducible refine LeO.bind ?_ (fun _ => ?_))
   | exact ih0 _ _ _ _ _ _
   | exact ih1 _ _ _ _ _ _ _ _ _
   | exact impl_IsValidTask.mono _ _ _ _ _ _
   | exact LeO.none _
   | refine LeO.ite ?_ ?_
   | refine LeO.bind ?_ (fun _ => ?_)
  ·
   intro y0 y1 y2 y3 y4 y5 y6 y7 y8
   unfold impl_UnmatchedRows.l0
   repeat' first
   | (with_reducible exact ih0 _ _ _ _ _ _)
   | (with_reducible exact ih1 _ _ _ _ _ _ _ _ _)
   | (with_reducible exact impl_IsValidTask.mono _ _ _ _ _ _)
   | (with_reducible exact LeO.refl _)
   | (with_reducible exact LeO.none _)
   | (with_reducible refine LeO.ite ?_ ?_)
   | (with_reducible refine LeO.bind ?_ (fun _ => ?_))
   | exact ih0 _ _ _ _ _ _
   | exact ih1 _ _ _ _ _ _ _ _ _
   | exact impl_IsValidTask.mono _ _ _ _ _ _
   | exact LeO.none _
   | refine LeO.ite ?_ ?_
   | refine LeO.bind ?_ (fun _ => ?_)
theorem impl_UnmatchedRows.mono : ∀ a0 a1 a2 a3 a4 k, LeO (impl_UnmatchedRows.f k a0 a1 a2 a3 a4) (impl_UnmatchedRows.f (k + 1) a0 a1 a2 a3 a4) := by
 intro a0 a1 a2 a3 a4 k
 obtain ⟨ih0, ih1⟩ := impl_UnmatchedRows.mono_l k
 unfold impl_UnmatchedRows.f
 repeat' first
   | (with_reducible exact ih0 _ _ _ _ _ _)
   | (with_reducible exact ih1 _ _ _ _ _ _ _ _ _)
   | (with_reducible exact impl_IsValidTask.mono _ _ _ _ _ _)
   | (with_reducible exact LeO.refl _)
   | (with_reducible exact LeO.none _)
   | (with_reducible refine LeO.ite ?_ ?_)
   | (with_reducible refine LeO.bind ?_ (fun _ => ?_))
   | exact ih0 _ _ _ _ _ _
   | exact ih1 _ _ _ _ _ _ _ _ _
   | exact impl_IsValidTask.mono _ _ _ _ _ _
   | exact LeO.none _
   | refine LeO.ite ?_ ?_
   | refine LeO.bind ?_ (fun _ => ?_)
set_option maxHeartbeats 8000000 in
set_option maxRecDepth 100000 in
theorem impl_UnmatchedRows.calls (k : Nat) (a0_0 : Int) (A0_1 : Option Addr) (c0_1 : Nat) (l0_1 : List (S62)) (A0_2 : Option Addr) (c0_2 : Nat) (l0_2 : List (S62)) (A0_3 : Option Addr) (c0_3 : Nat) (l0_3 : List Bool) (a0_4 : Int) (r : List (S75)) (w : World) (hr0_1 : Kd.C k62 w A0_1 l0_1.length l0_1) (hc0_1 : l0_1.length ≤ c0_1) (hr0_2 : Kd.C k62 w A0_2 l0_2.length l0_2) (hc0_2 : l0_2.length ≤ c0_2) (hr0_3 : Kd.C Kd.bool w A0_3 l0_3.length l0_3) (hc0_3 : l0_3.length ≤ c0_3) (h : impl_UnmatchedRows.f k a0_0 l0_1 l0_2 l0_3 a0_4 = some r) :
  Calls Try.prog 40 #[.agg #[.int .i64 a0_0, .slice A0_1 l0_1.length c0_1, .slice A0_2 l0_2.length c0_2, .slice A0_3 l0_3.length c0_3, .int .i64 a0_4]] w fun e w' => ∃ v0_ : Value, e = .returned (v0_) ∧ Kd.R k75 75 w' w.heap.size (fun _ => True) v0_ r ∧ Below w.heap.size w w' := by
 have hu37 := Try.underlying37
 have hu62 := Try.underlying62
 have hu75 := Try.underlying75
 have HR0_1 := mA hr0_1
 have HC0_1 := mA hc0_1
 clear hr0_1 hc0_1
 have HR0_2 := mA hr0_2
 have HC0_2 := mA hc0_2
 clear hr0_2 hc0_2
 have HR0_3 := mA hr0_3
 have HC0_3 := mA hc0_3
 clear hr0_3 hc0_3
 have HB := mA (Below.refl w.heap.size w)
 have H : ((impl_IsValidTask.f k a0_0 l0_1 l0_2 l0_3 a0_4).bind fun t694 => (if t694 = true then (if a0_0 = 3 then (impl_UnmatchedRows.j0 k false a0_0 l0_1 l0_2 l0_3 a0_4) else (impl_UnmatchedRows.j0 k (a0_0 != 4) a0_0 l0_1 l0_2 l0_3 a0_4)) else (impl_UnmatchedRows.j0 k true a0_0 l0_1 l0_2 l0_3 a0_4))) = some r := h
 clear h
 have HC2 := mA H
 clear H
 go_enter Try.func40, Try.ntmps40
 go_upto_region 1 with (first | ((with_reducible refine gate_dst (N := 1) rfl ?_); refine boxT 1 #[.int .i64 a0_0, .slice A0_1 l0_1.length c0_1, .slice A0_2 l0_2.length c0_2, .slice A0_3 l0_3.length c0_3, .int .i64 a0_4] 37 ?_; intro gb693 hg w3 hbox hb; have BK693 := mA (hbox); have GW693 := mA ((by rw [hg]; exact (below_size (bT HB)) : w.heap.size ≤ gb693)); have GE693 := GW693; replace HB := mA (below_step (bT HB) hb); clear hb hbox hg))
 (try simp only [Act.put, List.setIfInBounds_toArray, List.set_cons_zero, List.set_cons_succ])
 go_cut [18] (fun v18 wc => ∃ (kq : Nat) (x18_1 : Bool), v18 = .bool x18_1 ∧ Aside0 (impl_UnmatchedRows.j0 kq x18_1 a0_0 l0_1 l0_2 l0_3 a0_4 = some r) ∧ Aside0 (kq ≤ k) ∧ Aside0 (wc.heap[gb693]? = some (.cells #[.int .i64 a0_0, (.slice A0_1 l0_1.length c0_1), (.slice A0_2 l0_2.length c0_2), (.slice A0_3 l0_3.length c0_3), .int .i64 a0_4] 37 (0, 0))) ∧ Aside0 (Below w.heap.size w wc))
 case first =>
  have H := HC2.out
  clear HC2
  obtain ⟨t694, A4, H⟩ := Option.bind_eq_some_iff.mp H
  replace A4 := mA A4
  try dsimp only at H
  by_cases c5 : t694 = true
  ·
   subst c5
   rw [if_pos rfl] at H
   by_cases c6 : a0_0 = 3
   ·
    rw [if_pos c6] at H
    have c6b0 : (a0_0 == 3) = true := beq_iff_eq.mpr c6
    have c6b1 : (a0_0 != 3) = false := bne_eq_false_iff_eq.mpr c6
    clear c6
    (first | rw [c6b0] | (simp only [i64_w, i32_w]; rw [c6b0]) | skip)
    have H' := mA H
    clear H
    have hcz7_0 : w3.cell? ⟨gb693, 0, none⟩ = some (.int .i64 a0_0) := (blk_cell BK693.out 0).trans rfl
    have hcz7_1 : w3.cell? ⟨gb693, 1, none⟩ = some (.slice A0_1 l0_1.length c0_1) := (blk_cell BK693.out 1).trans rfl
    have hcz7_2 : w3.cell? ⟨gb693, 2, none⟩ = some (.slice A0_2 l0_2.length c0_2) := (blk_cell BK693.out 2).trans rfl
    have hcz7_3 : w3.cell? ⟨gb693, 3, none⟩ = some (.slice A0_3 l0_3.length c0_3) := (blk_cell BK693.out 3).trans rfl
    have hcz7_4 : w3.cell? ⟨gb693, 4, none⟩ = some (.int .i64 a0_4) := (blk_cell BK693.out 4).trans rfl
    have hfz7_0 := blk_frozen BK693.out 0
    have hfz7_1 := blk_frozen BK693.out 1
    have hfz7_2 := blk_frozen BK693.out 2
    have hfz7_3 := blk_frozen BK693.out 3
    have hfz7_4 := blk_frozen BK693.out 4
    go_wp2_with (first | ((with_reducible refine gate_callee (f := 28) rfl ?_); refine goesT (some 7) Try.func28 #[.agg #[.int .i64 a0_0, .slice A0_1 l0_1.length c0_1, .slice A0_2 l0_2.length c0_2, .slice A0_3 l0_3.length c0_3, .int .i64 a0_4]] ?_; (with_reducible refine (impl_IsValidTask.calls k a0_0 _ _ l0_1 _ _ l0_2 _ _ l0_3 a0_4 true _ ?side1 ?side2 ?side3 ?side4 ?side5 ?side6 A4.out).mono ?_); (case side1 => exact cT (Kd.C_below HR0_1.out HB.out)); (case side2 => exact HC0_1.out); (case side3 => exact cT (Kd.C_below HR0_2.out HB.out)); (case side4 => exact HC0_2.out); (case side5 => exact cT (Kd.C_below HR0_3.out HB.out)); (case side6 => exact HC0_3.out); rintro e w8 ⟨rfl, hb⟩; refine ⟨_, rfl, ?_⟩; replace BK693 := kB BK693 hb; replace HB := mA (below_step (bT1 HB GE693) hb); (try clear hb); obtain ⟨hcz9_0, hcz9_1, hcz9_2, hcz9_3, hcz9_4, hfz9_0, hfz9_1, hfz9_2, hfz9_3, hfz9_4⟩ := blk5 BK693.out))
    go_meet
    case rel => exact ⟨_, (false), sT, H', ⟨by first | omega | exact Nat.le_refl _⟩, ⟨kT BK693⟩, ⟨bT1 HB GE693⟩⟩
   ·
    rw [if_neg c6] at H
    have c6b0 : (a0_0 == 3) = false := beq_eq_false_iff_ne.mpr c6
    have c6b1 : (a0_0 != 3) = true := bne_iff_ne.mpr c6
    (first | rw [c6b0] | (simp only [i64_w, i32_w]; rw [c6b0]) | skip)
    have H' := mA H
    clear H
    have hcz10_0 : w3.cell? ⟨gb693, 0, none⟩ = some (.int .i64 a0_0) := (blk_cell BK693.out 0).trans rfl
    have hcz10_1 : w3.cell? ⟨gb693, 1, none⟩ = some (.slice A0_1 l0_1.length c0_1) := (blk_cell BK693.out 1).trans rfl
    have hcz10_2 : w3.cell? ⟨gb693, 2, none⟩ = some (.slice A0_2 l0_2.length c0_2) := (blk_cell BK693.out 2).trans rfl
    have hcz10_3 : w3.cell? ⟨gb693, 3, none⟩ = some (.slice A0_3 l0_3.length c0_3) := (blk_cell BK693.out 3).trans rfl
    have hcz10_4 : w3.cell? ⟨gb693, 4, none⟩ = some (.int .i64 a0_4) := (blk_cell BK693.out 4).trans rfl
    have hfz10_0 := blk_frozen BK693.out 0
    have hfz10_1 := blk_frozen BK693.out 1
    have hfz10_2 := blk_frozen BK693.out 2
    have hfz10_3 := blk_frozen BK693.out 3
    have hfz10_4 := blk_frozen BK693.out 4
    go_wp2_with (first | ((with_reducible refine gate_callee (f := 28) rfl ?_); refine goesT (some 7) Try.func28 #[.agg #[.int .i64 a0_0, .slice A0_1 l0_1.length c0_1, .slice A0_2 l0_2.length c0_2, .slice A0_3 l0_3.length c0_3, .int .i64 a0_4]] ?_; (with_reducible refine (impl_IsValidTask.calls k a0_0 _ _ l0_1 _ _ l0_2 _ _ l0_3 a0_4 true _ ?side1 ?side2 ?side3 ?side4 ?side5 ?side6 A4.out).mono ?_); (case side1 => exact cT (Kd.C_below HR0_1.out HB.out)); (case side2 => exact HC0_1.out); (case side3 => exact cT (Kd.C_below HR0_2.out HB.out)); (case side4 => exact HC0_2.out); (case side5 => exact cT (Kd.C_below HR0_3.out HB.out)); (case side6 => exact HC0_3.out); rintro e w11 ⟨rfl, hb⟩; refine ⟨_, rfl, ?_⟩; replace BK693 := kB BK693 hb; replace HB := mA (below_step (bT1 HB GE693) hb); (try clear hb); obtain ⟨hcz12_0, hcz12_1, hcz12_2, hcz12_3, hcz12_4, hfz12_0, hfz12_1, hfz12_2, hfz12_3, hfz12_4⟩ := blk5 BK693.out))
    go_meet
    case rel => exact ⟨_, ((a0_0 != 4)), sT, H', ⟨by first | omega | exact Nat.le_refl _⟩, ⟨kT BK693⟩, ⟨bT1 HB GE693⟩⟩
  ·
   replace c5 := Bool.eq_false_iff.mpr c5
   subst c5
   rw [if_neg (show ¬ (false = true) by decide)] at H
   have H' := mA H
   clear H
   have hcz13_0 : w3.cell? ⟨gb693, 0, none⟩ = some (.int .i64 a0_0) := (blk_cell BK693.out 0).trans rfl
   have hcz13_1 : w3.cell? ⟨gb693, 1, none⟩ = some (.slice A0_1 l0_1.length c0_1) := (blk_cell BK693.out 1).trans rfl
   have hcz13_2 : w3.cell? ⟨gb693, 2, none⟩ = some (.slice A0_2 l0_2.length c0_2) := (blk_cell BK693.out 2).trans rfl
   have hcz13_3 : w3.cell? ⟨gb693, 3, none⟩ = some (.slice A0_3 l0_3.length c0_3) := (blk_cell BK693.out 3).trans rfl
   have hcz13_4 : w3.cell? ⟨gb693, 4, none⟩ = some (.int .i64 a0_4) := (blk_cell BK693.out 4).trans rfl
   have hfz13_0 := blk_frozen BK693.out 0
   have hfz13_1 := blk_frozen BK693.out 1
   have hfz13_2 := blk_frozen BK693.out 2
   have hfz13_3 := blk_frozen BK693.out 3
   have hfz13_4 := blk_frozen BK693.out 4
   go_wp2_with (first | ((with_reducible refine gate_callee (f := 28) rfl ?_); refine goesT (some 7) Try.func28 #[.agg #[.int .i64 a0_0, .slice A0_1 l0_1.length c0_1, .slice A0_2 l0_2.length c0_2, .slice A0_3 l0_3.length c0_3, .int .i64 a0_4]] ?_; (with_reducible refine (impl_IsValidTask.calls k a0_0 _ _ l0_1 _ _ l0_2 _ _ l0_3 a0_4 false _ ?side1 ?side2 ?side3 ?side4 ?side5 ?side6 A4.out).mono ?_); (case side1 => exact cT (Kd.C_below HR0_1.out HB.out)); (case side2 => exact HC0_1.out); (case side3 => exact cT (Kd.C_below HR0_2.out HB.out)); (case side4 => exact HC0_2.out); (case side5 => exact cT (Kd.C_below HR0_3.out HB.out)); (case side6 => exact HC0_3.out); rintro e w14 ⟨rfl, hb⟩; refine ⟨_, rfl, ?_⟩; replace BK693 := kB BK693 hb; replace HB := mA (below_step (bT1 HB GE693) hb); (try clear hb)))
   go_meet
   case rel => exact ⟨_, (true), sT, H', ⟨by first | omega | exact Nat.le_refl _⟩, ⟨kT BK693⟩, ⟨bT1 HB GE693⟩⟩
 case rest =>
  clear HC2
  try clear c2
  try clear p2
  try clear c4
  try clear c5
  try clear c6
  try clear c6b0
  try clear c6b1
  try clear hcz10_0
  try clear hcz10_1
  try clear hcz10_2
  try clear hcz10_3
  try clear hcz10_4
  try clear hcz12_0
  try clear hcz12_1
  try clear hcz12_2
  try clear hcz12_3
  try clear hcz12_4
  try clear hcz13_0
  try clear hcz13_1
  try clear hcz13_2
  try clear hcz13_3
  try clear hcz13_4
  try clear hcz7_0
  try clear hcz7_1
  try clear hcz7_2
  try clear hcz7_3
  try clear hcz7_4
  try clear hcz9_0
  try clear hcz9_1
  try clear hcz9_2
  try clear hcz9_3
  try clear hcz9_4
  try clear hfz10_0
  try clear hfz10_1
  try clear hfz10_2
  try clear hfz10_3
  try clear hfz10_4
  try clear hfz12_0
  try clear hfz12_1
  try clear hfz12_2
  try clear hfz12_3
  try clear hfz12_4
  try clear hfz13_0
  try clear hfz13_1
  try clear hfz13_2
  try clear hfz13_3
  try clear hfz13_4
  try clear hfz7_0
  try clear hfz7_1
  try clear hfz7_2
  try clear hfz7_3
  try clear hfz7_4
  try clear hfz9_0
  try clear hfz9_1
  try clear hfz9_2
  try clear hfz9_3
  try clear hfz9_4
  obtain ⟨kq, x18_1, rfl, HA, HJ1, BK693, HB⟩ := hcut
  cases kq with
  | zero => exact absurd HA.out (by simp [impl_UnmatchedRows.j0])
  | succ kj1 =>
   have H := HA.out
   clear HA
   simp only [impl_UnmatchedRows.j0] at H
   by_cases c15 : x18_1 = true
   ·
    subst c15
    rw [if_pos rfl] at H
    obtain rfl := Option.some.inj H
    go_wp2
    go_ret
    exact ⟨_, eT, by first | exact Kd.R_nil _ _ _ _ _ | exact Kd.N_nil _ _ _ _ _ | exact Kd.V_nil _ _ _ _ _ | exact Kd.Q_nil _ _ _ _ _ | exact Kd.S_nil _ _ _ _ _, bT1 HB GE693⟩
   ·
    replace c15 := Bool.eq_false_iff.mpr c15
    subst c15
    rw [if_neg (show ¬ (false = true) by decide)] at H
    obtain ⟨y695, hy695⟩ : ∃ y_ : List (S75), y_ = (([] : List (S75))) := ⟨_, rfl⟩
    replace H : (impl_UnmatchedRows.l0 kj1 y695 l0_1 (l0_1.length : Int) 0 a0_0 l0_1 l0_2 l0_3 a0_4) = some r := by first | (rw [hy695]; with_reducible exact H) | (have H2_ := (Option.bind_some _ _).symm.trans H; rw [hy695]; with_reducible exact H2_) | (have H2_ := (Option.bind_some _ _).symm.trans H; with_reducible exact H2_) | with_reducible exact H | (rw [hy695]; exact H) | exact H
    have Ny695 := mA hy695
    clear hy695
    have H' := mA H
    clear H
    go_wp2_with (first | ((with_reducible refine gate_dst (N := 19) rfl ?_); refine Kd.R_lit k75 _ 75 ?hg (N := 19) ?hd (xs := ([] : List (S75))) (inner := []) (ok := fun _ => True) (okp := fun _ => True) ?hr ?hp (fun _ hk => hk) trivial (Below.refl _ _) (Nat.le_refl _) (by simp) ?_; (case hd => rfl); (case hg => rfl); (case hr => first | (go_simp; done) | (go_simp; rfl)); (case hp => exact (Reps.none _ _)); intro v696 w16 ho17 hb hg_ hnew_; clear hg_ hnew_; (first | rw [← Ny695.out] at ho17 | (simp only [Int.reduceToNat] at ho17; rw [← Ny695.out] at ho17)); have HO697 := mA (Kd.R_lower ho17 (below_size (bT1 HB GE693))); replace BK693 := kB BK693 hb; replace HB := mA (below_step (bT1 HB GE693) hb); clear hb ho17; obtain ⟨hcz18_0, hcz18_1, hcz18_2, hcz18_3, hcz18_4, hfz18_0, hfz18_1, hfz18_2, hfz18_3, hfz18_4⟩ := blk5 BK693.out))
    go_loopg [3, 23] kj1 (fun kq v3 v23 w' => ∃ (x3_2 : List (S75)) (x23_2 : Int), v23 = .int .i64 x23_2 ∧ Aside0 (impl_UnmatchedRows.l0 kq x3_2 l0_1 (l0_1.length : Int) x23_2 a0_0 l0_1 l0_2 l0_3 a0_4 = some r) ∧ Aside0 (kq ≤ kj1) ∧ Aside0 (Kd.R k75 75 w' w.heap.size (fun _ => True) v3 x3_2) ∧ Aside0 (w'.heap[gb693]? = some (.cells #[.int .i64 a0_0, (.slice A0_1 l0_1.length c0_1), (.slice A0_2 l0_2.length c0_2), (.slice A0_3 l0_3.length c0_3), .int .i64 a0_4] 37 (0, 0))) ∧ Aside0 (Below w.heap.size w w'))
    case atStart => exact ⟨(y695), (0), sT, H', ⟨Nat.le_refl _⟩, ⟨rTR HO697⟩, ⟨kT BK693⟩, ⟨bT1 HB GE693⟩⟩
    case round =>
     clear H'
     try clear c1
     try clear c2
     try clear p2
     try clear c4
     try clear c5
     try clear c6
     try clear c6b0
     try clear c6b1
     try clear c15
     try clear hcz10_0
     try clear hcz10_1
     try clear hcz10_2
     try clear hcz10_3
     try clear hcz10_4
     try clear hcz12_0
     try clear hcz12_1
     try clear hcz12_2
     try clear hcz12_3
     try clear hcz12_4
     try clear hcz13_0
     try clear hcz13_1
     try clear hcz13_2
     try clear hcz13_3
     try clear hcz13_4
     try clear hcz18_0
     try clear hcz18_1
     try clear hcz18_2
     try clear hcz18_3
     try clear hcz18_4
     try clear hcz7_0
     try clear hcz7_1
     try clear hcz7_2
     try clear hcz7_3
     try clear hcz7_4
     try clear hcz9_0
     try clear hcz9_1
     try clear hcz9_2
     try clear hcz9_3
     try clear hcz9_4
     try clear hfz10_0
     try clear hfz10_1
     try clear hfz10_2
     try clear hfz10_3
     try clear hfz10_4
     try clear hfz12_0
     try clear hfz12_1
     try clear hfz12_2
     try clear hfz12_3
     try clear hfz12_4
     try clear hfz13_0
     try clear hfz13_1
     try clear hfz13_2
     try clear hfz13_3
     try clear hfz13_4
     try clear hfz18_0
     try clear hfz18_1
     try clear hfz18_2
     try clear hfz18_3
     try clear hfz18_4
     try clear hfz7_0
     try clear hfz7_1
     try clear hfz7_2
     try clear hfz7_3
     try clear hfz7_4
     try clear hfz9_0
     try clear hfz9_1
     try clear hfz9_2
     try clear hfz9_3
     try clear hfz9_4
     try clear p2
     obtain ⟨x3_2, x23_2, rfl, HA, HK2, HO_3, BK693, HB⟩ := hrel
     cases gk with
     | zero => exact absurd HA.out (by simp [impl_UnmatchedRows.l0])
     | succ k2 =>
      have H := HA.out
      clear HA
      simp only [impl_UnmatchedRows.l0] at H
      by_cases c19 : x23_2 < (l0_1.length : Int)
      ·
       rw [if_pos c19] at H
       have c19b0 : decide (x23_2 < (l0_1.length : Int)) = true := decide_eq_true c19
       clear c19
       by_cases c20 : 0 ≤ x23_2
       ·
        rw [if_pos c20] at H
        have c20b0 : decide (0 ≤ x23_2) = true := decide_eq_true c20
        clear c20
        by_cases c21 : x23_2 < (l0_1.length : Int)
        ·
         rw [if_pos c21] at H
         have c21b0 : decide (x23_2 < (l0_1.length : Int)) = true := decide_eq_true c21
         clear c21
         by_cases c22 : x23_2 < (l0_3.length : Int)
         ·
          rw [if_pos c22] at H
          have c22b0 : decide (x23_2 < (l0_3.length : Int)) = true := decide_eq_true c22
          clear c22
          obtain ⟨bq23, hbq23⟩ : ∃ b_ : Bool, b_ = (rdOf false l0_3 x23_2) := ⟨_, rfl⟩
          replace H : (if bq23 = true then (impl_UnmatchedRows.l0 k2 x3_2 l0_1 (l0_1.length : Int) (wrap64 (x23_2 + 1)) a0_0 l0_1 l0_2 l0_3 a0_4) else (if x3_2.length < 2513169434916 then (impl_UnmatchedRows.l0 k2 (x3_2 ++ [(⟨(⟨(rd_T62 l0_1 x23_2).f0, (rd_T62 l0_1 x23_2).f1, (rd_T62 l0_1 x23_2).f2⟩ : S62), (⟨0, 0, 0⟩ : S62), false⟩ : S75)]) l0_1 (l0_1.length : Int) (wrap64 (x23_2 + 1)) a0_0 l0_1 l0_2 l0_3 a0_4) else (none))) = some r := by rw [← hbq23] at H; exact H
          have Nbq23 := mA hbq23
          clear hbq23
          by_cases c24 : bq23 = true
          ·
           subst c24
           rw [if_pos rfl] at H
           have H' := mA H
           clear H
           have p698 : 0 ≤ (x23_2 : Int) := of_decide_eq_true aT
           have q698 : x23_2 < (l0_1.length : Int) := of_decide_eq_true aT
           obtain ⟨ad698, e698, hx698_0, hx698_1, hx698_2⟩ := at_T62 HR0_1.out x23_2 p698 q698
           cases e698
           replace hx698_0 := (HB.out.cell (World.block_lt_of_cell? w _ hx698_0)).trans hx698_0
           replace hx698_1 := (HB.out.cell (World.block_lt_of_cell? w _ hx698_1)).trans hx698_1
           replace hx698_2 := (HB.out.cell (World.block_lt_of_cell? w _ hx698_2)).trans hx698_2
           replace p698 := eq_true p698
           replace q698 := eq_true q698
           go_wp2_with (first | ((with_reducible refine gate_dst (N := 5) rfl ?_); refine boxT 5 #[.int .i64 0, .int .i64 0, .int .i64 0] 62 ?_; intro gb699 hg w25 hbox hb; replace HO_3 := rBR HO_3 hb; have BK699 := mA (hbox); have GW699 := mA ((by rw [hg]; exact (below_size (bT1 HB GE693)) : w.heap.size ≤ gb699)); have GE699 := GW699; replace HB := mA (below_step (bT1 HB GE693) hb); have NB693_699 : Aside0 (gb693 ≠ gb699) := nL BK693 hg; have NB699_693 : Aside0 (gb699 ≠ gb693) := nG BK693 hg; replace BK693 := kB BK693 hb; clear hb hbox hg; have hnb26 := NB699_693.out; have hnc26 := NB693_699.out; obtain ⟨hcz27_0, hcz27_1, hcz27_2, hfz27_0, hfz27_1, hfz27_2⟩ := blk3 BK699.out; obtain ⟨hcz28_0, hcz28_1, hcz28_2, hcz28_3, hcz28_4, hfz28_0, hfz28_1, hfz28_2, hfz28_3, hfz28_4⟩ := blk5 BK693.out; have p700 : 0 ≤ (x23_2 : Int) := of_decide_eq_true aT; have q700 : x23_2 < (l0_3.length : Int) := of_decide_eq_true aT; obtain ⟨ad700, e700, hx700_0⟩ := Kd.at_bool HR0_3.out x23_2 p700 q700; (try rw [← Nbq23.out] at hx700_0); cases e700; have hn700_0 : ad700.block ≠ gb699 := Nat.ne_of_lt (Nat.lt_of_lt_of_le (by have := World.block_lt_of_cell? _ _ hx700_0; first | rwa [add_block] at this | exact this) GW699.out); have hn700_1 : ad700.block ≠ gb699 := Nat.ne_of_lt (Nat.lt_of_lt_of_le (by have := World.block_lt_of_cell? _ _ hx700_0; first | rwa [add_block] at this | exact this) GW699.out); have hn700_2 : ad700.block ≠ gb699 := Nat.ne_of_lt (Nat.lt_of_lt_of_le (by have := World.block_lt_of_cell? _ _ hx700_0; first | rwa [add_block] at this | exact this) GW699.out); replace hx700_0 := (HB.out.cell (World.block_lt_of_cell? w _ hx700_0)).trans hx700_0; replace hx700_0 := (cell_far (p := ⟨gb699, 0, none⟩) (by first | (rw [add_block]; exact hn700_0) | (show (Addr.add _ _).block ≠ _; rw [add_block]; exact hn700_0) | exact hn700_0) (.int .i64 ((rd_T62 l0_1 x23_2).f0))).trans hx700_0; replace hx700_0 := (cell_far (p := ⟨gb699, 1, none⟩) (by first | (rw [add_block]; exact hn700_1) | (show (Addr.add _ _).block ≠ _; rw [add_block]; exact hn700_1) | exact hn700_1) (.int .i64 ((rd_T62 l0_1 x23_2).f1))).trans hx700_0; replace hx700_0 := (cell_far (p := ⟨gb699, 2, none⟩) (by first | (rw [add_block]; exact hn700_2) | (show (Addr.add _ _).block ≠ _; rw [add_block]; exact hn700_2) | exact hn700_2) (.int .i64 ((rd_T62 l0_1 x23_2).f2))).trans hx700_0; clear hn700_0; clear hn700_1; clear hn700_2; replace p700 := eq_true p700; replace q700 := eq_true q700))
           go_roundg k2
           case measure => have := HJ1.out; have := HK2.out; omega
           case rel => exact ⟨(x3_2), (wrap64 (x23_2 + 1)), sT, H', ⟨by have := HJ1.out; have := HK2.out; omega⟩, ⟨by (with_reducible repeat (first | apply Kd.R_alloc | apply Kd.R_drewN | apply Kd.R_drew)); exact Kd.R_mono (Kd.R_far (p := ⟨gb699, 2, none⟩) (Kd.R_far (p := ⟨gb699, 1, none⟩) (Kd.R_far (p := ⟨gb699, 0, none⟩) (Kd.R_types HO_3.out BK699.out (by decide)) (fun _ hk => hk.2) (.int .i64 ((rd_T62 l0_1 x23_2).f0))) (fun _ hk => hk.2) (.int .i64 ((rd_T62 l0_1 x23_2).f1))) (fun _ hk => hk.2) (.int .i64 ((rd_T62 l0_1 x23_2).f2))) (fun _ hk => trivial)⟩, ⟨by (with_reducible repeat (first | refine blk_drewN ?_ _ | refine blk_drew ?_ | refine blk_alloc ?_ _)); refine blk_far ?_ NB693_699.out _; (with_reducible repeat (first | refine blk_drewN ?_ _ | refine blk_drew ?_ | refine blk_alloc ?_ _)); refine blk_far ?_ NB693_699.out _; (with_reducible repeat (first | refine blk_drewN ?_ _ | refine blk_drew ?_ | refine blk_alloc ?_ _)); refine blk_far ?_ NB693_699.out _; (with_reducible repeat (first | refine blk_drewN ?_ _ | refine blk_drew ?_ | refine blk_alloc ?_ _)); exact BK693.out⟩, ⟨bT2 HB GE693 GE699⟩⟩
          ·
           replace c24 := Bool.eq_false_iff.mpr c24
           subst c24
           rw [if_neg (show ¬ (false = true) by decide)] at H
           by_cases c29 : x3_2.length < 2513169434916
           ·
            rw [if_pos c29] at H
            have LMc29 := mA c29
            clear c29
            obtain ⟨y701, hy701⟩ : ∃ y_ : List (S75), y_ = (x3_2 ++ [(⟨(⟨(rd_T62 l0_1 x23_2).f0, (rd_T62 l0_1 x23_2).f1, (rd_T62 l0_1 x23_2).f2⟩ : S62), (⟨0, 0, 0⟩ : S62), false⟩ : S75)]) := ⟨_, rfl⟩
            replace H : (impl_UnmatchedRows.l0 k2 y701 l0_1 (l0_1.length : Int) (wrap64 (x23_2 + 1)) a0_0 l0_1 l0_2 l0_3 a0_4) = some r := by first | (rw [hy701]; with_reducible exact H) | (have H2_ := (Option.bind_some _ _).symm.trans H; rw [hy701]; with_reducible exact H2_) | (have H2_ := (Option.bind_some _ _).symm.trans H; with_reducible exact H2_) | with_reducible exact H | (rw [hy701]; exact H) | exact H
            have Ny701 := mA hy701
            clear hy701
            have H' := mA H
            clear H
            have p698 : 0 ≤ (x23_2 : Int) := of_decide_eq_true aT
            have q698 : x23_2 < (l0_1.length : Int) := of_decide_eq_true aT
            obtain ⟨ad698, e698, hx698_0, hx698_1, hx698_2⟩ := at_T62 HR0_1.out x23_2 p698 q698
            cases e698
            replace hx698_0 := (HB.out.cell (World.block_lt_of_cell? w _ hx698_0)).trans hx698_0
            replace hx698_1 := (HB.out.cell (World.block_lt_of_cell? w _ hx698_1)).trans hx698_1
            replace hx698_2 := (HB.out.cell (World.block_lt_of_cell? w _ hx698_2)).trans hx698_2
            replace p698 := eq_true p698
            replace q698 := eq_true q698
            go_wp2_with (first | ((with_reducible refine gate_dst (N := 5) rfl ?_); refine boxT 5 #[.int .i64 0, .int .i64 0, .int .i64 0] 62 ?_; intro gb699 hg w30 hbox hb; replace HO_3 := rBR HO_3 hb; have BK699 := mA (hbox); have GW699 := mA ((by rw [hg]; exact (below_size (bT1 HB GE693)) : w.heap.size ≤ gb699)); have GE699 := GW699; replace HB := mA (below_step (bT1 HB GE693) hb); have NB693_699 : Aside0 (gb693 ≠ gb699) := nL BK693 hg; have NB699_693 : Aside0 (gb699 ≠ gb693) := nG BK693 hg; replace BK693 := kB BK693 hb; clear hb hbox hg; have hnb31 := NB699_693.out; have hnc31 := NB693_699.out; obtain ⟨hcz32_0, hcz32_1, hcz32_2, hfz32_0, hfz32_1, hfz32_2⟩ := blk3 BK699.out; obtain ⟨hcz33_0, hcz33_1, hcz33_2, hcz33_3, hcz33_4, hfz33_0, hfz33_1, hfz33_2, hfz33_3, hfz33_4⟩ := blk5 BK693.out; have p700 : 0 ≤ (x23_2 : Int) := of_decide_eq_true aT; have q700 : x23_2 < (l0_3.length : Int) := of_decide_eq_true aT; obtain ⟨ad700, e700, hx700_0⟩ := Kd.at_bool HR0_3.out x23_2 p700 q700; (try rw [← Nbq23.out] at hx700_0); cases e700; have hn700_0 : ad700.block ≠ gb699 := Nat.ne_of_lt (Nat.lt_of_lt_of_le (by have := World.block_lt_of_cell? _ _ hx700_0; first | rwa [add_block] at this | exact this) GW699.out); have hn700_1 : ad700.block ≠ gb699 := Nat.ne_of_lt (Nat.lt_of_lt_of_le (by have := World.block_lt_of_cell? _ _ hx700_0; first | rwa [add_block] at this | exact this) GW699.out); have hn700_2 : ad700.block ≠ gb699 := Nat.ne_of_lt (Nat.lt_of_lt_of_le (by have := World.block_lt_of_cell? _ _ hx700_0; first | rwa [add_block] at this | exact this) GW699.out); replace hx700_0 := (HB.out.cell (World.block_lt_of_cell? w _ hx700_0)).trans hx700_0; replace hx700_0 := (cell_far (p := ⟨gb699, 0, none⟩) (by first | (rw [add_block]; exact hn700_0) | (show (Addr.add _ _).block ≠ _; rw [add_block]; exact hn700_0) | exact hn700_0) (.int .i64 ((rd_T62 l0_1 x23_2).f0))).trans hx700_0; replace hx700_0 := (cell_far (p := ⟨gb699, 1, none⟩) (by first | (rw [add_block]; exact hn700_1) | (show (Addr.add _ _).block ≠ _; rw [add_block]; exact hn700_1) | exact hn700_1) (.int .i64 ((rd_T62 l0_1 x23_2).f1))).trans hx700_0; replace hx700_0 := (cell_far (p := ⟨gb699, 2, none⟩) (by first | (rw [add_block]; exact hn700_2) | (show (Addr.add _ _).block ≠ _; rw [add_block]; exact hn700_2) | exact hn700_2) (.int .i64 ((rd_T62 l0_1 x23_2).f2))).trans hx700_0; clear hn700_0; clear hn700_1; clear hn700_2; replace p700 := eq_true p700; replace q700 := eq_true q700) | ((with_reducible refine gate_builtin (b := .append) (xs := #[.tmp 34, .tmp 37]) rfl ?_); at_builtin; refine Kd.R_append k75 (w0 := w) w.heap.size rfl (.tmp 34) (.tmp 37) 48 75 (.agg #[(.int .i64 0), (.int .i64 0), (.int .i64 0), (.int .i64 0), (.int .i64 0), (.int .i64 0), (.bool false)]) 56 rfl Try.underlying48 info75 rfl (by decide) (by omega) u3 x3_2 (⟨(⟨(rd_T62 l0_1 x23_2).f0, (rd_T62 l0_1 x23_2).f1, (rd_T62 l0_1 x23_2).f2⟩ : S62), (⟨0, 0, 0⟩ : S62), false⟩ : S75) [.int .i64 ((rd_T62 l0_1 x23_2).f0), .int .i64 ((rd_T62 l0_1 x23_2).f1), .int .i64 ((rd_T62 l0_1 x23_2).f2), .int .i64 0, .int .i64 0, .int .i64 0, .bool false] (fun _ => True) (fun _ => False) rfl (by first | (go_simp; done) | (go_simp; rfl)) ?aP (fun _ hk => hk.elim) ?aF ?aO ?aB ?aS ?aL ?_; (case aP => exact k75_mkM _ _ _ (⟨(⟨(rd_T62 l0_1 x23_2).f0, (rd_T62 l0_1 x23_2).f1, (rd_T62 l0_1 x23_2).f2⟩ : S62), (⟨0, 0, 0⟩ : S62), false⟩ : S75)); (case aB => exact (bT2 HB GE693 GE699)); (case aF => exact (fun _ _ => trivial)); (case aO => exact (by (with_reducible repeat (first | apply Kd.R_alloc | apply Kd.R_drewN | apply Kd.R_drew)); exact Kd.R_mono (Kd.R_far (p := ⟨gb699, 2, none⟩) (Kd.R_far (p := ⟨gb699, 1, none⟩) (Kd.R_far (p := ⟨gb699, 0, none⟩) (Kd.R_types HO_3.out BK699.out (by decide)) (fun _ hk => hk.2) (.int .i64 ((rd_T62 l0_1 x23_2).f0))) (fun _ hk => hk.2) (.int .i64 ((rd_T62 l0_1 x23_2).f1))) (fun _ hk => hk.2) (.int .i64 ((rd_T62 l0_1 x23_2).f2))) (fun _ hk => trivial))); (case aS => exact (below_size (bT2 HB GE693 GE699))); (case aL => have := LMc29.out; omega); intro v702 w34 ho hb hg hat; rw [← Ny701.out] at ho; replace BK693 := mA (blk_grown (g := gb693) (o := .cells #[.int .i64 a0_0, .slice (some ad698) l0_1.length c0_1, .slice A0_2 l0_2.length c0_2, .slice (some ad700) l0_3.length c0_3, .int .i64 a0_4] 37 (0, 0)) (by (with_reducible repeat (first | refine blk_drewN ?_ _ | refine blk_drew ?_ | refine blk_alloc ?_ _)); refine blk_far ?_ NB693_699.out _; (with_reducible repeat (first | refine blk_drewN ?_ _ | refine blk_drew ?_ | refine blk_alloc ?_ _)); refine blk_far ?_ NB693_699.out _; (with_reducible repeat (first | refine blk_drewN ?_ _ | refine blk_drew ?_ | refine blk_alloc ?_ _)); refine blk_far ?_ NB693_699.out _; (with_reducible repeat (first | refine blk_drewN ?_ _ | refine blk_drew ?_ | refine blk_alloc ?_ _)); exact BK693.out) hg (Kd.R_ne HO_3.out BK693.out (by decide))); replace HB := mA (hb); have HO703 := mA (ho); clear HO_3; clear ho hb hg hat))
            go_roundg k2
            case measure => have := HJ1.out; have := HK2.out; omega
            case rel => exact ⟨(y701), (wrap64 (x23_2 + 1)), sT, H', ⟨by have := HJ1.out; have := HK2.out; omega⟩, ⟨rTR HO703⟩, ⟨kT BK693⟩, ⟨bT2 HB GE693 GE699⟩⟩
           ·
            rw [if_neg c29] at H
            exact absurd H (by simp)
         ·
          rw [if_neg c22] at H
          exact absurd H (by simp)
        ·
         rw [if_neg c21] at H
         exact absurd H (by simp)
       ·
        rw [if_neg c20] at H
        exact absurd H (by simp)
      ·
       rw [if_neg c19] at H
       have c19b0 : decide (x23_2 < (l0_1.length : Int)) = false := decide_eq_false c19
       clear c19
       obtain rfl := Option.some.inj H
       go_wp2
       go_ret
       exact ⟨_, eT, rTR HO_3, bT1 HB GE693⟩

end Go.Proofs.Ythciieopabndcaa.P
