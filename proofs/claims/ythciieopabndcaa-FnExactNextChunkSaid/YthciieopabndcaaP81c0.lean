/- Written by tools/seatprint.py over the translation. Lean checks it. -/
import Derived.Test.YthciieopabndcaaP0
import Derived.Test.YthciieopabndcaaP583c0
import Derived.Test.YthciieopabndcaaPd1c0
namespace Go.Proofs.Ythciieopabndcaa.P
open Go.RowKit Go.Proofs.YthciieopabndcaaW.PrintWords Go.Proofs.YthciieopabndcaaW.PrintLast Go.Proofs.YthciieopabndcaaW.PrintMore
attribute [local go_sem] max2_int min2_int max_two min_two max_three min_three max_four min_four
set_option linter.unusedVariables false
set_option linter.unusedSimpArgs false

/-! ### spec_NextChunk: function 16 -/
mutual
def spec_NextChunk.l0 : Nat → List (S62) → Int → Int → Int → Option ((List (S62)) × (List (S62)))
 | 0, _, _, _, _ => none
 | k + 1, x0, x1, x6, x7 => if x7 < (x0.length : Int) then (if x7 = 0 then (spec_NextChunk.j1 k x0 x1 x6 x7 true) else (if 0 ≤ x7 then ((spec_RowCost.f ((rd_T62 x0 x7).f0) ((rd_T62 x0 x7).f1) ((rd_T62 x0 x7).f2)).bind fun t108 => (spec_NextChunk.j1 k x0 x1 x6 x7 (decide ((wrap64 (x6 + t108)) ≤ x1)))) else (none))) else (spec_NextChunk.j1 k x0 x1 x6 x7 false)
def spec_NextChunk.j1 : Nat → List (S62) → Int → Int → Int → Bool → Option ((List (S62)) × (List (S62)))
 | 0, _, _, _, _, _ => none
 | k + 1, x0, x1, x6, x7, x26 => if x26 = true then (if 0 ≤ x7 then (if x7 < (x0.length : Int) then ((spec_RowCost.f ((rd_T62 x0 x7).f0) ((rd_T62 x0 x7).f1) ((rd_T62 x0 x7).f2)).bind fun t130 => (spec_NextChunk.l0 k x0 x1 (wrap64 (x6 + t130)) (wrap64 (x7 + 1)))) else (none)) else (none)) else ((some (([] : List (S62)) : List (S62))).bind fun y109 => (if 0 ≤ x7 then (if x7 ≤ (x0.length : Int) then ((some (x0.take (x7 : Int).toNat : List (S62))).bind fun y112 => (if y109.length + y112.length < 5864062014805 then ((some (([] : List (S62)) : List (S62))).bind fun y119 => ((some (x0.drop (x7 : Int).toNat : List (S62))).bind fun y122 => (if y119.length + y122.length < 5864062014805 then (some ((y109 ++ y112), (y119 ++ y122))) else (none)))) else (none))) else (none)) else (none)))
end
def spec_NextChunk.f (k : Nat) (l0 : List (S62)) (a1 : Int) : Option ((List (S62)) × (List (S62))) := spec_NextChunk.l0 k l0 a1 0 0
theorem spec_NextChunk.mono_l : ∀ k, (∀ y0 y1 y2 y3, LeO (spec_NextChunk.l0 k y0 y1 y2 y3) (spec_NextChunk.l0 (k + 1) y0 y1 y2 y3)) ∧ (∀ y0 y1 y2 y3 y4, LeO (spec_NextChunk.j1 k y0 y1 y2 y3 y4) (spec_NextChunk.j1 (k + 1) y0 y1 y2 y3 y4))
 | 0 => ⟨fun _ _ _ _ r h => by simp [spec_NextChunk.l0] at h, fun _ _ _ _ _ r h => by simp [spec_NextChunk.j1] at h⟩
 | k + 1 => by
  obtain ⟨ih0, ih1⟩ := spec_NextChunk.mono_l k
  refine ⟨?_, ?_⟩
  ·
   intro y0 y1 y2 y3
   unfold spec_NextChunk.l0
   repeat' first
   | (with_reducible exact ih0 _ _ _ _)
   | (with_reducible exact ih1 _ _ _ _ _)
   | (with_reducible exact LeO.refl _)
   | (with_reducible exact LeO.none _)
   | (with_reducible refine LeO.ite ?_ ?_)
   | (with_reducible refine LeO.bind ?_ (fun _ => ?_))
   | exact ih0 _ _ _ _
   | exact ih1 _ _ _ _ _
   | exact LeO.none _
   | refine LeO.ite ?_ ?_
   | refine LeO.bind ?_ (fun _ => ?_)
  ·
   intro y0 y1 y2 y3 y4
   unfold spec_NextChunk.j1
   repeat' first
   | (with_reducible exact ih0 _ _ _ _)
   | (with_reducible exact ih1 _ _ _ _ _)
   | (with_reducible exact LeO.refl _)
   | (with_reducible exact LeO.none _)
   | (with_reducible refine LeO.ite ?_ ?_)
   | (with_reducible refine LeO.bind ?_ (fun _ => ?_))
   | exact ih0 _ _ _ _
   | exact ih1 _ _ _ _ _
   | exact LeO.none _
   | refine LeO.ite ?_ ?_
   | refine LeO.bind ?_ (fun _ => ?_)
theorem spec_NextChunk.mono : ∀ a0 a1 k, LeO (spec_NextChunk.f k a0 a1) (spec_NextChunk.f (k + 1) a0 a1) := by
 intro a0 a1 k
 obtain ⟨ih0, ih1⟩ := spec_NextChunk.mono_l k
 unfold spec_NextChunk.f
 repeat' first
   | (with_reducible exact ih0 _ _ _ _)
   | (with_reducible exact ih1 _ _ _ _ _)
   | (with_reducible exact LeO.refl _)
   | (with_reducible exact LeO.none _)
   | (with_reducible refine LeO.ite ?_ ?_)
   | (with_reducible refine LeO.bind ?_ (fun _ => ?_))
   | exact ih0 _ _ _ _
   | exact ih1 _ _ _ _ _
   | exact LeO.none _
   | refine LeO.ite ?_ ?_
   | refine LeO.bind ?_ (fun _ => ?_)
def spec_NextChunk.T6 : Bool × List (List Nat × List Nat) := (true, [([], []), ([], []), ([], []), ([1, 2], [1, 2]), ([0, 3], [0, 3]), ([], []), ([], []), ([], []), ([6, 7], [6, 7]), ([5, 8, 4], [5, 8]), ([4, 9, 0, 1, 2, 3, 4], [4]), ([9, 10, 0, 1, 2, 3, 4, 5, 6, 7, 8, 9, 10], [9])])
def spec_NextChunk.B6 : List Nat := [0, 0, 0, 6, 15, 0, 0, 0, 192, 511, 1023, 2047]
theorem spec_NextChunk.tab6 : rtab .any (opsOf Try.f16 6) = spec_NextChunk.T6 := by kernel_rfl
theorem spec_NextChunk.bits6 : waitsOk spec_NextChunk.T6.2 spec_NextChunk.B6 = true := by kernel_rfl
set_option maxHeartbeats 8000000 in
set_option maxRecDepth 100000 in
theorem spec_NextChunk.calls (k : Nat) (A0 : Option Addr) (c0 : Nat) (l0 : List (S62)) (a1 : Int) (r1 : List (S62)) (r2 : List (S62)) (w : World) (hr0 : Kd.C k62 w A0 l0.length l0) (hc0 : l0.length ≤ c0) (h : spec_NextChunk.f k l0 a1 = some (r1, r2)) :
  Calls Try.prog 16 #[.slice A0 l0.length c0, .int .i64 a1] w fun e w' => ∃ v0_ v1_ : Value, e = .returned (.tuple #[v0_, v1_]) ∧ Kd.R k62 62 w' w.heap.size (fun k_ => some k_ ≠ (v1_ : Value).ownBlock) v0_ r1 ∧ Kd.R k62 62 w' w.heap.size (fun k_ => some k_ ≠ (v0_ : Value).ownBlock) v1_ r2 ∧ Below w.heap.size w w' := by
 have hu62 := Try.underlying62
 have HR0 := mA hr0
 have HC0 := mA hc0
 clear hr0 hc0
 have HB := mA (Below.refl w.heap.size w)
 have H : (spec_NextChunk.l0 k l0 a1 0 0) = some (r1, r2) := h
 clear h
 have H' := mA H
 clear H
 go_enter Try.func16, Try.ntmps16
 go_wp2
 go_loopg [6, 7] k (fun kq v6 v7 w' => ∃ (x6_1 : Int) (x7_1 : Int), v6 = .int .i64 x6_1 ∧ v7 = .int .i64 x7_1 ∧ Aside0 (spec_NextChunk.l0 kq l0 a1 x6_1 x7_1 = some (r1, r2)) ∧ Aside0 (kq ≤ k) ∧ Aside0 (Below w.heap.size w w'))
 case atStart => exact ⟨(0), (0), sT, sT, H', ⟨Nat.le_refl _⟩, ⟨bT HB⟩⟩
 case round =>
  clear H'
  try clear c1
  try clear p2
  obtain ⟨x6_1, x7_1, rfl, rfl, HA, HK1, HB⟩ := hrel
  cases gk with
  | zero => exact absurd HA.out (by simp [spec_NextChunk.l0])
  | succ k1 =>
   have H := HA.out
   clear HA
   simp only [spec_NextChunk.l0] at H
   have HC3 := mA H
   clear H
   go_upto_region 3 with (fail)
   go_cut [26] (fun v26 wc => ∃ (kq : Nat) (x26_2 : Bool), v26 = .bool x26_2 ∧ Aside0 (spec_NextChunk.j1 kq l0 a1 x6_1 x7_1 x26_2 = some (r1, r2)) ∧ Aside0 (kq ≤ k1) ∧ Aside0 (Below w.heap.size w wc))
   case first =>
    have H := HC3.out
    clear HC3
    by_cases c4 : x7_1 < (l0.length : Int)
    ·
     rw [if_pos c4] at H
     have c4b0 : decide (x7_1 < (l0.length : Int)) = true := decide_eq_true c4
     clear c4
     (first | rw [c4b0] | (simp only [i64_w, i32_w]; rw [c4b0]) | skip)
     by_cases c5 : x7_1 = 0
     ·
      rw [if_pos c5] at H
      have c5b0 : (x7_1 == 0) = true := beq_iff_eq.mpr c5
      have c5b1 : (x7_1 != 0) = false := bne_eq_false_iff_eq.mpr c5
      clear c5
      have H' := mA H
      clear H
      go_wp2
      go_meet
      case rel => exact ⟨_, (true), sT, H', ⟨by have := HK1.out; first | omega | exact Nat.le_refl _⟩, ⟨bT HB⟩⟩
     ·
      rw [if_neg c5] at H
      have c5b0 : (x7_1 == 0) = false := beq_eq_false_iff_ne.mpr c5
      have c5b1 : (x7_1 != 0) = true := bne_iff_ne.mpr c5
      by_cases c6 : 0 ≤ x7_1
      ·
       rw [if_pos c6] at H
       have c6b0 : decide (0 ≤ x7_1) = true := decide_eq_true c6
       clear c6
       obtain ⟨t108, A7, H⟩ := Option.bind_eq_some_iff.mp H
       replace A7 := mA A7
       try dsimp only at H
       have H' := mA H
       clear H
       have p107 : 0 ≤ (x7_1 : Int) := of_decide_eq_true aT
       have q107 : x7_1 < (l0.length : Int) := of_decide_eq_true aT
       obtain ⟨ad107, e107, hx107_0, hx107_1, hx107_2⟩ := at_T62 HR0.out x7_1 p107 q107
       cases e107
       replace hx107_0 := (HB.out.cell (World.block_lt_of_cell? w _ hx107_0)).trans hx107_0
       replace hx107_1 := (HB.out.cell (World.block_lt_of_cell? w _ hx107_1)).trans hx107_1
       replace hx107_2 := (HB.out.cell (World.block_lt_of_cell? w _ hx107_2)).trans hx107_2
       replace p107 := eq_true p107
       replace q107 := eq_true q107
       go_wp2_with (first | (go_at_call 52; (with_reducible refine (spec_RowCost.calls ((rd_T62 l0 x7_1).f0) ((rd_T62 l0 x7_1).f1) ((rd_T62 l0 x7_1).f2) t108 _ A7.out).mono ?_); rintro e w8 ⟨rfl, hb⟩; replace HB := mA (below_step (bT HB) hb); (try clear hb)))
       go_meet
       case rel => exact ⟨_, (decide ((wrap64 (x6_1 + t108)) ≤ a1)), sT, H', ⟨by have := HK1.out; first | omega | exact Nat.le_refl _⟩, ⟨bT HB⟩⟩
      ·
       rw [if_neg c6] at H
       exact absurd H (by simp)
    ·
     rw [if_neg c4] at H
     have c4b0 : decide (x7_1 < (l0.length : Int)) = false := decide_eq_false c4
     clear c4
     (first | rw [c4b0] | (simp only [i64_w, i32_w]; rw [c4b0]) | skip)
     have H' := mA H
     clear H
     go_wp2
     go_meet
     case rel => exact ⟨_, (false), sT, H', ⟨by have := HK1.out; first | omega | exact Nat.le_refl _⟩, ⟨bT HB⟩⟩
   case rest =>
    clear HC3
    try clear c1
    try clear p1
    try clear q1
    try clear hx1
    try clear p2
    try clear c4
    try clear c4b0
    try clear c5
    try clear c5b0
    try clear c5b1
    try clear c6
    try clear c6b0
    try clear p6
    try clear hx107_0
    try clear hx107_1
    try clear hx107_2
    try clear p107
    try clear p2
    try clear q107
    obtain ⟨kq, x26_2, rfl, HA, HJ2, HB⟩ := hcut
    cases kq with
    | zero => exact absurd HA.out (by simp [spec_NextChunk.j1])
    | succ kj2 =>
     have H := HA.out
     clear HA
     simp only [spec_NextChunk.j1] at H
     by_cases c9 : x26_2 = true
     ·
      subst c9
      rw [if_pos rfl] at H
      by_cases c10 : 0 ≤ x7_1
      ·
       rw [if_pos c10] at H
       have c10b0 : decide (0 ≤ x7_1) = true := decide_eq_true c10
       clear c10
       by_cases c11 : x7_1 < (l0.length : Int)
       ·
        rw [if_pos c11] at H
        have c11b0 : decide (x7_1 < (l0.length : Int)) = true := decide_eq_true c11
        clear c11
        obtain ⟨t130, A12, H⟩ := Option.bind_eq_some_iff.mp H
        replace A12 := mA A12
        try dsimp only at H
        have H' := mA H
        clear H
        have p129 : 0 ≤ (x7_1 : Int) := of_decide_eq_true aT
        have q129 : x7_1 < (l0.length : Int) := of_decide_eq_true aT
        obtain ⟨ad129, e129, hx129_0, hx129_1, hx129_2⟩ := at_T62 HR0.out x7_1 p129 q129
        cases e129
        replace hx129_0 := (HB.out.cell (World.block_lt_of_cell? w _ hx129_0)).trans hx129_0
        replace hx129_1 := (HB.out.cell (World.block_lt_of_cell? w _ hx129_1)).trans hx129_1
        replace hx129_2 := (HB.out.cell (World.block_lt_of_cell? w _ hx129_2)).trans hx129_2
        replace p129 := eq_true p129
        replace q129 := eq_true q129
        go_wp2_with (first | ((with_reducible refine gate_callee (f := 52) rfl ?_); refine goesT (some 32) Try.func52 #[.agg #[.int .i64 ((rd_T62 l0 x7_1).f0), .int .i64 ((rd_T62 l0 x7_1).f1), .int .i64 ((rd_T62 l0 x7_1).f2)]] ?_; (with_reducible refine (spec_RowCost.calls ((rd_T62 l0 x7_1).f0) ((rd_T62 l0 x7_1).f1) ((rd_T62 l0 x7_1).f2) t130 _ A12.out).mono ?_); rintro e w13 ⟨rfl, hb⟩; refine ⟨_, rfl, ?_⟩; replace HB := mA (below_step (bT HB) hb); (try clear hb)))
        go_roundg kj2
        case measure => have := HK1.out; have := HJ2.out; omega
        case rel => exact ⟨(wrap64 (x6_1 + t130)), (wrap64 (x7_1 + 1)), sT, sT, H', ⟨by have := HK1.out; have := HJ2.out; omega⟩, ⟨bT HB⟩⟩
       ·
        rw [if_neg c11] at H
        exact absurd H (by simp)
      ·
       rw [if_neg c10] at H
       exact absurd H (by simp)
     ·
      replace c9 := Bool.eq_false_iff.mpr c9
      subst c9
      rw [if_neg (show ¬ (false = true) by decide)] at H
      obtain ⟨y109, hy109⟩ : ∃ y_ : List (S62), y_ = (([] : List (S62))) := ⟨_, rfl⟩
      replace H : (if 0 ≤ x7_1 then (if x7_1 ≤ (l0.length : Int) then ((some (l0.take (x7_1 : Int).toNat : List (S62))).bind fun y112 => (if y109.length + y112.length < 5864062014805 then ((some (([] : List (S62)) : List (S62))).bind fun y119 => ((some (l0.drop (x7_1 : Int).toNat : List (S62))).bind fun y122 => (if y119.length + y122.length < 5864062014805 then (some ((y109 ++ y112), (y119 ++ y122))) else (none)))) else (none))) else (none)) else (none)) = some (r1, r2) := by first | (rw [hy109]; with_reducible exact H) | (have H2_ := (Option.bind_some _ _).symm.trans H; rw [hy109]; with_reducible exact H2_) | (have H2_ := (Option.bind_some _ _).symm.trans H; with_reducible exact H2_) | with_reducible exact H | (rw [hy109]; exact H) | exact H
      have Ny109 := mA hy109
      clear hy109
      by_cases c14 : 0 ≤ x7_1
      ·
       rw [if_pos c14] at H
       have c14b0 := eq_true c14
       have c14b1 : decide (0 ≤ x7_1) = true := decide_eq_true c14
       clear c14
       by_cases c15 : x7_1 ≤ (l0.length : Int)
       ·
        rw [if_pos c15] at H
        have c15b0 := eq_true c15
        have c15b1 : decide (x7_1 ≤ (l0.length : Int)) = true := decide_eq_true c15
        clear c15
        obtain ⟨y112, hy112⟩ : ∃ y_ : List (S62), y_ = (l0.take (x7_1 : Int).toNat) := ⟨_, rfl⟩
        replace H : (if y109.length + y112.length < 5864062014805 then ((some (([] : List (S62)) : List (S62))).bind fun y119 => ((some (l0.drop (x7_1 : Int).toNat : List (S62))).bind fun y122 => (if y119.length + y122.length < 5864062014805 then (some ((y109 ++ y112), (y119 ++ y122))) else (none)))) else (none)) = some (r1, r2) := by first | (rw [hy112]; with_reducible exact H) | (have H2_ := (Option.bind_some _ _).symm.trans H; rw [hy112]; with_reducible exact H2_) | (have H2_ := (Option.bind_some _ _).symm.trans H; with_reducible exact H2_) | with_reducible exact H | (rw [hy112]; exact H) | exact H
        have Ny112 := mA hy112
        clear hy112
        by_cases c16 : y109.length + y112.length < 5864062014805
        ·
         rw [if_pos c16] at H
         have LMc16 := mA c16
         clear c16
         obtain ⟨y116, hy116⟩ : ∃ y_ : List (S62), y_ = (y109 ++ y112) := ⟨_, rfl⟩
         replace H : ((some (([] : List (S62)) : List (S62))).bind fun y119 => ((some (l0.drop (x7_1 : Int).toNat : List (S62))).bind fun y122 => (if y119.length + y122.length < 5864062014805 then (some (y116, (y119 ++ y122))) else (none)))) = some (r1, r2) := by first | (rw [hy116]; with_reducible exact H) | (have H2_ := (Option.bind_some _ _).symm.trans H; rw [hy116]; with_reducible exact H2_) | (have H2_ := (Option.bind_some _ _).symm.trans H; with_reducible exact H2_) | with_reducible exact H | (rw [hy116]; exact H) | exact H
         have Ny116 := mA hy116
         clear hy116
         obtain ⟨y119, hy119⟩ : ∃ y_ : List (S62), y_ = (([] : List (S62))) := ⟨_, rfl⟩
         replace H : ((some (l0.drop (x7_1 : Int).toNat : List (S62))).bind fun y122 => (if y119.length + y122.length < 5864062014805 then (some (y116, (y119 ++ y122))) else (none))) = some (r1, r2) := by first | (rw [hy119]; with_reducible exact H) | (have H2_ := (Option.bind_some _ _).symm.trans H; rw [hy119]; with_reducible exact H2_) | (have H2_ := (Option.bind_some _ _).symm.trans H; with_reducible exact H2_) | with_reducible exact H | (rw [hy119]; exact H) | exact H
         have Ny119 := mA hy119
         clear hy119
         have c17b0 := eq_true (of_decide_eq_true aT : 0 ≤ x7_1)
         have c18b0 := eq_true (of_decide_eq_true aT : x7_1 ≤ (l0.length : Int))
         obtain ⟨y122, hy122⟩ : ∃ y_ : List (S62), y_ = (l0.drop (x7_1 : Int).toNat) := ⟨_, rfl⟩
         replace H : (if y119.length + y122.length < 5864062014805 then (some (y116, (y119 ++ y122))) else (none)) = some (r1, r2) := by first | (rw [hy122]; with_reducible exact H) | (have H2_ := (Option.bind_some _ _).symm.trans H; rw [hy122]; with_reducible exact H2_) | (have H2_ := (Option.bind_some _ _).symm.trans H; with_reducible exact H2_) | with_reducible exact H | (rw [hy122]; exact H) | exact H
         have Ny122 := mA hy122
         clear hy122
         by_cases c19 : y119.length + y122.length < 5864062014805
         ·
          rw [if_pos c19] at H
          have LMc19 := mA c19
          clear c19
          obtain ⟨y126, hy126⟩ : ∃ y_ : List (S62), y_ = (y119 ++ y122) := ⟨_, rfl⟩
          replace H : (some (y116, y126)) = some (r1, r2) := by first | (rw [hy126]; with_reducible exact H) | (have H2_ := (Option.bind_some _ _).symm.trans H; rw [hy126]; with_reducible exact H2_) | (have H2_ := (Option.bind_some _ _).symm.trans H; with_reducible exact H2_) | with_reducible exact H | (rw [hy126]; exact H) | exact H
          have Ny126 := mA hy126
          clear hy126
          simp only [Option.some.injEq, Prod.mk.injEq] at H
          obtain ⟨rfl, rfl⟩ := H
          try go_wp2
          replace HB := mA (below_drew1 HB.out)
          have q21 : (x7_1 : Int) ≤ ((l0.length : Int) : Int) := of_decide_eq_true aT
          obtain ⟨i021, hi021, _, hsz21, _⟩ := info_parts info62
          have hroom21 : l0.length ≤ c0 := HC0.out
          have hC21 : Kd.C k62 _ A0 l0.length l0 := HR0.out
          have hcut21 := cut_to (P := Try.prog) 24 62 .i64 Try.underlying24 hi021 A0 l0.length c0 x7_1 (of_decide_eq_true aT) q21 hroom21
          have hr21 := Kd.C_take (m := (x7_1 : Int).toNat) hC21 (by omega)
          have hy21 : y112.length = (x7_1 : Int).toNat := (by rw [Ny112.out, List.length_take]; omega)
          rw [← Ny112.out] at hr21
          rw [← hy21] at hcut21
          have HR115 := mA hr21
          have HC115 := mA (show y112.length ≤ c0 from by omega)
          clear hr21 hC21 hroom21 hi021 hsz21
          have KY21 := mA hy21
          clear hy21
          replace q21 := eq_true q21
          have q22 : (x7_1 : Int) ≤ ((l0.length : Int) : Int) := of_decide_eq_true aT
          obtain ⟨i022, hi022, _, hsz22, _⟩ := info_parts info62
          have hroom22 : l0.length ≤ c0 := HC0.out
          have hC22 : Kd.C k62 _ A0 l0.length l0 := HR0.out
          have q022 : (0 : Int) ≤ (x7_1 : Int) := of_decide_eq_true aT
          have hcut22 := cut_from (P := Try.prog) 24 62 .i64 Try.underlying24 hi022 3 hsz22 A0 l0.length c0 x7_1 q022 q22
          have hr22 := Kd.C_drop (m := (x7_1 : Int).toNat) (c := c0) hC22 (by omega) hroom22
          obtain ⟨A22, hA22⟩ : ∃ A1, A1 = (if c0 = (x7_1 : Int).toNat then A0 else (A0 : Option Addr).map (·.add ((x7_1 : Int).toNat * 3))) := ⟨_, rfl⟩
          obtain ⟨c22, hc22⟩ : ∃ c1, c1 = c0 - (x7_1 : Int).toNat := ⟨_, rfl⟩
          have hy22 : y122.length = l0.length - (x7_1 : Int).toNat := (by rw [Ny122.out, List.length_drop] <;> omega)
          rw [show (l0).drop (x7_1 : Int).toNat = y122 from Ny122.out.symm] at hr22
          replace hr22 : Kd.C k62 _ A22 y122.length y122 := (by rw [hA22]; exact hr22)
          rw [← hy22, ← hA22, ← hc22] at hcut22
          have HR125 := mA hr22
          have HC125 := mA (show y122.length ≤ c22 from by rw [hy22, hc22]; exact Nat.sub_le_sub_right hroom22 _)
          clear hr22 hC22 hroom22 hi022 hsz22 hc22
          have KY22 := mA hy22
          have KA22 := mA hA22
          clear hy22 hA22
          replace q22 := eq_true q22
          refine start_ (n := 12) (S := fun w' => True) (ds := []) #[false, false, false, false, false, false, false, false, false, false, false, false] (by kernel_rfl) rfl rfl trivial (fun hHeld => ?_); refine with_tabW spec_NextChunk.tab6 spec_NextChunk.bits6 (fun HT_ HW_ => ?_)
          generalize wc.drew = w20 at HB HR115 HR125 hHeld ⊢
          refine pureT (i := 1) (N := some 37) #[false, true, false, false, false, false, false, false, false, false, false, false] (any_of HT_.out (by kernel_rfl)) ?_
          refine pureT (i := 2) (N := some 38) #[false, true, true, false, false, false, false, false, false, false, false, false] (any_of HT_.out (by kernel_rfl)) ?_
          refine pureT (i := 3) (N := some 39) #[false, true, true, true, false, false, false, false, false, false, false, false] (any_of HT_.out (by kernel_rfl)) ?_
          refine pureT (i := 6) (N := some 42) #[false, true, true, true, false, false, true, false, false, false, false, false] (any_of HT_.out (by kernel_rfl)) ?_
          refine pureT (i := 7) (N := some 43) #[false, true, true, true, false, false, true, true, false, false, false, false] (any_of HT_.out (by kernel_rfl)) ?_
          refine pureT (i := 8) (N := some 44) #[false, true, true, true, false, false, true, true, true, false, false, false] (any_of HT_.out (by kernel_rfl)) ?_
          refine join_ (σ := Value × Value × Value) 3 #[true, true, true, true, true, true, true, true, true, false, false, false] (fun s_ => [(36, s_.1), (40, s_.2.1), (41, s_.2.2)]) (fun s_ w' => (Kd.R k62 62 w' w.heap.size (fun k_ => some k_ ≠ (s_.2.2 : Value).ownBlock) s_.2.1 y116) ∧ (Kd.R k62 62 w' w.heap.size (fun k_ => some k_ ≠ (s_.2.1 : Value).ownBlock) s_.2.2 y119) ∧ (Below w.heap.size w w')) ?_ ?_
          rotate_left
          ·
           intro hCont
           refine two_ (i := 0) (j := 5) (Ni := some 36) (Nj := some 41) #[true, true, true, true, false, false, true, true, true, false, false, false] #[false, true, true, true, false, true, true, true, true, false, false, false] rfl rfl rfl rfl (two_of HT_.out (by kernel_rfl)) (by decide) (by decide) (fun K hK => ?_) (fun K hK => ?_)
           ·
            skip
            refine Kd.R_lit_step k62 _ 62 ?hg (N := 36) ?hd (xs := ([] : List (S62))) (inner := []) (ok := fun _ => True) (okp := fun _ => True) ?hr ?hp (fun _ hk => hk) trivial (Below.refl _ _) (Nat.le_refl _) (by simp) ?_; (case hd => rfl); (case hg => rfl); (case hr => first | (go_simp; done) | (go_simp; rfl)); (case hp => exact (Reps.none _ _))
            intro v110 w23 ho24 hb hg_ hnew_
            clear hg_ hnew_
            (first | rw [← Ny109.out] at ho24 | (simp only [Int.reduceToNat] at ho24; rw [← Ny109.out] at ho24))
            have HO111 := mA (Kd.R_lower ho24 (below_size (bT HB)))
            replace HB := mA (below_step (bT HB) hb)
            clear hb ho24
            refine hK.out _ _ trivial (fun hHeld => ?_)
            clear hK K
            refine norm_ (a' := ?_) ?_ ?_
            rotate_left
            ·
             show Act.put _ (some 36) _ = _
             simp only [Act.put, List.setIfInBounds_toArray, List.set_cons_zero, List.set_cons_succ, i64_w, i32_w]
             rfl
            refine two_ (i := 4) (j := 5) (Ni := some 40) (Nj := some 41) #[true, true, true, true, true, false, true, true, true, false, false, false] #[true, true, true, true, false, true, true, true, true, false, false, false] rfl rfl rfl rfl (two_of HT_.out (by kernel_rfl)) (by decide) (by decide) (fun K hK => ?_) (fun K hK => ?_)
            ·
             skip
             refine Kd.R_append_rows_step k62 (w0 := w) w.heap.size (by rfl) (.tmp 36) (.tmp 39) 24 62 (.agg #[(.int .i64 0), (.int .i64 0), (.int .i64 0)]) 24 rfl Try.underlying24 info62 rfl (by decide) (by omega) v110 y109 y112 _ _ _ (fun _ => True) (fun _ => False) rfl rfl ?aO ?aR (fun _ _ h => h) (fun _ h => h.elim) ?aF ?aB ?aS ?aL ?_
             (case aR => exact cT (Kd.C_below HR115.out HB.out))
             (case aB => exact (bT HB))
             (case aF => exact (fun _ _ => trivial))
             (case aO => exact (rTR HO111))
             (case aS => exact (below_size (bT HB)))
             (case aL => have := LMc16.out; omega)
             intro v117 w25 ho hb hg hat
             rw [← Ny116.out] at ho
             replace HB := mA (hb)
             have HO118 := mA (ho)
             clear HO111
             clear ho hb hg hat
             refine hK.out _ _ trivial (fun hHeld => ?_)
             clear hK K
             refine norm_ (a' := ?_) ?_ ?_
             rotate_left
             ·
              show Act.put _ (some 40) _ = _
              simp only [Act.put, List.setIfInBounds_toArray, List.set_cons_zero, List.set_cons_succ, i64_w, i32_w]
              rfl
             refine one_ (i := 5) (N := some 41) #[true, true, true, true, true, true, true, true, true, false, false, false] rfl rfl (one_of HT_.out (by kernel_rfl)) (by decide) (fun K hK => ?_)
             refine Kd.R_lit_step k62 _ 62 ?hg (N := 41) ?hd (xs := ([] : List (S62))) (inner := []) (ok := fun _ => True) (okp := fun _ => True) ?hr ?hp (fun _ hk => hk) trivial (Below.refl _ _) (Nat.le_refl _) (by simp) ?_; (case hd => rfl); (case hg => rfl); (case hr => first | (go_simp; done) | (go_simp; rfl)); (case hp => exact (Reps.none _ _))
             intro v120 w26 ho27 hb hg_ hnew_
             clear hg_ hnew_
             (first | rw [← Ny119.out] at ho27 | (simp only [Int.reduceToNat] at ho27; rw [← Ny119.out] at ho27))
             have HO121 := mA (Kd.R_lower (Kd.R_new' ho27 (Kd.R_lt (rTR HO118))) (below_size (bT HB)))
             replace HO118 := mA (Kd.R_elder' (rTR HO118) (Kd.R_base ho27) hb)
             replace HB := mA (below_step (bT HB) hb)
             clear hb ho27
             refine hK.out _ _ trivial (fun hHeld => ?_)
             clear hK K
             refine norm_ (a' := ?_) ?_ ?_
             rotate_left
             ·
              show Act.put _ (some 41) _ = _
              simp only [Act.put, List.setIfInBounds_toArray, List.set_cons_zero, List.set_cons_succ, i64_w, i32_w]
              rfl
             exact norm_ (by simp only [putAll, Act.put, List.setIfInBounds_toArray, List.set_cons_zero, List.set_cons_succ]) (hCont (v110, v117, v120) _ ⟨(by (with_reducible repeat (first | apply Kd.R_alloc | apply Kd.R_drewN | apply Kd.R_drew)); exact Kd.R_mono HO118.out (fun _ hk => hk.2)), (by (with_reducible repeat (first | apply Kd.R_alloc | apply Kd.R_drewN | apply Kd.R_drew)); exact Kd.R_mono HO121.out (fun _ hk => hk.2)), (bT HB)⟩)
            ·
             skip
             refine Kd.R_lit_step k62 _ 62 ?hg (N := 41) ?hd (xs := ([] : List (S62))) (inner := []) (ok := fun _ => True) (okp := fun _ => True) ?hr ?hp (fun _ hk => hk) trivial (Below.refl _ _) (Nat.le_refl _) (by simp) ?_; (case hd => rfl); (case hg => rfl); (case hr => first | (go_simp; done) | (go_simp; rfl)); (case hp => exact (Reps.none _ _))
             intro v120 w25 ho26 hb hg_ hnew_
             clear hg_ hnew_
             (first | rw [← Ny119.out] at ho26 | (simp only [Int.reduceToNat] at ho26; rw [← Ny119.out] at ho26))
             have HO121 := mA (Kd.R_lower (Kd.R_new' ho26 (Kd.R_lt (rTR HO111))) (below_size (bT HB)))
             replace HO111 := mA (Kd.R_elder' (rTR HO111) (Kd.R_base ho26) hb)
             replace HB := mA (below_step (bT HB) hb)
             clear hb ho26
             refine hK.out _ _ trivial (fun hHeld => ?_)
             clear hK K
             refine norm_ (a' := ?_) ?_ ?_
             rotate_left
             ·
              show Act.put _ (some 41) _ = _
              simp only [Act.put, List.setIfInBounds_toArray, List.set_cons_zero, List.set_cons_succ, i64_w, i32_w]
              rfl
             refine one_ (i := 4) (N := some 40) #[true, true, true, true, true, true, true, true, true, false, false, false] rfl rfl (one_of HT_.out (by kernel_rfl)) (by decide) (fun K hK => ?_)
             refine Kd.R_append_rows_step k62 (w0 := w) w.heap.size (by rfl) (.tmp 36) (.tmp 39) 24 62 (.agg #[(.int .i64 0), (.int .i64 0), (.int .i64 0)]) 24 rfl Try.underlying24 info62 rfl (by decide) (by omega) v110 y109 y112 _ _ _ (fun k_ => some k_ ≠ (v120 : Value).ownBlock) (fun _ => False) rfl rfl ?aO ?aR (fun _ _ h => h) (fun _ h => h.elim) ?aF ?aB ?aS ?aL ?_
             (case aR => exact cT (Kd.C_below HR115.out HB.out))
             (case aB => exact (bT HB))
             (case aF => exact (fun k_ hk => Kd.fresh' (Kd.R_lt (rTR HO121)) k_ hk))
             (case aO => exact (by (with_reducible repeat (first | apply Kd.R_alloc | apply Kd.R_drewN | apply Kd.R_drew)); exact Kd.R_mono HO111.out (fun _ hk => hk.2)))
             (case aS => exact (below_size (bT HB)))
             (case aL => have := LMc16.out; omega)
             intro v117 w27 ho hb hg hat
             rw [← Ny116.out] at ho
             replace HO121 := mA (Kd.R_after (ok := (fun _ => True)) (rTR HO121) hg hat)
             replace HB := mA (hb)
             have HO118 := mA (ho)
             clear HO111
             clear ho hb hg hat
             refine hK.out _ _ trivial (fun hHeld => ?_)
             clear hK K
             refine norm_ (a' := ?_) ?_ ?_
             rotate_left
             ·
              show Act.put _ (some 40) _ = _
              simp only [Act.put, List.setIfInBounds_toArray, List.set_cons_zero, List.set_cons_succ, i64_w, i32_w]
              rfl
             exact norm_ (by simp only [putAll, Act.put, List.setIfInBounds_toArray, List.set_cons_zero, List.set_cons_succ]) (hCont (v110, v117, v120) _ ⟨(rTR HO118), (by (with_reducible repeat (first | apply Kd.R_alloc | apply Kd.R_drewN | apply Kd.R_drew)); exact Kd.R_mono HO121.out (fun _ hk => hk.2)), (bT HB)⟩)
           ·
            skip
            refine Kd.R_lit_step k62 _ 62 ?hg (N := 41) ?hd (xs := ([] : List (S62))) (inner := []) (ok := fun _ => True) (okp := fun _ => True) ?hr ?hp (fun _ hk => hk) trivial (Below.refl _ _) (Nat.le_refl _) (by simp) ?_; (case hd => rfl); (case hg => rfl); (case hr => first | (go_simp; done) | (go_simp; rfl)); (case hp => exact (Reps.none _ _))
            intro v120 w23 ho24 hb hg_ hnew_
            clear hg_ hnew_
            (first | rw [← Ny119.out] at ho24 | (simp only [Int.reduceToNat] at ho24; rw [← Ny119.out] at ho24))
            have HO121 := mA (Kd.R_lower ho24 (below_size (bT HB)))
            replace HB := mA (below_step (bT HB) hb)
            clear hb ho24
            refine hK.out _ _ trivial (fun hHeld => ?_)
            clear hK K
            refine norm_ (a' := ?_) ?_ ?_
            rotate_left
            ·
             show Act.put _ (some 41) _ = _
             simp only [Act.put, List.setIfInBounds_toArray, List.set_cons_zero, List.set_cons_succ, i64_w, i32_w]
             rfl
            refine one_ (i := 0) (N := some 36) #[true, true, true, true, false, true, true, true, true, false, false, false] rfl rfl (one_of HT_.out (by kernel_rfl)) (by decide) (fun K hK => ?_)
            refine Kd.R_lit_step k62 _ 62 ?hg (N := 36) ?hd (xs := ([] : List (S62))) (inner := []) (ok := fun _ => True) (okp := fun _ => True) ?hr ?hp (fun _ hk => hk) trivial (Below.refl _ _) (Nat.le_refl _) (by simp) ?_; (case hd => rfl); (case hg => rfl); (case hr => first | (go_simp; done) | (go_simp; rfl)); (case hp => exact (Reps.none _ _))
            intro v110 w25 ho26 hb hg_ hnew_
            clear hg_ hnew_
            (first | rw [← Ny109.out] at ho26 | (simp only [Int.reduceToNat] at ho26; rw [← Ny109.out] at ho26))
            have HO111 := mA (Kd.R_lower (Kd.R_new' ho26 (Kd.R_lt (rTR HO121))) (below_size (bT HB)))
            replace HO121 := mA (Kd.R_elder' (rTR HO121) (Kd.R_base ho26) hb)
            replace HB := mA (below_step (bT HB) hb)
            clear hb ho26
            refine hK.out _ _ trivial (fun hHeld => ?_)
            clear hK K
            refine norm_ (a' := ?_) ?_ ?_
            rotate_left
            ·
             show Act.put _ (some 36) _ = _
             simp only [Act.put, List.setIfInBounds_toArray, List.set_cons_zero, List.set_cons_succ, i64_w, i32_w]
             rfl
            refine one_ (i := 4) (N := some 40) #[true, true, true, true, true, true, true, true, true, false, false, false] rfl rfl (one_of HT_.out (by kernel_rfl)) (by decide) (fun K hK => ?_)
            refine Kd.R_append_rows_step k62 (w0 := w) w.heap.size (by rfl) (.tmp 36) (.tmp 39) 24 62 (.agg #[(.int .i64 0), (.int .i64 0), (.int .i64 0)]) 24 rfl Try.underlying24 info62 rfl (by decide) (by omega) v110 y109 y112 _ _ _ (fun k_ => some k_ ≠ (v120 : Value).ownBlock) (fun _ => False) rfl rfl ?aO ?aR (fun _ _ h => h) (fun _ h => h.elim) ?aF ?aB ?aS ?aL ?_
            (case aR => exact cT (Kd.C_below HR115.out HB.out))
            (case aB => exact (bT HB))
            (case aF => exact (fun k_ hk => Kd.fresh' (Kd.R_lt (rTR HO121)) k_ hk))
            (case aO => exact (by (with_reducible repeat (first | apply Kd.R_alloc | apply Kd.R_drewN | apply Kd.R_drew)); exact Kd.R_mono HO111.out (fun _ hk => hk.2)))
            (case aS => exact (below_size (bT HB)))
            (case aL => have := LMc16.out; omega)
            intro v117 w27 ho hb hg hat
            rw [← Ny116.out] at ho
            replace HO121 := mA (Kd.R_after (ok := (fun _ => True)) (rTR HO121) hg hat)
            replace HB := mA (hb)
            have HO118 := mA (ho)
            clear HO111
            clear ho hb hg hat
            refine hK.out _ _ trivial (fun hHeld => ?_)
            clear hK K
            refine norm_ (a' := ?_) ?_ ?_
            rotate_left
            ·
             show Act.put _ (some 40) _ = _
             simp only [Act.put, List.setIfInBounds_toArray, List.set_cons_zero, List.set_cons_succ, i64_w, i32_w]
             rfl
            exact norm_ (by simp only [putAll, Act.put, List.setIfInBounds_toArray, List.set_cons_zero, List.set_cons_succ]) (hCont (v110, v117, v120) _ ⟨(rTR HO118), (by (with_reducible repeat (first | apply Kd.R_alloc | apply Kd.R_drewN | apply Kd.R_drew)); exact Kd.R_mono HO121.out (fun _ hk => hk.2)), (bT HB)⟩)
          rintro ⟨v110, v117, v120⟩ w28 ⟨h0_, h1_, h2_⟩
          have n0_ : Aside0 (Kd.R k62 62 w28 w.heap.size (fun k_ => some k_ ≠ (v120 : Value).ownBlock) v117 y116) := ⟨h0_⟩
          have n1_ : Aside0 (Kd.R k62 62 w28 w.heap.size (fun k_ => some k_ ≠ (v117 : Value).ownBlock) v120 y119) := ⟨h1_⟩
          have n2_ : Aside0 (Below w.heap.size w w28) := ⟨h2_⟩
          clear HB
          clear h0_ h1_ h2_
          have HO118 := n0_
          have HO121 := n1_
          have HB := n2_
          clear n0_ n1_ n2_
          have hHeld := trivial
          refine norm_ (a' := ?_) ?_ ?_
          rotate_left
          ·
           simp only [putAll, Act.put, List.setIfInBounds_toArray, List.set_cons_zero, List.set_cons_succ]
           rfl
          refine one_ (i := 9) (N := some 45) #[true, true, true, true, true, true, true, true, true, true, false, false] rfl rfl (one_of HT_.out (by kernel_rfl)) (by decide) (fun K hK => ?_)
          refine Kd.R_append_rows_step k62 (w0 := w) w.heap.size (by rfl) (.tmp 41) (.tmp 44) 24 62 (.agg #[(.int .i64 0), (.int .i64 0), (.int .i64 0)]) 24 rfl Try.underlying24 info62 rfl (by decide) (by omega) v120 y119 y122 _ _ _ (fun k_ => some k_ ≠ (v117 : Value).ownBlock) (fun _ => False) rfl rfl ?aO ?aR (fun _ _ h => h) (fun _ h => h.elim) ?aF ?aB ?aS ?aL ?_
          (case aR => exact cT (Kd.C_below HR125.out HB.out))
          (case aB => exact (bT HB))
          (case aF => exact (fun k_ hk => Kd.fresh' (Kd.R_lt (rTR HO118)) k_ hk))
          (case aO => exact (rTR HO121))
          (case aS => exact (below_size (bT HB)))
          (case aL => have := LMc19.out; omega)
          intro v127 w29 ho hb hg hat
          rw [← Ny126.out] at ho
          have n0_ := mA (Kd.R_after (ok := (fun _ => True)) (by (with_reducible repeat (first | apply Kd.R_alloc | apply Kd.R_drewN | apply Kd.R_drew)); exact Kd.R_mono HO118.out (fun _ hk => ⟨trivial, hk⟩)) hg hat)
          have n1_ := mA (hb)
          have n2_ := mA (ho)
          clear HO118
          clear HB
          clear HO121
          have HO118 := n0_
          have HB := n1_
          have HO128 := n2_
          clear n0_ n1_ n2_
          clear ho hb hg hat
          refine hK.out _ _ trivial (fun hHeld => ?_)
          clear hK K
          refine norm_ (a' := ?_) ?_ ?_
          rotate_left
          ·
           show Act.put _ (some 45) _ = _
           simp only [Act.put, List.setIfInBounds_toArray, List.set_cons_zero, List.set_cons_succ, i64_w, i32_w]
           rfl
          refine pureT (i := 10) (N := some 4) #[true, true, true, true, true, true, true, true, true, true, true, false] (any_of HT_.out (by kernel_rfl)) ?_
          refine pureT (i := 11) (N := some 5) #[true, true, true, true, true, true, true, true, true, true, true, true] (any_of HT_.out (by kernel_rfl)) ?_
          refine done_ (done_of HT_.out (by kernel_rfl)) ?_
          try go_wp2
          go_ret2
          exact ⟨_, _, eT, by (with_reducible repeat (first | apply Kd.R_alloc | apply Kd.R_drewN | apply Kd.R_drew)); exact Kd.R_mono HO118.out (fun _ hk => hk.2), rTR HO128, bT HB⟩
         ·
          rw [if_neg c19] at H
          exact absurd H (by simp)
        ·
         rw [if_neg c16] at H
         exact absurd H (by simp)
       ·
        rw [if_neg c15] at H
        exact absurd H (by simp)
      ·
       rw [if_neg c14] at H
       exact absurd H (by simp)

/-! ### impl_NextChunk: function 18 -/
mutual
def impl_NextChunk.l0 : Nat → List (S62) → Int → Int → Option ((List (S62)) × (List (S62)))
 | 0, _, _, _ => none
 | k + 1, x0, x1, x6 => if x6 < (x0.length : Int) then (if 0 ≤ (wrap64 (x6 + 1)) then (if (wrap64 (x6 + 1)) ≤ (x0.length : Int) then ((impl_TotalCost.f k (x0.take ((wrap64 (x6 + 1)) : Int).toNat)).bind fun t158 => (impl_NextChunk.j1 k x0 x1 x6 (decide (t158 ≤ x1)))) else (none)) else (none)) else (impl_NextChunk.j1 k x0 x1 x6 false)
def impl_NextChunk.j1 : Nat → List (S62) → Int → Int → Bool → Option ((List (S62)) × (List (S62)))
 | 0, _, _, _, _ => none
 | k + 1, x0, x1, x6, x22 => if x22 = true then (impl_NextChunk.l0 k x0 x1 (wrap64 (x6 + 1))) else (if 0 ≤ x6 then (if x6 ≤ (x0.length : Int) then ((impl_clone.f (x0.take (x6 : Int).toNat)).bind fun t163 => ((impl_clone.f (x0.drop (x6 : Int).toNat)).bind fun t170 => (some (t163, t170)))) else (none)) else (none))
end
def impl_NextChunk.f (k : Nat) (l0 : List (S62)) (a1 : Int) : Option ((List (S62)) × (List (S62))) := impl_NextChunk.l0 k l0 a1 (mn 1 (l0.length : Int))
theorem impl_NextChunk.mono_l : ∀ k, (∀ y0 y1 y2, LeO (impl_NextChunk.l0 k y0 y1 y2) (impl_NextChunk.l0 (k + 1) y0 y1 y2)) ∧ (∀ y0 y1 y2 y3, LeO (impl_NextChunk.j1 k y0 y1 y2 y3) (impl_NextChunk.j1 (k + 1) y0 y1 y2 y3))
 | 0 => ⟨fun _ _ _ r h => by simp [impl_NextChunk.l0] at h, fun _ _ _ _ r h => by simp [impl_NextChunk.j1] at h⟩
 | k + 1 => by
  obtain ⟨ih0, ih1⟩ := impl_NextChunk.mono_l k
  refine ⟨?_, ?_⟩
  ·
   intro y0 y1 y2
   unfold impl_NextChunk.l0
   repeat' first
   | (with_reducible exact ih0 _ _ _)
   | (with_reducible exact ih1 _ _ _ _)
   | (with_reducible exact impl_TotalCost.mono _ _)
   | (with_reducible exact LeO.refl _)
   | (with_reducible exact LeO.none _)
   | (with_reducible refine LeO.ite ?_ ?_)
   | (with_reducible refine LeO.bind ?_ (fun _ => ?_))
   | exact ih0 _ _ _
   | exact ih1 _ _ _ _
   | exact impl_TotalCost.mono _ _
   | exact LeO.none _
   | refine LeO.ite ?_ ?_
   | refine LeO.bind ?_ (fun _ => ?_)
  ·
   intro y0 y1 y2 y3
   unfold impl_NextChunk.j1
   repeat' first
   | (with_reducible exact ih0 _ _ _)
   | (with_reducible exact ih1 _ _ _ _)
   | (with_reducible exact impl_TotalCost.mono _ _)
   | (with_reducible exact LeO.refl _)
   | (with_reducible exact LeO.none _)
   | (with_reducible refine LeO.ite ?_ ?_)
   | (with_reducible refine LeO.bind ?_ (fun _ => ?_))
   | exact ih0 _ _ _
   | exact ih1 _ _ _ _
   | exact impl_TotalCost.mono _ _
   | exact LeO.none _
   | refine LeO.ite ?_ ?_
   | refine LeO.bind ?_ (fun _ => ?_)
theorem impl_NextChunk.mono : ∀ a0 a1 k, LeO (impl_NextChunk.f k a0 a1) (impl_NextChunk.f (k + 1) a0 a1) := by
 intro a0 a1 k
 obtain ⟨ih0, ih1⟩ := impl_NextChunk.mono_l k
 unfold impl_NextChunk.f
 repeat' first
   | (with_reducible exact ih0 _ _ _)
   | (with_reducible exact ih1 _ _ _ _)
   | (with_reducible exact impl_TotalCost.mono _ _)
   | (with_reducible exact LeO.refl _)
   | (with_reducible exact LeO.none _)
   | (with_reducible refine LeO.ite ?_ ?_)
   | (with_reducible refine LeO.bind ?_ (fun _ => ?_))
   | exact ih0 _ _ _
   | exact ih1 _ _ _ _
   | exact impl_TotalCost.mono _ _
   | exact LeO.none _
   | refine LeO.ite ?_ ?_
   | refine LeO.bind ?_ (fun _ => ?_)
def impl_NextChunk.T4 : Bool × List (List Nat × List Nat) := (true, [([], []), ([], []), ([0, 1], [0, 1]), ([2], [2]), ([], []), ([], []), ([4, 5], [4, 5]), ([6, 3], [6]), ([3, 7, 0, 1, 2, 3], [3]), ([7, 8, 0, 1, 2, 3, 4, 5, 6, 7, 8], [7])])
def impl_NextChunk.B4 : List Nat := [0, 0, 3, 7, 0, 0, 48, 127, 255, 511]
theorem impl_NextChunk.tab4 : rtab .any (opsOf Try.f18 4) = impl_NextChunk.T4 := by kernel_rfl
theorem impl_NextChunk.bits4 : waitsOk impl_NextChunk.T4.2 impl_NextChunk.B4 = true := by kernel_rfl
set_option maxHeartbeats 8000000 in
set_option maxRecDepth 100000 in
theorem impl_NextChunk.calls (k : Nat) (A0 : Option Addr) (c0 : Nat) (l0 : List (S62)) (a1 : Int) (r1 : List (S62)) (r2 : List (S62)) (w : World) (hr0 : Kd.C k62 w A0 l0.length l0) (hc0 : l0.length ≤ c0) (h : impl_NextChunk.f k l0 a1 = some (r1, r2)) :
  Calls Try.prog 18 #[.slice A0 l0.length c0, .int .i64 a1] w fun e w' => ∃ v0_ v1_ : Value, e = .returned (.tuple #[v0_, v1_]) ∧ Kd.R k62 62 w' w.heap.size (fun k_ => some k_ ≠ (v1_ : Value).ownBlock) v0_ r1 ∧ Kd.R k62 62 w' w.heap.size (fun k_ => some k_ ≠ (v0_ : Value).ownBlock) v1_ r2 ∧ Below w.heap.size w w' := by
 have HR0 := mA hr0
 have HC0 := mA hc0
 clear hr0 hc0
 have HB := mA (Below.refl w.heap.size w)
 have H : (impl_NextChunk.l0 k l0 a1 (mn 1 (l0.length : Int))) = some (r1, r2) := h
 clear h
 obtain ⟨ji3, hji3⟩ : ∃ j_ : Int, (mn 1 (l0.length : Int)) = j_ := ⟨_, rfl⟩
 replace H : (impl_NextChunk.l0 k l0 a1 ji3) = some (r1, r2) := by first | (rw [hji3] at H; exact H) | (simp only [hji3] at H ⊢; exact H)
 (try (have hji3h : ji3 ≤ 1 := by (rw [← hji3]; unfold mn; (repeat' split) <;> omega)))
 (try (have hji3g : ji3 ≤ 64 := by omega))
 (try (have hji3l : 0 ≤ ji3 := by (rw [← hji3]; unfold mn; (repeat' split) <;> omega)))
 (try (have hji3m : 0 ≤ ji3 := by omega))
 have hji3_ : (if (l0.length : Int) < 1 then (l0.length : Int) else 1) = ji3 := hji3
 have H' := mA H
 clear H
 go_enter Try.func18, Try.ntmps18
 go_wp2
 go_loopg [6] k (fun kq v6 w' => ∃ (x6_1 : Int), v6 = .int .i64 x6_1 ∧ Aside0 (impl_NextChunk.l0 kq l0 a1 x6_1 = some (r1, r2)) ∧ Aside0 (kq ≤ k) ∧ Aside0 (Below w.heap.size w w'))
 case atStart => exact ⟨(ji3), (by first | rfl | (simp; done) | (simp only [← hji3] <;> (first | rfl | simp)) | (simp [*]; done)), H', ⟨Nat.le_refl _⟩, ⟨bT HB⟩⟩
 case round =>
  clear H'
  try clear c1
  try clear p2
  obtain ⟨x6_1, rfl, HA, HK1, HB⟩ := hrel
  cases gk with
  | zero => exact absurd HA.out (by simp [impl_NextChunk.l0])
  | succ k1 =>
   have H := HA.out
   clear HA
   simp only [impl_NextChunk.l0] at H
   have HC4 := mA H
   clear H
   go_upto_region 2 with (fail)
   go_cut [22] (fun v22 wc => ∃ (kq : Nat) (x22_3 : Bool), v22 = .bool x22_3 ∧ Aside0 (impl_NextChunk.j1 kq l0 a1 x6_1 x22_3 = some (r1, r2)) ∧ Aside0 (kq ≤ k1) ∧ Aside0 (Below w.heap.size w wc))
   case first =>
    have H := HC4.out
    clear HC4
    by_cases c5 : x6_1 < (l0.length : Int)
    ·
     rw [if_pos c5] at H
     have c5b0 : decide (x6_1 < (l0.length : Int)) = true := decide_eq_true c5
     clear c5
     (first | rw [c5b0] | (simp only [i64_w, i32_w]; rw [c5b0]) | skip)
     obtain ⟨ji6, hji6⟩ : ∃ j_ : Int, (wrap64 (x6_1 + 1)) = j_ := ⟨_, rfl⟩
     replace H : (if 0 ≤ (ji6) then (if (ji6) ≤ (l0.length : Int) then ((impl_TotalCost.f k1 (l0.take ((ji6) : Int).toNat)).bind fun t158 => (impl_NextChunk.j1 k1 l0 a1 x6_1 (decide (t158 ≤ a1)))) else (none)) else (none)) = some (r1, r2) := by first | (rw [hji6] at H; exact H) | (simp only [hji6] at H ⊢; exact H)
     have hji6w : (IntKind.i64.wrap (x6_1 + 1)) = ji6 := (i64_w _).trans hji6
     by_cases c7 : 0 ≤ (ji6)
     ·
      rw [if_pos c7] at H
      have c7b0 := eq_true c7
      have c7b1 : decide (0 ≤ (ji6)) = true := decide_eq_true c7
      clear c7
      by_cases c8 : (ji6) ≤ (l0.length : Int)
      ·
       rw [if_pos c8] at H
       have c8b0 := eq_true c8
       have c8b1 : decide ((ji6) ≤ (l0.length : Int)) = true := decide_eq_true c8
       clear c8
       obtain ⟨y154, hy154⟩ : ∃ y_ : List (S62), y_ = (l0.take ((ji6) : Int).toNat) := ⟨_, rfl⟩
       replace H : ((impl_TotalCost.f k1 y154).bind fun t158 => (impl_NextChunk.j1 k1 l0 a1 x6_1 (decide (t158 ≤ a1)))) = some (r1, r2) := by first | (rw [hy154]; with_reducible exact H) | (have H2_ := (Option.bind_some _ _).symm.trans H; rw [hy154]; with_reducible exact H2_) | (have H2_ := (Option.bind_some _ _).symm.trans H; with_reducible exact H2_) | with_reducible exact H | (rw [hy154]; exact H) | exact H
       have Ny154 := mA hy154
       clear hy154
       obtain ⟨t158, A9, H⟩ := Option.bind_eq_some_iff.mp H
       replace A9 := mA A9
       try dsimp only at H
       have H' := mA H
       clear H
       have q10 : ((ji6) : Int) ≤ ((l0.length : Int) : Int) := of_decide_eq_true aT
       obtain ⟨i010, hi010, _, hsz10, _⟩ := info_parts info62
       have hroom10 : l0.length ≤ c0 := HC0.out
       have hC10 : Kd.C k62 _ A0 l0.length l0 := HR0.out
       have hcut10 := cut_to (P := Try.prog) 24 62 .i64 Try.underlying24 hi010 A0 l0.length c0 (ji6) (of_decide_eq_true aT) q10 hroom10
       have hr10 := Kd.C_take (m := ((ji6) : Int).toNat) hC10 (by omega)
       have hy10 : y154.length = ((ji6) : Int).toNat := (by rw [Ny154.out, List.length_take]; omega)
       rw [← Ny154.out] at hr10
       rw [← hy10] at hcut10
       have HR157 := mA hr10
       have HC157 := mA (show y154.length ≤ c0 from by omega)
       clear hr10 hC10 hroom10 hi010 hsz10
       have KY10 := mA hy10
       clear hy10
       replace q10 := eq_true q10
       go_wp2_with (first | (go_at_call 54; (with_reducible refine (impl_TotalCost.calls k1 _ _ y154 t158 _ ?side1 ?side2 A9.out).mono ?_); (case side1 => exact cT (Kd.C_below HR157.out HB.out)); (case side2 => exact HC157.out); rintro e w11 ⟨rfl, hb⟩; replace HB := mA (below_step (bT HB) hb); (try clear hb)))
       go_meet
       case rel => exact ⟨_, (decide (t158 ≤ a1)), sT, H', ⟨by have := HK1.out; first | omega | exact Nat.le_refl _⟩, ⟨bT HB⟩⟩
      ·
       rw [if_neg c8] at H
       exact absurd H (by simp)
     ·
      rw [if_neg c7] at H
      exact absurd H (by simp)
    ·
     rw [if_neg c5] at H
     have c5b0 : decide (x6_1 < (l0.length : Int)) = false := decide_eq_false c5
     clear c5
     (first | rw [c5b0] | (simp only [i64_w, i32_w]; rw [c5b0]) | skip)
     have H' := mA H
     clear H
     go_wp2
     go_meet
     case rel => exact ⟨_, (false), sT, H', ⟨by have := HK1.out; first | omega | exact Nat.le_refl _⟩, ⟨bT HB⟩⟩
   case rest =>
    clear HC4
    try clear c1
    try clear q1
    try clear p2
    try clear c5
    try clear c5b0
    try clear p6
    try clear c7
    try clear c7b0
    try clear c7b1
    try clear c8
    try clear c8b0
    try clear c8b1
    try clear q10
    try clear p2
    try clear q10
    obtain ⟨kq, x22_3, rfl, HA, HJ3, HB⟩ := hcut
    cases kq with
    | zero => exact absurd HA.out (by simp [impl_NextChunk.j1])
    | succ kj3 =>
     have H := HA.out
     clear HA
     simp only [impl_NextChunk.j1] at H
     by_cases c12 : x22_3 = true
     ·
      subst c12
      rw [if_pos rfl] at H
      have H' := mA H
      clear H
      go_wp2
      go_roundg kj3
      case measure => have := HK1.out; have := HJ3.out; omega
      case rel => exact ⟨(wrap64 (x6_1 + 1)), sT, H', ⟨by have := HK1.out; have := HJ3.out; omega⟩, ⟨bT HB⟩⟩
     ·
      replace c12 := Bool.eq_false_iff.mpr c12
      subst c12
      rw [if_neg (show ¬ (false = true) by decide)] at H
      by_cases c13 : 0 ≤ x6_1
      ·
       rw [if_pos c13] at H
       have c13b0 := eq_true c13
       have c13b1 : decide (0 ≤ x6_1) = true := decide_eq_true c13
       clear c13
       by_cases c14 : x6_1 ≤ (l0.length : Int)
       ·
        rw [if_pos c14] at H
        have c14b0 := eq_true c14
        have c14b1 : decide (x6_1 ≤ (l0.length : Int)) = true := decide_eq_true c14
        clear c14
        obtain ⟨y159, hy159⟩ : ∃ y_ : List (S62), y_ = (l0.take (x6_1 : Int).toNat) := ⟨_, rfl⟩
        replace H : ((impl_clone.f y159).bind fun t163 => ((impl_clone.f (l0.drop (x6_1 : Int).toNat)).bind fun t170 => (some (t163, t170)))) = some (r1, r2) := by first | (rw [hy159]; with_reducible exact H) | (have H2_ := (Option.bind_some _ _).symm.trans H; rw [hy159]; with_reducible exact H2_) | (have H2_ := (Option.bind_some _ _).symm.trans H; with_reducible exact H2_) | with_reducible exact H | (rw [hy159]; exact H) | exact H
        have Ny159 := mA hy159
        clear hy159
        obtain ⟨t163, A15, H⟩ := Option.bind_eq_some_iff.mp H
        replace A15 := mA A15
        try dsimp only at H
        have c16b0 := eq_true (of_decide_eq_true aT : 0 ≤ x6_1)
        have c17b0 := eq_true (of_decide_eq_true aT : x6_1 ≤ (l0.length : Int))
        obtain ⟨y166, hy166⟩ : ∃ y_ : List (S62), y_ = (l0.drop (x6_1 : Int).toNat) := ⟨_, rfl⟩
        replace H : ((impl_clone.f y166).bind fun t170 => (some (t163, t170))) = some (r1, r2) := by first | (rw [hy166]; with_reducible exact H) | (have H2_ := (Option.bind_some _ _).symm.trans H; rw [hy166]; with_reducible exact H2_) | (have H2_ := (Option.bind_some _ _).symm.trans H; with_reducible exact H2_) | with_reducible exact H | (rw [hy166]; exact H) | exact H
        have Ny166 := mA hy166
        clear hy166
        obtain ⟨t170, A18, H⟩ := Option.bind_eq_some_iff.mp H
        replace A18 := mA A18
        replace H : (some (t163, t170)) = some (r1, r2) := H
        simp only [Option.some.injEq, Prod.mk.injEq] at H
        obtain ⟨rfl, rfl⟩ := H
        try go_wp2
        replace HB := mA (below_drew1 HB.out)
        have q20 : (x6_1 : Int) ≤ ((l0.length : Int) : Int) := of_decide_eq_true aT
        obtain ⟨i020, hi020, _, hsz20, _⟩ := info_parts info62
        have hroom20 : l0.length ≤ c0 := HC0.out
        have hC20 : Kd.C k62 _ A0 l0.length l0 := HR0.out
        have hcut20 := cut_to (P := Try.prog) 24 62 .i64 Try.underlying24 hi020 A0 l0.length c0 x6_1 (of_decide_eq_true aT) q20 hroom20
        have hr20 := Kd.C_take (m := (x6_1 : Int).toNat) hC20 (by omega)
        have hy20 : y159.length = (x6_1 : Int).toNat := (by rw [Ny159.out, List.length_take]; omega)
        rw [← Ny159.out] at hr20
        rw [← hy20] at hcut20
        have HR162 := mA hr20
        have HC162 := mA (show y159.length ≤ c0 from by omega)
        clear hr20 hC20 hroom20 hi020 hsz20
        have KY20 := mA hy20
        clear hy20
        replace q20 := eq_true q20
        have q21 : (x6_1 : Int) ≤ ((l0.length : Int) : Int) := of_decide_eq_true aT
        obtain ⟨i021, hi021, _, hsz21, _⟩ := info_parts info62
        have hroom21 : l0.length ≤ c0 := HC0.out
        have hC21 : Kd.C k62 _ A0 l0.length l0 := HR0.out
        have q021 : (0 : Int) ≤ (x6_1 : Int) := of_decide_eq_true aT
        have hcut21 := cut_from (P := Try.prog) 24 62 .i64 Try.underlying24 hi021 3 hsz21 A0 l0.length c0 x6_1 q021 q21
        have hr21 := Kd.C_drop (m := (x6_1 : Int).toNat) (c := c0) hC21 (by omega) hroom21
        obtain ⟨A21, hA21⟩ : ∃ A1, A1 = (if c0 = (x6_1 : Int).toNat then A0 else (A0 : Option Addr).map (·.add ((x6_1 : Int).toNat * 3))) := ⟨_, rfl⟩
        obtain ⟨c21, hc21⟩ : ∃ c1, c1 = c0 - (x6_1 : Int).toNat := ⟨_, rfl⟩
        have hy21 : y166.length = l0.length - (x6_1 : Int).toNat := (by rw [Ny166.out, List.length_drop] <;> omega)
        rw [show (l0).drop (x6_1 : Int).toNat = y166 from Ny166.out.symm] at hr21
        replace hr21 : Kd.C k62 _ A21 y166.length y166 := (by rw [hA21]; exact hr21)
        rw [← hy21, ← hA21, ← hc21] at hcut21
        have HR169 := mA hr21
        have HC169 := mA (show y166.length ≤ c21 from by rw [hy21, hc21]; exact Nat.sub_le_sub_right hroom21 _)
        clear hr21 hC21 hroom21 hi021 hsz21 hc21
        have KY21 := mA hy21
        have KA21 := mA hA21
        clear hy21 hA21
        replace q21 := eq_true q21
        refine start_ (n := 10) (S := fun w' => True) (ds := []) #[false, false, false, false, false, false, false, false, false, false] (by kernel_rfl) rfl rfl trivial (fun hHeld => ?_); refine with_tabW impl_NextChunk.tab4 impl_NextChunk.bits4 (fun HT_ HW_ => ?_)
        generalize wc.drew = w19 at HB HR162 HR169 hHeld ⊢
        refine pureT (i := 0) (N := some 25) #[true, false, false, false, false, false, false, false, false, false] (any_of HT_.out (by kernel_rfl)) ?_
        refine pureT (i := 1) (N := some 26) #[true, true, false, false, false, false, false, false, false, false] (any_of HT_.out (by kernel_rfl)) ?_
        refine pureT (i := 2) (N := some 27) #[true, true, true, false, false, false, false, false, false, false] (any_of HT_.out (by kernel_rfl)) ?_
        refine pureT (i := 4) (N := some 29) #[true, true, true, false, true, false, false, false, false, false] (any_of HT_.out (by kernel_rfl)) ?_
        refine pureT (i := 5) (N := some 30) #[true, true, true, false, true, true, false, false, false, false] (any_of HT_.out (by kernel_rfl)) ?_
        refine pureT (i := 6) (N := some 31) #[true, true, true, false, true, true, true, false, false, false] (any_of HT_.out (by kernel_rfl)) ?_
        refine one_ (i := 3) (N := some 28) #[true, true, true, true, true, true, true, false, false, false] rfl rfl (one_of HT_.out (by kernel_rfl)) (by decide) (fun K hK => ?_)
        refine goes_ Try.func55 (by kernel_rfl) rfl #[.slice A0 y159.length c0] (by rfl) rfl rfl mT ?_
        with_reducible refine (impl_clone.calls _ _ y159 t163 _ ?side1 ?side2 A15.out).mono ?_
        (case side1 => exact cT (Kd.C_below HR162.out HB.out))
        (case side2 => exact HC162.out)
        rintro e w22 ⟨v164, rfl, ho0, hb⟩
        refine ⟨_, rfl, ?_⟩
        have HO165 := mA (Kd.R_lower ho0 (below_size (bT HB)))
        replace HB := mA (below_step (bT HB) hb)
        (try clear hb)
        (try clear hb2)
        (try clear hk)
        (try clear hi)
        (try clear ho0)
        refine hK.out _ _ trivial (fun hHeld => ?_)
        clear hK K
        refine norm_ (a' := ?_) ?_ ?_
        rotate_left
        ·
         show Act.put _ (some 28) _ = _
         simp only [Act.put, List.setIfInBounds_toArray, List.set_cons_zero, List.set_cons_succ, i64_w, i32_w]
         rfl
        refine one_ (i := 7) (N := some 32) #[true, true, true, true, true, true, true, true, false, false] rfl rfl (one_of HT_.out (by kernel_rfl)) (by decide) (fun K hK => ?_)
        refine goes_ Try.func55 (by kernel_rfl) rfl #[.slice A21 y166.length c21] (by rfl) rfl rfl mT ?_
        with_reducible refine (impl_clone.calls _ _ y166 t170 _ ?side1 ?side2 A18.out).mono ?_
        (case side1 => exact cT (Kd.C_below HR169.out HB.out))
        (case side2 => exact HC169.out)
        rintro e w23 ⟨v171, rfl, ho0, hb⟩
        refine ⟨_, rfl, ?_⟩
        have HO172 := mA (Kd.R_lower (Kd.R_new' ho0 (Kd.R_lt (rTR HO165))) (below_size (bT HB)))
        replace HO165 := mA (Kd.R_elder' (rTR HO165) (Kd.R_base ho0) hb)
        replace HB := mA (below_step (bT HB) hb)
        (try clear hb)
        (try clear hb2)
        (try clear hk)
        (try clear hi)
        (try clear ho0)
        refine hK.out _ _ trivial (fun hHeld => ?_)
        clear hK K
        refine norm_ (a' := ?_) ?_ ?_
        rotate_left
        ·
         show Act.put _ (some 32) _ = _
         simp only [Act.put, List.setIfInBounds_toArray, List.set_cons_zero, List.set_cons_succ, i64_w, i32_w]
         rfl
        refine pureT (i := 8) (N := some 4) #[true, true, true, true, true, true, true, true, true, false] (any_of HT_.out (by kernel_rfl)) ?_
        refine pureT (i := 9) (N := some 5) #[true, true, true, true, true, true, true, true, true, true] (any_of HT_.out (by kernel_rfl)) ?_
        refine done_ (done_of HT_.out (by kernel_rfl)) ?_
        try go_wp2
        go_ret2
        exact ⟨_, _, by first | rfl | (simp [errW_none, errW_some] <;> rfl) | (simp only [← hji3]; first | rfl | (simp [errW_none, errW_some] <;> rfl)) | (simp [*, errW_none, errW_some] <;> rfl), by (with_reducible repeat (first | apply Kd.R_alloc | apply Kd.R_drewN | apply Kd.R_drew)); exact Kd.R_mono HO165.out (fun _ hk => hk.2), by (with_reducible repeat (first | apply Kd.R_alloc | apply Kd.R_drewN | apply Kd.R_drew)); exact Kd.R_mono HO172.out (fun _ hk => hk.2), bT HB⟩
       ·
        rw [if_neg c14] at H
        exact absurd H (by simp)
      ·
       rw [if_neg c13] at H
       exact absurd H (by simp)

end Go.Proofs.Ythciieopabndcaa.P
