/- Written by tools/seatprint.py over the translation. Lean checks it. -/
import Derived.Test.YthciieopabndcaaP0
import Derived.Test.YthciieopabndcaaPb5bc0
import Derived.Test.YthciieopabndcaaPd1c0
namespace Go.Proofs.Ythciieopabndcaa.P
open Go.RowKit Go.Proofs.YthciieopabndcaaW.PrintWords Go.Proofs.YthciieopabndcaaW.PrintLast Go.Proofs.YthciieopabndcaaW.PrintMore
attribute [local go_sem] max2_int min2_int max_two min_two max_three min_three max_four min_four
set_option linter.unusedVariables false
set_option linter.unusedSimpArgs false

/-! ### spec_NewTask: function 33 -/
def spec_NewTask.j0 : Nat → Int → List (S62) → List (S62) → Bool → Option (Int × (List (S62)) × (List (S62)) × List Bool × Int × Bool)
 | 0, _, _, _, _ => none
 | k + 1, x0, x1, x2, x20 => if x20 = true then (some (0, ([] : List (S62)), ([] : List (S62)), ([] : List Bool), 0, false)) else ((some (([] : List (S62)) : List (S62))).bind fun y509 => (if y509.length + x1.length < 5864062014805 then ((some (([] : List (S62)) : List (S62))).bind fun y515 => (if y515.length + x2.length < 5864062014805 then (if 0 ≤ (x1.length : Int) then (if ((x1.length : Int) : Int).toNat ≤ 281474976710656 then (some (x0, (y509 ++ x1), (y515 ++ x2), (List.replicate ((x1.length : Int) : Int).toNat false), 0, true)) else (none)) else (none)) else (none))) else (none)))
def spec_NewTask.f (k : Nat) (a0 : Int) (l1 : List (S62)) (l2 : List (S62)) : Option (Int × (List (S62)) × (List (S62)) × List Bool × Int × Bool) := (spec_IsValidJoinKind.f a0).bind fun t506 => (if t506 = true then ((spec_AreValidRows.f k l1).bind fun t507 => (if t507 = true then ((spec_AreValidRows.f k l2).bind fun t508 => (spec_NewTask.j0 k a0 l1 l2 (!t508))) else (spec_NewTask.j0 k a0 l1 l2 true))) else (spec_NewTask.j0 k a0 l1 l2 true))
theorem spec_NewTask.mono_l : ∀ k, (∀ y0 y1 y2 y3, LeO (spec_NewTask.j0 k y0 y1 y2 y3) (spec_NewTask.j0 (k + 1) y0 y1 y2 y3))
 | 0 => fun _ _ _ _ r h => by simp [spec_NewTask.j0] at h
 | k + 1 => by
  have ih0 := spec_NewTask.mono_l k
  ·
   intro y0 y1 y2 y3
   unfold spec_NewTask.j0
   repeat' first
   | (with_reducible exact ih0 _ _ _ _)
   | (with_reducible exact spec_AreValidRows.mono _ _)
   | (with_reducible exact LeO.refl _)
   | (with_reducible exact LeO.none _)
   | (with_reducible refine LeO.ite ?_ ?_)
   | (with_reducible refine LeO.bind ?_ (fun _ => ?_))
   | exact ih0 _ _ _ _
   | exact spec_AreValidRows.mono _ _
   | exact LeO.none _
   | refine LeO.ite ?_ ?_
   | refine LeO.bind ?_ (fun _ => ?_)
theorem spec_NewTask.mono : ∀ a0 a1 a2 k, LeO (spec_NewTask.f k a0 a1 a2) (spec_NewTask.f (k + 1) a0 a1 a2) := by
 intro a0 a1 a2 k
 have ih0 := spec_NewTask.mono_l k
 unfold spec_NewTask.f
 repeat' first
   | (with_reducible exact ih0 _ _ _ _)
   | (with_reducible exact spec_AreValidRows.mono _ _)
   | (with_reducible exact LeO.refl _)
   | (with_reducible exact LeO.none _)
   | (with_reducible refine LeO.ite ?_ ?_)
   | (with_reducible refine LeO.bind ?_ (fun _ => ?_))
   | exact ih0 _ _ _ _
   | exact spec_AreValidRows.mono _ _
   | exact LeO.none _
   | refine LeO.ite ?_ ?_
   | refine LeO.bind ?_ (fun _ => ?_)
def spec_NewTask.T3 : Bool × List (List Nat × List Nat) := (true, [([], []), ([], []), ([], []), ([1, 2], [1, 2]), ([], []), ([], []), ([4, 5, 3], [4, 5]), ([], []), ([7], [7]), ([8, 8], [8]), ([0, 3, 6, 9], [0, 3, 6, 9]), ([10, 6, 0, 1, 2, 3, 4, 5, 6, 7, 8, 9, 10], [10]), ([11, 0, 1, 2, 3, 4, 5, 6, 7, 8, 9, 10, 11], [])])
def spec_NewTask.B3 : List Nat := [0, 0, 0, 6, 0, 0, 62, 0, 128, 384, 1023, 2047, 4095]
theorem spec_NewTask.tab3 : rtab .any (opsOf Try.f33 3) = spec_NewTask.T3 := by kernel_rfl
theorem spec_NewTask.bits3 : waitsOk spec_NewTask.T3.2 spec_NewTask.B3 = true := by kernel_rfl
set_option maxHeartbeats 8000000 in
set_option maxRecDepth 100000 in
theorem spec_NewTask.calls (k : Nat) (a0 : Int) (A1 : Option Addr) (c1 : Nat) (l1 : List (S62)) (A2 : Option Addr) (c2 : Nat) (l2 : List (S62)) (r1 : Int) (r2 : List (S62)) (r3 : List (S62)) (r4 : List Bool) (r5 : Int) (r6 : Bool) (w : World) (hr1 : Kd.C k62 w A1 l1.length l1) (hc1 : l1.length ≤ c1) (hr2 : Kd.C k62 w A2 l2.length l2) (hc2 : l2.length ≤ c2) (h : spec_NewTask.f k a0 l1 l2 = some (r1, r2, r3, r4, r5, r6)) :
  Calls Try.prog 33 #[.int .i64 a0, .slice A1 l1.length c1, .slice A2 l2.length c2] w fun e w' => ∃ v1_ v2_ v3_ : Value, e = .returned (.tuple #[.agg #[.int .i64 r1, v1_, v2_, v3_, .int .i64 r5], .bool r6]) ∧ Kd.R k62 62 w' w.heap.size (fun k_ => some k_ ≠ (v2_ : Value).ownBlock) v1_ r2 ∧ Kd.R k62 62 w' w.heap.size (fun k_ => some k_ ≠ (v1_ : Value).ownBlock) v2_ r3 ∧ Kd.R Kd.bool 4 w' w.heap.size (fun _ => True) v3_ r4 ∧ Below w.heap.size w w' := by
 have hu37 := Try.underlying37
 have HR1 := mA hr1
 have HC1 := mA hc1
 clear hr1 hc1
 have HR2 := mA hr2
 have HC2 := mA hc2
 clear hr2 hc2
 have HB := mA (Below.refl w.heap.size w)
 have H : ((spec_IsValidJoinKind.f a0).bind fun t506 => (if t506 = true then ((spec_AreValidRows.f k l1).bind fun t507 => (if t507 = true then ((spec_AreValidRows.f k l2).bind fun t508 => (spec_NewTask.j0 k a0 l1 l2 (!t508))) else (spec_NewTask.j0 k a0 l1 l2 true))) else (spec_NewTask.j0 k a0 l1 l2 true))) = some (r1, r2, r3, r4, r5, r6) := h
 clear h
 have HC4 := mA H
 clear H
 go_enter Try.func33, Try.ntmps33
 go_upto_region 1 with (first | ((with_reducible refine gate_dst (N := 6) rfl ?_); refine boxT 6 #[.int .i64 0, .slice none 0 0, .slice none 0 0, .slice none 0 0, .int .i64 0] 37 ?_; intro gb505 hg w5 hbox hb; have BK505 := mA (hbox); have GW505 := mA ((by rw [hg]; exact (below_size (bT HB)) : w.heap.size ≤ gb505)); have GE505 := GW505; replace HB := mA (below_step (bT HB) hb); clear hb hbox hg))
 (try simp only [Act.put, List.setIfInBounds_toArray, List.set_cons_zero, List.set_cons_succ])
 go_cut [20] (fun v20 wc => ∃ (kq : Nat) (x20_3 : Bool), v20 = .bool x20_3 ∧ Aside0 (spec_NewTask.j0 kq a0 l1 l2 x20_3 = some (r1, r2, r3, r4, r5, r6)) ∧ Aside0 (kq ≤ k) ∧ Aside0 (wc.heap[gb505]? = some (.cells #[.int .i64 0, (.slice none 0 0), (.slice none 0 0), (.slice none 0 0), .int .i64 0] 37 (0, 0))) ∧ Aside0 (Below w.heap.size w wc))
 case first =>
  have H := HC4.out
  clear HC4
  obtain ⟨t506, A6, H⟩ := Option.bind_eq_some_iff.mp H
  replace A6 := mA A6
  try dsimp only at H
  by_cases c7 : t506 = true
  ·
   subst c7
   rw [if_pos rfl] at H
   obtain ⟨t507, A8, H⟩ := Option.bind_eq_some_iff.mp H
   replace A8 := mA A8
   try dsimp only at H
   by_cases c9 : t507 = true
   ·
    subst c9
    rw [if_pos rfl] at H
    obtain ⟨t508, A10, H⟩ := Option.bind_eq_some_iff.mp H
    replace A10 := mA A10
    try dsimp only at H
    have H' := mA H
    clear H
    go_wp2_with (first | ((with_reducible refine gate_callee (f := 62) rfl ?_); refine goesT (some 9) Try.func62 #[.int .i64 a0] ?_; (with_reducible refine (spec_IsValidJoinKind.calls a0 true _ A6.out).mono ?_); rintro e w' ⟨rfl, ⟨nd, rfl⟩⟩; refine ⟨_, rfl, ?_⟩) | (go_at_call 63; (with_reducible refine (spec_AreValidRows.calls k _ _ l1 true _ ?side1 ?side2 A8.out).mono ?_); (case side1 => exact cT (Kd.C_below HR1.out (bT1 HB GE505))); (case side2 => exact HC1.out); rintro e w11 ⟨rfl, hb⟩; replace BK505 := kB BK505 hb; replace HB := mA (below_step (bT1 HB GE505) hb); (try clear hb)) | (go_at_call 63; (with_reducible refine (spec_AreValidRows.calls k _ _ l2 t508 _ ?side1 ?side2 A10.out).mono ?_); (case side1 => exact cT (Kd.C_below HR2.out HB.out)); (case side2 => exact HC2.out); rintro e w12 ⟨rfl, hb⟩; replace BK505 := kB BK505 hb; replace HB := mA (below_step (bT1 HB GE505) hb); (try clear hb)))
    go_meet
    case rel => exact ⟨_, (!t508), sT, H', ⟨by first | omega | exact Nat.le_refl _⟩, ⟨kT BK505⟩, ⟨bT1 HB GE505⟩⟩
   ·
    replace c9 := Bool.eq_false_iff.mpr c9
    subst c9
    rw [if_neg (show ¬ (false = true) by decide)] at H
    have H' := mA H
    clear H
    go_wp2_with (first | ((with_reducible refine gate_callee (f := 62) rfl ?_); refine goesT (some 9) Try.func62 #[.int .i64 a0] ?_; (with_reducible refine (spec_IsValidJoinKind.calls a0 true _ A6.out).mono ?_); rintro e w' ⟨rfl, ⟨nd, rfl⟩⟩; refine ⟨_, rfl, ?_⟩) | (go_at_call 63; (with_reducible refine (spec_AreValidRows.calls k _ _ l1 false _ ?side1 ?side2 A8.out).mono ?_); (case side1 => exact cT (Kd.C_below HR1.out (bT1 HB GE505))); (case side2 => exact HC1.out); rintro e w13 ⟨rfl, hb⟩; replace BK505 := kB BK505 hb; replace HB := mA (below_step (bT1 HB GE505) hb); (try clear hb)))
    go_meet
    case rel => exact ⟨_, (true), sT, H', ⟨by first | omega | exact Nat.le_refl _⟩, ⟨kT BK505⟩, ⟨bT1 HB GE505⟩⟩
  ·
   replace c7 := Bool.eq_false_iff.mpr c7
   subst c7
   rw [if_neg (show ¬ (false = true) by decide)] at H
   have H' := mA H
   clear H
   go_wp2_with (first | ((with_reducible refine gate_callee (f := 62) rfl ?_); refine goesT (some 9) Try.func62 #[.int .i64 a0] ?_; (with_reducible refine (spec_IsValidJoinKind.calls a0 false _ A6.out).mono ?_); rintro e w' ⟨rfl, ⟨nd, rfl⟩⟩; refine ⟨_, rfl, ?_⟩))
   go_meet
   case rel => exact ⟨_, (true), sT, H', ⟨by first | omega | exact Nat.le_refl _⟩, ⟨kT BK505⟩, ⟨bT1 HB GE505⟩⟩
 case rest =>
  clear HC4
  try clear c1
  try clear c2
  try clear p2
  try clear c3
  try clear c6
  try clear c7
  try clear c9
  obtain ⟨kq, x20_3, rfl, HA, HJ3, BK505, HB⟩ := hcut
  cases kq with
  | zero => exact absurd HA.out (by simp [spec_NewTask.j0])
  | succ kj3 =>
   have H := HA.out
   clear HA
   simp only [spec_NewTask.j0] at H
   by_cases c14 : x20_3 = true
   ·
    subst c14
    rw [if_pos rfl] at H
    simp only [Option.some.injEq, Prod.mk.injEq] at H
    obtain ⟨rfl, rfl, rfl, rfl, rfl, rfl⟩ := H
    have hcz15_0 : wc.cell? ⟨gb505, 0, none⟩ = some (.int .i64 0) := (blk_cell BK505.out 0).trans rfl
    have hcz15_1 : wc.cell? ⟨gb505, 1, none⟩ = some (.slice none 0 0) := (blk_cell BK505.out 1).trans rfl
    have hcz15_2 : wc.cell? ⟨gb505, 2, none⟩ = some (.slice none 0 0) := (blk_cell BK505.out 2).trans rfl
    have hcz15_3 : wc.cell? ⟨gb505, 3, none⟩ = some (.slice none 0 0) := (blk_cell BK505.out 3).trans rfl
    have hcz15_4 : wc.cell? ⟨gb505, 4, none⟩ = some (.int .i64 0) := (blk_cell BK505.out 4).trans rfl
    have hfz15_0 := blk_frozen BK505.out 0
    have hfz15_1 := blk_frozen BK505.out 1
    have hfz15_2 := blk_frozen BK505.out 2
    have hfz15_3 := blk_frozen BK505.out 3
    have hfz15_4 := blk_frozen BK505.out 4
    go_wp2
    refine bodyPost_ret (results_ct rfl _ _ gb505 37 #[.int .i64 0, .slice none 0 0, .slice none 0 0, .slice none 0 0, .int .i64 0] (0, 0) _ rfl (by (with_reducible repeat (first | refine blk_drewN ?_ _ | refine blk_drew ?_ | refine blk_alloc ?_ _)); refine blk_put (cs := #[.int .i64 0, .slice none 0 0, .slice none 0 0, .slice none 0 0, .int .i64 0]) ?_ 4 _ rfl; (with_reducible repeat (first | refine blk_drewN ?_ _ | refine blk_drew ?_ | refine blk_alloc ?_ _)); refine blk_put (cs := #[.int .i64 0, .slice none 0 0, .slice none 0 0, .slice none 0 0, .int .i64 0]) ?_ 3 _ rfl; (with_reducible repeat (first | refine blk_drewN ?_ _ | refine blk_drew ?_ | refine blk_alloc ?_ _)); refine blk_put (cs := #[.int .i64 0, .slice none 0 0, .slice none 0 0, .slice none 0 0, .int .i64 0]) ?_ 2 _ rfl; (with_reducible repeat (first | refine blk_drewN ?_ _ | refine blk_drew ?_ | refine blk_alloc ?_ _)); refine blk_put (cs := #[.int .i64 0, .slice none 0 0, .slice none 0 0, .slice none 0 0, .int .i64 0]) ?_ 1 _ rfl; (with_reducible repeat (first | refine blk_drewN ?_ _ | refine blk_drew ?_ | refine blk_alloc ?_ _)); refine blk_put (cs := #[.int .i64 0, .slice none 0 0, .slice none 0 0, .slice none 0 0, .int .i64 0]) ?_ 0 _ rfl; (with_reducible repeat (first | refine blk_drewN ?_ _ | refine blk_drew ?_ | refine blk_alloc ?_ _)); exact BK505.out) Try.underlying37 rfl (by kernel_rfl)) rfl ?_
    exact ⟨_, _, _, eT, by first | exact Kd.R_nil _ _ _ _ _ | exact Kd.N_nil _ _ _ _ _ | exact Kd.V_nil _ _ _ _ _ | exact Kd.Q_nil _ _ _ _ _ | exact Kd.S_nil _ _ _ _ _, by first | exact Kd.R_nil _ _ _ _ _ | exact Kd.N_nil _ _ _ _ _ | exact Kd.V_nil _ _ _ _ _ | exact Kd.Q_nil _ _ _ _ _ | exact Kd.S_nil _ _ _ _ _, by first | exact Kd.R_nil _ _ _ _ _ | exact Kd.N_nil _ _ _ _ _ | exact Kd.V_nil _ _ _ _ _ | exact Kd.Q_nil _ _ _ _ _ | exact Kd.S_nil _ _ _ _ _, bT1 HB GE505⟩
   ·
    replace c14 := Bool.eq_false_iff.mpr c14
    subst c14
    rw [if_neg (show ¬ (false = true) by decide)] at H
    obtain ⟨y509, hy509⟩ : ∃ y_ : List (S62), y_ = (([] : List (S62))) := ⟨_, rfl⟩
    replace H : (if y509.length + l1.length < 5864062014805 then ((some (([] : List (S62)) : List (S62))).bind fun y515 => (if y515.length + l2.length < 5864062014805 then (if 0 ≤ (l1.length : Int) then (if ((l1.length : Int) : Int).toNat ≤ 281474976710656 then (some (a0, (y509 ++ l1), (y515 ++ l2), (List.replicate ((l1.length : Int) : Int).toNat false), 0, true)) else (none)) else (none)) else (none))) else (none)) = some (r1, r2, r3, r4, r5, r6) := by first | (rw [hy509]; with_reducible exact H) | (have H2_ := (Option.bind_some _ _).symm.trans H; rw [hy509]; with_reducible exact H2_) | (have H2_ := (Option.bind_some _ _).symm.trans H; with_reducible exact H2_) | with_reducible exact H | (rw [hy509]; exact H) | exact H
    have Ny509 := mA hy509
    clear hy509
    by_cases c16 : y509.length + l1.length < 5864062014805
    ·
     rw [if_pos c16] at H
     have LMc16 := mA c16
     clear c16
     obtain ⟨y512, hy512⟩ : ∃ y_ : List (S62), y_ = (y509 ++ l1) := ⟨_, rfl⟩
     replace H : ((some (([] : List (S62)) : List (S62))).bind fun y515 => (if y515.length + l2.length < 5864062014805 then (if 0 ≤ (l1.length : Int) then (if ((l1.length : Int) : Int).toNat ≤ 281474976710656 then (some (a0, y512, (y515 ++ l2), (List.replicate ((l1.length : Int) : Int).toNat false), 0, true)) else (none)) else (none)) else (none))) = some (r1, r2, r3, r4, r5, r6) := by first | (rw [hy512]; with_reducible exact H) | (have H2_ := (Option.bind_some _ _).symm.trans H; rw [hy512]; with_reducible exact H2_) | (have H2_ := (Option.bind_some _ _).symm.trans H; with_reducible exact H2_) | with_reducible exact H | (rw [hy512]; exact H) | exact H
     have Ny512 := mA hy512
     clear hy512
     obtain ⟨y515, hy515⟩ : ∃ y_ : List (S62), y_ = (([] : List (S62))) := ⟨_, rfl⟩
     replace H : (if y515.length + l2.length < 5864062014805 then (if 0 ≤ (l1.length : Int) then (if ((l1.length : Int) : Int).toNat ≤ 281474976710656 then (some (a0, y512, (y515 ++ l2), (List.replicate ((l1.length : Int) : Int).toNat false), 0, true)) else (none)) else (none)) else (none)) = some (r1, r2, r3, r4, r5, r6) := by first | (rw [hy515]; with_reducible exact H) | (have H2_ := (Option.bind_some _ _).symm.trans H; rw [hy515]; with_reducible exact H2_) | (have H2_ := (Option.bind_some _ _).symm.trans H; with_reducible exact H2_) | with_reducible exact H | (rw [hy515]; exact H) | exact H
     have Ny515 := mA hy515
     clear hy515
     by_cases c17 : y515.length + l2.length < 5864062014805
     ·
      rw [if_pos c17] at H
      have LMc17 := mA c17
      clear c17
      obtain ⟨y518, hy518⟩ : ∃ y_ : List (S62), y_ = (y515 ++ l2) := ⟨_, rfl⟩
      replace H : (if 0 ≤ (l1.length : Int) then (if ((l1.length : Int) : Int).toNat ≤ 281474976710656 then (some (a0, y512, y518, (List.replicate ((l1.length : Int) : Int).toNat false), 0, true)) else (none)) else (none)) = some (r1, r2, r3, r4, r5, r6) := by first | (rw [hy518]; with_reducible exact H) | (have H2_ := (Option.bind_some _ _).symm.trans H; rw [hy518]; with_reducible exact H2_) | (have H2_ := (Option.bind_some _ _).symm.trans H; with_reducible exact H2_) | with_reducible exact H | (rw [hy518]; exact H) | exact H
      have Ny518 := mA hy518
      clear hy518
      by_cases c18 : 0 ≤ (l1.length : Int)
      ·
       rw [if_pos c18] at H
       have c18b0 := eq_true c18
       have c18b1 : decide (0 ≤ (l1.length : Int)) = true := decide_eq_true c18
       clear c18
       by_cases c19 : ((l1.length : Int) : Int).toNat ≤ 281474976710656
       ·
        rw [if_pos c19] at H
        have c19b0 := eq_true c19
        have c19b1 : decide (((l1.length : Int) : Int).toNat ≤ 281474976710656) = true := decide_eq_true c19
        clear c19
        obtain ⟨y521, hy521⟩ : ∃ y_ : List Bool, y_ = (List.replicate ((l1.length : Int) : Int).toNat false) := ⟨_, rfl⟩
        replace H : (some (a0, y512, y518, y521, 0, true)) = some (r1, r2, r3, r4, r5, r6) := by first | (rw [hy521]; with_reducible exact H) | (have H2_ := (Option.bind_some _ _).symm.trans H; rw [hy521]; with_reducible exact H2_) | (have H2_ := (Option.bind_some _ _).symm.trans H; with_reducible exact H2_) | with_reducible exact H | (rw [hy521]; exact H) | exact H
        have Ny521 := mA hy521
        clear hy521
        simp only [Option.some.injEq, Prod.mk.injEq] at H
        obtain ⟨rfl, rfl, rfl, rfl, rfl, rfl⟩ := H
        try go_wp2
        replace BK505 := mA (blk_drew BK505.out)
        replace HB := mA (below_drew1 HB.out)
        refine start_ (n := 13) (S := fun w' => True) (ds := []) #[false, false, false, false, false, false, false, false, false, false, false, false, false] (by kernel_rfl) rfl rfl trivial (fun hHeld => ?_); refine with_tabW spec_NewTask.tab3 spec_NewTask.bits3 (fun HT_ HW_ => ?_)
        generalize wc.drew = w20 at BK505 HB hHeld ⊢
        refine pureT (i := 0) (N := some 22) #[true, false, false, false, false, false, false, false, false, false, false, false, false] (any_of HT_.out (by kernel_rfl)) ?_
        refine pureT (i := 2) (N := some 24) #[true, false, true, false, false, false, false, false, false, false, false, false, false] (any_of HT_.out (by kernel_rfl)) ?_
        refine pureT (i := 5) (N := some 27) #[true, false, true, false, false, true, false, false, false, false, false, false, false] (any_of HT_.out (by kernel_rfl)) ?_
        refine pureT (i := 7) (N := some 29) #[true, false, true, false, false, true, false, true, false, false, false, false, false] (any_of HT_.out (by kernel_rfl)) ?_
        refine pureT (i := 8) (N := some 30) #[true, false, true, false, false, true, false, true, true, false, false, false, false] (any_of HT_.out (by kernel_rfl)) ?_
        refine join_ (σ := Value × Value × Value × Value × Value) 3 #[true, true, true, true, true, true, true, true, true, true, false, false, false] (fun s_ => [(23, s_.1), (25, s_.2.1), (26, s_.2.2.1), (28, s_.2.2.2.1), (31, s_.2.2.2.2)]) (fun s_ w' => (Kd.R k62 62 w' w.heap.size (fun k_ => some k_ ≠ (s_.2.2.2.1 : Value).ownBlock) s_.2.1 y512) ∧ (Kd.R k62 62 w' w.heap.size (fun k_ => some k_ ≠ (s_.2.1 : Value).ownBlock) s_.2.2.2.1 y518) ∧ (Kd.R Kd.bool 4 w' w.heap.size (fun _ => True) s_.2.2.2.2 y521) ∧ (w'.heap[gb505]? = some (.cells #[.int .i64 0, .slice none 0 0, .slice none 0 0, .slice none 0 0, .int .i64 0] 37 (0, 0))) ∧ (Below w.heap.size w w')) ?_ ?_
        rotate_left
        ·
         intro hJ1_3_4_6_9
         refine join_ (σ := Value × Value × Value × Value) 4 #[true, true, true, true, true, true, true, true, true, false, false, false, false] (fun s_ => [(23, s_.1), (25, s_.2.1), (26, s_.2.2.1), (28, s_.2.2.2)]) (fun s_ w' => (Kd.R k62 62 w' w.heap.size (fun k_ => some k_ ≠ (s_.2.2.2 : Value).ownBlock) s_.2.1 y512) ∧ (Kd.R k62 62 w' w.heap.size (fun k_ => some k_ ≠ (s_.2.1 : Value).ownBlock) s_.2.2.2 y518) ∧ (w'.heap[gb505]? = some (.cells #[.int .i64 0, .slice none 0 0, .slice none 0 0, .slice none 0 0, .int .i64 0] 37 (0, 0))) ∧ (Below w.heap.size w w')) ?_ ?_
         rotate_left
         ·
          intro hJ1_3_4_6
          refine join_ (σ := Value × Value × Value × Value) 4 #[true, true, true, true, true, true, false, true, true, true, false, false, false] (fun s_ => [(23, s_.1), (25, s_.2.1), (26, s_.2.2.1), (31, s_.2.2.2)]) (fun s_ w' => (Kd.R k62 62 w' w.heap.size (fun k_ => some k_ ≠ (s_.2.2.1 : Value).ownBlock) s_.2.1 y512) ∧ (Kd.R k62 62 w' w.heap.size (fun k_ => some k_ ≠ (s_.2.1 : Value).ownBlock) s_.2.2.1 y515) ∧ (Kd.R Kd.bool 4 w' w.heap.size (fun _ => True) s_.2.2.2 y521) ∧ (w'.heap[gb505]? = some (.cells #[.int .i64 0, .slice none 0 0, .slice none 0 0, .slice none 0 0, .int .i64 0] 37 (0, 0))) ∧ (Below w.heap.size w w')) ?_ ?_
          rotate_left
          ·
           intro hJ1_3_4_9
           refine join_ (σ := Value × Value × Value) 5 #[true, true, true, true, true, true, false, true, true, false, false, false, false] (fun s_ => [(23, s_.1), (25, s_.2.1), (26, s_.2.2)]) (fun s_ w' => (Kd.R k62 62 w' w.heap.size (fun k_ => some k_ ≠ (s_.2.2 : Value).ownBlock) s_.2.1 y512) ∧ (Kd.R k62 62 w' w.heap.size (fun k_ => some k_ ≠ (s_.2.1 : Value).ownBlock) s_.2.2 y515) ∧ (w'.heap[gb505]? = some (.cells #[.int .i64 0, .slice none 0 0, .slice none 0 0, .slice none 0 0, .int .i64 0] 37 (0, 0))) ∧ (Below w.heap.size w w')) ?_ ?_
           rotate_left
           ·
            intro hJ1_3_4
            refine join_ (σ := Value × Value × Value) 5 #[true, true, true, true, false, true, false, true, true, true, false, false, false] (fun s_ => [(23, s_.1), (25, s_.2.1), (31, s_.2.2)]) (fun s_ w' => (Kd.R k62 62 w' w.heap.size (fun _ => True) s_.2.1 y512) ∧ (Kd.R Kd.bool 4 w' w.heap.size (fun _ => True) s_.2.2 y521) ∧ (w'.heap[gb505]? = some (.cells #[.int .i64 0, .slice none 0 0, .slice none 0 0, .slice none 0 0, .int .i64 0] 37 (0, 0))) ∧ (Below w.heap.size w w')) ?_ ?_
            rotate_left
            ·
             intro hJ1_3_9
             refine join_ (σ := Value × Value × Value) 5 #[true, true, true, false, true, true, false, true, true, true, false, false, false] (fun s_ => [(23, s_.1), (26, s_.2.1), (31, s_.2.2)]) (fun s_ w' => (Kd.R k62 62 w' w.heap.size (fun k_ => some k_ ≠ (s_.2.1 : Value).ownBlock) s_.1 y509) ∧ (Kd.R k62 62 w' w.heap.size (fun k_ => some k_ ≠ (s_.1 : Value).ownBlock) s_.2.1 y515) ∧ (Kd.R Kd.bool 4 w' w.heap.size (fun _ => True) s_.2.2 y521) ∧ (w'.heap[gb505]? = some (.cells #[.int .i64 0, .slice none 0 0, .slice none 0 0, .slice none 0 0, .int .i64 0] 37 (0, 0))) ∧ (Below w.heap.size w w')) ?_ ?_
             rotate_left
             ·
              intro hJ1_4_9
              refine join_ (σ := Value × Value) 6 #[true, true, true, true, false, true, false, true, true, false, false, false, false] (fun s_ => [(23, s_.1), (25, s_.2)]) (fun s_ w' => (Kd.R k62 62 w' w.heap.size (fun _ => True) s_.2 y512) ∧ (w'.heap[gb505]? = some (.cells #[.int .i64 0, .slice none 0 0, .slice none 0 0, .slice none 0 0, .int .i64 0] 37 (0, 0))) ∧ (Below w.heap.size w w')) ?_ ?_
              rotate_left
              ·
               intro hJ1_3
               refine join_ (σ := Value × Value) 6 #[true, true, true, false, true, true, false, true, true, false, false, false, false] (fun s_ => [(23, s_.1), (26, s_.2)]) (fun s_ w' => (Kd.R k62 62 w' w.heap.size (fun k_ => some k_ ≠ (s_.2 : Value).ownBlock) s_.1 y509) ∧ (Kd.R k62 62 w' w.heap.size (fun k_ => some k_ ≠ (s_.1 : Value).ownBlock) s_.2 y515) ∧ (w'.heap[gb505]? = some (.cells #[.int .i64 0, .slice none 0 0, .slice none 0 0, .slice none 0 0, .int .i64 0] 37 (0, 0))) ∧ (Below w.heap.size w w')) ?_ ?_
               rotate_left
               ·
                intro hJ1_4
                refine join_ (σ := Value × Value) 6 #[true, true, true, false, false, true, false, true, true, true, false, false, false] (fun s_ => [(23, s_.1), (31, s_.2)]) (fun s_ w' => (Kd.R k62 62 w' w.heap.size (fun _ => True) s_.1 y509) ∧ (Kd.R Kd.bool 4 w' w.heap.size (fun _ => True) s_.2 y521) ∧ (w'.heap[gb505]? = some (.cells #[.int .i64 0, .slice none 0 0, .slice none 0 0, .slice none 0 0, .int .i64 0] 37 (0, 0))) ∧ (Below w.heap.size w w')) ?_ ?_
                rotate_left
                ·
                 intro hJ1_9
                 refine join_ (σ := Value × Value) 6 #[true, false, true, false, true, true, false, true, true, true, false, false, false] (fun s_ => [(26, s_.1), (31, s_.2)]) (fun s_ w' => (Kd.R k62 62 w' w.heap.size (fun _ => True) s_.1 y515) ∧ (Kd.R Kd.bool 4 w' w.heap.size (fun _ => True) s_.2 y521) ∧ (w'.heap[gb505]? = some (.cells #[.int .i64 0, .slice none 0 0, .slice none 0 0, .slice none 0 0, .int .i64 0] 37 (0, 0))) ∧ (Below w.heap.size w w')) ?_ ?_
                 rotate_left
                 ·
                  intro hJ4_9
                  refine join_ (σ := Value) 7 #[true, true, true, false, false, true, false, true, true, false, false, false, false] (fun s_ => [(23, s_)]) (fun s_ w' => (Kd.R k62 62 w' w.heap.size (fun _ => True) s_ y509) ∧ (w'.heap[gb505]? = some (.cells #[.int .i64 0, .slice none 0 0, .slice none 0 0, .slice none 0 0, .int .i64 0] 37 (0, 0))) ∧ (Below w.heap.size w w')) ?_ ?_
                  rotate_left
                  ·
                   intro hJ1
                   refine join_ (σ := Value) 7 #[true, false, true, false, true, true, false, true, true, false, false, false, false] (fun s_ => [(26, s_)]) (fun s_ w' => (Kd.R k62 62 w' w.heap.size (fun _ => True) s_ y515) ∧ (w'.heap[gb505]? = some (.cells #[.int .i64 0, .slice none 0 0, .slice none 0 0, .slice none 0 0, .int .i64 0] 37 (0, 0))) ∧ (Below w.heap.size w w')) ?_ ?_
                   rotate_left
                   ·
                    intro hJ4
                    refine join_ (σ := Value) 7 #[true, false, true, false, false, true, false, true, true, true, false, false, false] (fun s_ => [(31, s_)]) (fun s_ w' => (Kd.R Kd.bool 4 w' w.heap.size (fun _ => True) s_ y521) ∧ (w'.heap[gb505]? = some (.cells #[.int .i64 0, .slice none 0 0, .slice none 0 0, .slice none 0 0, .int .i64 0] 37 (0, 0))) ∧ (Below w.heap.size w w')) ?_ ?_
                    rotate_left
                    ·
                     intro hJ9
                     refine three_ (i := 1) (j := 4) (k := 9) (Ni := some 23) (Nj := some 26) (Nk := some 31) #[true, true, true, false, false, true, false, true, true, false, false, false, false] #[true, false, true, false, true, true, false, true, true, false, false, false, false] #[true, false, true, false, false, true, false, true, true, true, false, false, false] rfl rfl rfl rfl rfl rfl (three_of HT_.out (by kernel_rfl)) (by decide) (by decide) (by decide) (fun K hK => ?_) (fun K hK => ?_) (fun K hK => ?_)
                     ·
                      skip
                      refine Kd.R_lit_step k62 _ 62 ?hg (N := 23) ?hd (xs := ([] : List (S62))) (inner := []) (ok := fun _ => True) (okp := fun _ => True) ?hr ?hp (fun _ hk => hk) trivial (Below.refl _ _) (Nat.le_refl _) (by simp) ?_; (case hd => rfl); (case hg => rfl); (case hr => first | (go_simp; done) | (go_simp; rfl)); (case hp => exact (Reps.none _ _))
                      intro v510 w21 ho22 hb hg_ hnew_
                      clear hg_ hnew_
                      (first | rw [← Ny509.out] at ho22 | (simp only [Int.reduceToNat] at ho22; rw [← Ny509.out] at ho22))
                      have HO511 := mA (Kd.R_lower ho22 (below_size (bT1 HB GE505)))
                      replace BK505 := kB BK505 hb
                      replace HB := mA (below_step (bT1 HB GE505) hb)
                      clear hb ho22
                      refine hK.out _ _ trivial (fun hHeld => ?_)
                      clear hK K
                      refine norm_ (a' := ?_) ?_ ?_
                      rotate_left
                      ·
                       show Act.put _ (some 23) _ = _
                       simp only [Act.put, List.setIfInBounds_toArray, List.set_cons_zero, List.set_cons_succ, i64_w, i32_w]
                       rfl
                      exact norm_ (by first | (simp only [putAll, Act.put, List.setIfInBounds_toArray, List.set_cons_zero, List.set_cons_succ]; done) | (simp only [putAll, Act.put, List.setIfInBounds_toArray, List.set_cons_zero, List.set_cons_succ]; rfl)) (hJ1 (v510) _ ⟨(rTR HO511), (kT BK505), (bT1 HB GE505)⟩)
                     ·
                      skip
                      refine Kd.R_lit_step k62 _ 62 ?hg (N := 26) ?hd (xs := ([] : List (S62))) (inner := []) (ok := fun _ => True) (okp := fun _ => True) ?hr ?hp (fun _ hk => hk) trivial (Below.refl _ _) (Nat.le_refl _) (by simp) ?_; (case hd => rfl); (case hg => rfl); (case hr => first | (go_simp; done) | (go_simp; rfl)); (case hp => exact (Reps.none _ _))
                      intro v516 w21 ho22 hb hg_ hnew_
                      clear hg_ hnew_
                      (first | rw [← Ny515.out] at ho22 | (simp only [Int.reduceToNat] at ho22; rw [← Ny515.out] at ho22))
                      have HO517 := mA (Kd.R_lower ho22 (below_size (bT1 HB GE505)))
                      replace BK505 := kB BK505 hb
                      replace HB := mA (below_step (bT1 HB GE505) hb)
                      clear hb ho22
                      refine hK.out _ _ trivial (fun hHeld => ?_)
                      clear hK K
                      refine norm_ (a' := ?_) ?_ ?_
                      rotate_left
                      ·
                       show Act.put _ (some 26) _ = _
                       simp only [Act.put, List.setIfInBounds_toArray, List.set_cons_zero, List.set_cons_succ, i64_w, i32_w]
                       rfl
                      exact norm_ (by first | (simp only [putAll, Act.put, List.setIfInBounds_toArray, List.set_cons_zero, List.set_cons_succ]; done) | (simp only [putAll, Act.put, List.setIfInBounds_toArray, List.set_cons_zero, List.set_cons_succ]; rfl)) (hJ4 (v516) _ ⟨(rTR HO517), (kT BK505), (bT1 HB GE505)⟩)
                     ·
                      skip
                      refine Kd.R_make_step Kd.bool _ 4 (by rfl) (N := 31) rfl 31 _ _ rfl (l1.length : Int) rfl rfl Try.underlying31 (.bool false) 1 info4 rfl (by decide) (by omega) false (ok := fun _ => True) (okp := fun _ => True) rfl (fun _ hk => hk) trivial (of_decide_eq_true aT) (Nat.le_trans (Nat.mul_le_mul_right _ (of_decide_eq_true aT : (l1.length : Int).toNat ≤ 281474976710656)) (by omega)) (Below.refl _ _) (Nat.le_refl _) ?_
                      intro v522 w21 ho22 hb hg_ hnew_
                      clear hg_ hnew_
                      (first | rw [← Ny521.out] at ho22 | (simp only [Int.reduceToNat] at ho22; rw [← Ny521.out] at ho22))
                      have HO523 := mA (Kd.R_lower ho22 (below_size (bT1 HB GE505)))
                      replace BK505 := kB BK505 hb
                      replace HB := mA (below_step (bT1 HB GE505) hb)
                      clear hb ho22
                      refine hK.out _ _ trivial (fun hHeld => ?_)
                      clear hK K
                      refine norm_ (a' := ?_) ?_ ?_
                      rotate_left
                      ·
                       show Act.put _ (some 31) _ = _
                       simp only [Act.put, List.setIfInBounds_toArray, List.set_cons_zero, List.set_cons_succ, i64_w, i32_w]
                       rfl
                      exact norm_ (by first | (simp only [putAll, Act.put, List.setIfInBounds_toArray, List.set_cons_zero, List.set_cons_succ]; done) | (simp only [putAll, Act.put, List.setIfInBounds_toArray, List.set_cons_zero, List.set_cons_succ]; rfl)) (hJ9 (v522) _ ⟨(rTR HO523), (kT BK505), (bT1 HB GE505)⟩)
                    ·
                     skip
                     rintro v522 w23 ⟨h0_, h1_, h2_⟩
                     have n0_ : Aside0 (Kd.R Kd.bool 4 w23 w.heap.size (fun _ => True) v522 y521) := ⟨h0_⟩
                     have n1_ : Aside0 (w23.heap[gb505]? = some (.cells #[.int .i64 0, .slice none 0 0, .slice none 0 0, .slice none 0 0, .int .i64 0] 37 (0, 0))) := ⟨h1_⟩
                     have n2_ : Aside0 (Below w.heap.size w w23) := ⟨h2_⟩
                     clear BK505
                     clear HB
                     clear h0_ h1_ h2_
                     have HO523 := n0_
                     have BK505 := n1_
                     have HB := n2_
                     clear n0_ n1_ n2_
                     have hHeld := trivial
                     refine norm_ (a' := ?_) ?_ ?_
                     rotate_left
                     ·
                      simp only [putAll, Act.put, List.setIfInBounds_toArray, List.set_cons_zero, List.set_cons_succ]
                      rfl
                     refine two_ (i := 1) (j := 4) (Ni := some 23) (Nj := some 26) #[true, true, true, false, false, true, false, true, true, true, false, false, false] #[true, false, true, false, true, true, false, true, true, true, false, false, false] rfl rfl rfl rfl (two_of HT_.out (by kernel_rfl)) (by decide) (by decide) (fun K hK => ?_) (fun K hK => ?_)
                     ·
                      skip
                      refine Kd.R_lit_step k62 _ 62 ?hg (N := 23) ?hd (xs := ([] : List (S62))) (inner := []) (ok := fun _ => True) (okp := fun _ => True) ?hr ?hp (fun _ hk => hk) trivial (Below.refl _ _) (Nat.le_refl _) (by simp) ?_; (case hd => rfl); (case hg => rfl); (case hr => first | (go_simp; done) | (go_simp; rfl)); (case hp => exact (Reps.none _ _))
                      intro v510 w24 ho25 hb hg_ hnew_
                      clear hg_ hnew_
                      (first | rw [← Ny509.out] at ho25 | (simp only [Int.reduceToNat] at ho25; rw [← Ny509.out] at ho25))
                      replace HO523 := rBR HO523 hb
                      have HO511 := mA (Kd.R_lower ho25 (below_size (bT1 HB GE505)))
                      replace BK505 := kB BK505 hb
                      replace HB := mA (below_step (bT1 HB GE505) hb)
                      clear hb ho25
                      refine hK.out _ _ trivial (fun hHeld => ?_)
                      clear hK K
                      refine norm_ (a' := ?_) ?_ ?_
                      rotate_left
                      ·
                       show Act.put _ (some 23) _ = _
                       simp only [Act.put, List.setIfInBounds_toArray, List.set_cons_zero, List.set_cons_succ, i64_w, i32_w]
                       rfl
                      exact norm_ (by first | (simp only [putAll, Act.put, List.setIfInBounds_toArray, List.set_cons_zero, List.set_cons_succ]; done) | (simp only [putAll, Act.put, List.setIfInBounds_toArray, List.set_cons_zero, List.set_cons_succ]; rfl)) (hJ1_9 (v510, v522) _ ⟨(rTR HO511), (rTR HO523), (kT BK505), (bT1 HB GE505)⟩)
                     ·
                      skip
                      refine Kd.R_lit_step k62 _ 62 ?hg (N := 26) ?hd (xs := ([] : List (S62))) (inner := []) (ok := fun _ => True) (okp := fun _ => True) ?hr ?hp (fun _ hk => hk) trivial (Below.refl _ _) (Nat.le_refl _) (by simp) ?_; (case hd => rfl); (case hg => rfl); (case hr => first | (go_simp; done) | (go_simp; rfl)); (case hp => exact (Reps.none _ _))
                      intro v516 w24 ho25 hb hg_ hnew_
                      clear hg_ hnew_
                      (first | rw [← Ny515.out] at ho25 | (simp only [Int.reduceToNat] at ho25; rw [← Ny515.out] at ho25))
                      replace HO523 := rBR HO523 hb
                      have HO517 := mA (Kd.R_lower ho25 (below_size (bT1 HB GE505)))
                      replace BK505 := kB BK505 hb
                      replace HB := mA (below_step (bT1 HB GE505) hb)
                      clear hb ho25
                      refine hK.out _ _ trivial (fun hHeld => ?_)
                      clear hK K
                      refine norm_ (a' := ?_) ?_ ?_
                      rotate_left
                      ·
                       show Act.put _ (some 26) _ = _
                       simp only [Act.put, List.setIfInBounds_toArray, List.set_cons_zero, List.set_cons_succ, i64_w, i32_w]
                       rfl
                      exact norm_ (by first | (simp only [putAll, Act.put, List.setIfInBounds_toArray, List.set_cons_zero, List.set_cons_succ]; done) | (simp only [putAll, Act.put, List.setIfInBounds_toArray, List.set_cons_zero, List.set_cons_succ]; rfl)) (hJ4_9 (v516, v522) _ ⟨(rTR HO517), (rTR HO523), (kT BK505), (bT1 HB GE505)⟩)
                   ·
                    skip
                    rintro v516 w23 ⟨h0_, h1_, h2_⟩
                    have n0_ : Aside0 (Kd.R k62 62 w23 w.heap.size (fun _ => True) v516 y515) := ⟨h0_⟩
                    have n1_ : Aside0 (w23.heap[gb505]? = some (.cells #[.int .i64 0, .slice none 0 0, .slice none 0 0, .slice none 0 0, .int .i64 0] 37 (0, 0))) := ⟨h1_⟩
                    have n2_ : Aside0 (Below w.heap.size w w23) := ⟨h2_⟩
                    clear BK505
                    clear HB
                    clear h0_ h1_ h2_
                    have HO517 := n0_
                    have BK505 := n1_
                    have HB := n2_
                    clear n0_ n1_ n2_
                    have hHeld := trivial
                    refine norm_ (a' := ?_) ?_ ?_
                    rotate_left
                    ·
                     simp only [putAll, Act.put, List.setIfInBounds_toArray, List.set_cons_zero, List.set_cons_succ]
                     rfl
                    refine two_ (i := 1) (j := 9) (Ni := some 23) (Nj := some 31) #[true, true, true, false, true, true, false, true, true, false, false, false, false] #[true, false, true, false, true, true, false, true, true, true, false, false, false] rfl rfl rfl rfl (two_of HT_.out (by kernel_rfl)) (by decide) (by decide) (fun K hK => ?_) (fun K hK => ?_)
                    ·
                     skip
                     refine Kd.R_lit_step k62 _ 62 ?hg (N := 23) ?hd (xs := ([] : List (S62))) (inner := []) (ok := fun _ => True) (okp := fun _ => True) ?hr ?hp (fun _ hk => hk) trivial (Below.refl _ _) (Nat.le_refl _) (by simp) ?_; (case hd => rfl); (case hg => rfl); (case hr => first | (go_simp; done) | (go_simp; rfl)); (case hp => exact (Reps.none _ _))
                     intro v510 w24 ho25 hb hg_ hnew_
                     clear hg_ hnew_
                     (first | rw [← Ny509.out] at ho25 | (simp only [Int.reduceToNat] at ho25; rw [← Ny509.out] at ho25))
                     have HO511 := mA (Kd.R_lower (Kd.R_new' ho25 (Kd.R_lt (rTR HO517))) (below_size (bT1 HB GE505)))
                     replace HO517 := mA (Kd.R_elder' (rTR HO517) (Kd.R_base ho25) hb)
                     replace BK505 := kB BK505 hb
                     replace HB := mA (below_step (bT1 HB GE505) hb)
                     clear hb ho25
                     refine hK.out _ _ trivial (fun hHeld => ?_)
                     clear hK K
                     refine norm_ (a' := ?_) ?_ ?_
                     rotate_left
                     ·
                      show Act.put _ (some 23) _ = _
                      simp only [Act.put, List.setIfInBounds_toArray, List.set_cons_zero, List.set_cons_succ, i64_w, i32_w]
                      rfl
                     exact norm_ (by first | (simp only [putAll, Act.put, List.setIfInBounds_toArray, List.set_cons_zero, List.set_cons_succ]; done) | (simp only [putAll, Act.put, List.setIfInBounds_toArray, List.set_cons_zero, List.set_cons_succ]; rfl)) (hJ1_4 (v510, v516) _ ⟨(by (with_reducible repeat (first | apply Kd.R_alloc | apply Kd.R_drewN | apply Kd.R_drew)); exact Kd.R_mono HO511.out (fun _ hk => hk.2)), (by (with_reducible repeat (first | apply Kd.R_alloc | apply Kd.R_drewN | apply Kd.R_drew)); exact Kd.R_mono HO517.out (fun _ hk => hk.2)), (kT BK505), (bT1 HB GE505)⟩)
                    ·
                     skip
                     refine Kd.R_make_step Kd.bool _ 4 (by rfl) (N := 31) rfl 31 _ _ rfl (l1.length : Int) rfl rfl Try.underlying31 (.bool false) 1 info4 rfl (by decide) (by omega) false (ok := fun _ => True) (okp := fun _ => True) rfl (fun _ hk => hk) trivial (of_decide_eq_true aT) (Nat.le_trans (Nat.mul_le_mul_right _ (of_decide_eq_true aT : (l1.length : Int).toNat ≤ 281474976710656)) (by omega)) (Below.refl _ _) (Nat.le_refl _) ?_
                     intro v522 w24 ho25 hb hg_ hnew_
                     clear hg_ hnew_
                     (first | rw [← Ny521.out] at ho25 | (simp only [Int.reduceToNat] at ho25; rw [← Ny521.out] at ho25))
                     replace HO517 := rBR HO517 hb
                     have HO523 := mA (Kd.R_lower ho25 (below_size (bT1 HB GE505)))
                     replace BK505 := kB BK505 hb
                     replace HB := mA (below_step (bT1 HB GE505) hb)
                     clear hb ho25
                     refine hK.out _ _ trivial (fun hHeld => ?_)
                     clear hK K
                     refine norm_ (a' := ?_) ?_ ?_
                     rotate_left
                     ·
                      show Act.put _ (some 31) _ = _
                      simp only [Act.put, List.setIfInBounds_toArray, List.set_cons_zero, List.set_cons_succ, i64_w, i32_w]
                      rfl
                     exact norm_ (by first | (simp only [putAll, Act.put, List.setIfInBounds_toArray, List.set_cons_zero, List.set_cons_succ]; done) | (simp only [putAll, Act.put, List.setIfInBounds_toArray, List.set_cons_zero, List.set_cons_succ]; rfl)) (hJ4_9 (v516, v522) _ ⟨(rTR HO517), (rTR HO523), (kT BK505), (bT1 HB GE505)⟩)
                  ·
                   skip
                   rintro v510 w23 ⟨h0_, h1_, h2_⟩
                   have n0_ : Aside0 (Kd.R k62 62 w23 w.heap.size (fun _ => True) v510 y509) := ⟨h0_⟩
                   have n1_ : Aside0 (w23.heap[gb505]? = some (.cells #[.int .i64 0, .slice none 0 0, .slice none 0 0, .slice none 0 0, .int .i64 0] 37 (0, 0))) := ⟨h1_⟩
                   have n2_ : Aside0 (Below w.heap.size w w23) := ⟨h2_⟩
                   clear BK505
                   clear HB
                   clear h0_ h1_ h2_
                   have HO511 := n0_
                   have BK505 := n1_
                   have HB := n2_
                   clear n0_ n1_ n2_
                   have hHeld := trivial
                   refine norm_ (a' := ?_) ?_ ?_
                   rotate_left
                   ·
                    simp only [putAll, Act.put, List.setIfInBounds_toArray, List.set_cons_zero, List.set_cons_succ]
                    rfl
                   refine three_ (i := 3) (j := 4) (k := 9) (Ni := some 25) (Nj := some 26) (Nk := some 31) #[true, true, true, true, false, true, false, true, true, false, false, false, false] #[true, true, true, false, true, true, false, true, true, false, false, false, false] #[true, true, true, false, false, true, false, true, true, true, false, false, false] rfl rfl rfl rfl rfl rfl (three_of HT_.out (by kernel_rfl)) (by decide) (by decide) (by decide) (fun K hK => ?_) (fun K hK => ?_) (fun K hK => ?_)
                   ·
                    skip
                    refine Kd.R_append_rows_step k62 (w0 := w) w.heap.size (by rfl) (.tmp 23) (.tmp 24) 24 62 (.agg #[(.int .i64 0), (.int .i64 0), (.int .i64 0)]) 24 rfl Try.underlying24 info62 rfl (by decide) (by omega) v510 y509 l1 _ _ _ (fun _ => True) (fun _ => False) rfl rfl ?aO ?aR (fun _ _ h => h) (fun _ h => h.elim) ?aF ?aB ?aS ?aL ?_
                    (case aR => exact cT (Kd.C_below HR1.out HB.out))
                    (case aB => exact (bT1 HB GE505))
                    (case aF => exact (fun _ _ => trivial))
                    (case aO => exact (rTR HO511))
                    (case aS => exact (below_size (bT1 HB GE505)))
                    (case aL => have := LMc16.out; omega)
                    intro v513 w24 ho hb hg hat
                    rw [← Ny512.out] at ho
                    replace BK505 := mA (blk_grown (g := gb505) (o := .cells #[.int .i64 0, .slice none 0 0, .slice none 0 0, .slice none 0 0, .int .i64 0] 37 (0, 0)) (kT BK505) hg (Kd.R_ne HO511.out BK505.out (by decide)))
                    replace HB := mA (hb)
                    have HO514 := mA (ho)
                    clear HO511
                    clear ho hb hg hat
                    refine hK.out _ _ trivial (fun hHeld => ?_)
                    clear hK K
                    refine norm_ (a' := ?_) ?_ ?_
                    rotate_left
                    ·
                     show Act.put _ (some 25) _ = _
                     simp only [Act.put, List.setIfInBounds_toArray, List.set_cons_zero, List.set_cons_succ, i64_w, i32_w]
                     rfl
                    exact norm_ (by first | (simp only [putAll, Act.put, List.setIfInBounds_toArray, List.set_cons_zero, List.set_cons_succ]; done) | (simp only [putAll, Act.put, List.setIfInBounds_toArray, List.set_cons_zero, List.set_cons_succ]; rfl)) (hJ1_3 (v510, v513) _ ⟨(rTR HO514), (kT BK505), (bT1 HB GE505)⟩)
                   ·
                    skip
                    refine Kd.R_lit_step k62 _ 62 ?hg (N := 26) ?hd (xs := ([] : List (S62))) (inner := []) (ok := fun _ => True) (okp := fun _ => True) ?hr ?hp (fun _ hk => hk) trivial (Below.refl _ _) (Nat.le_refl _) (by simp) ?_; (case hd => rfl); (case hg => rfl); (case hr => first | (go_simp; done) | (go_simp; rfl)); (case hp => exact (Reps.none _ _))
                    intro v516 w24 ho25 hb hg_ hnew_
                    clear hg_ hnew_
                    (first | rw [← Ny515.out] at ho25 | (simp only [Int.reduceToNat] at ho25; rw [← Ny515.out] at ho25))
                    have HO517 := mA (Kd.R_lower (Kd.R_new' ho25 (Kd.R_lt (rTR HO511))) (below_size (bT1 HB GE505)))
                    replace HO511 := mA (Kd.R_elder' (rTR HO511) (Kd.R_base ho25) hb)
                    replace BK505 := kB BK505 hb
                    replace HB := mA (below_step (bT1 HB GE505) hb)
                    clear hb ho25
                    refine hK.out _ _ trivial (fun hHeld => ?_)
                    clear hK K
                    refine norm_ (a' := ?_) ?_ ?_
                    rotate_left
                    ·
                     show Act.put _ (some 26) _ = _
                     simp only [Act.put, List.setIfInBounds_toArray, List.set_cons_zero, List.set_cons_succ, i64_w, i32_w]
                     rfl
                    exact norm_ (by first | (simp only [putAll, Act.put, List.setIfInBounds_toArray, List.set_cons_zero, List.set_cons_succ]; done) | (simp only [putAll, Act.put, List.setIfInBounds_toArray, List.set_cons_zero, List.set_cons_succ]; rfl)) (hJ1_4 (v510, v516) _ ⟨(by (with_reducible repeat (first | apply Kd.R_alloc | apply Kd.R_drewN | apply Kd.R_drew)); exact Kd.R_mono HO511.out (fun _ hk => hk.2)), (by (with_reducible repeat (first | apply Kd.R_alloc | apply Kd.R_drewN | apply Kd.R_drew)); exact Kd.R_mono HO517.out (fun _ hk => hk.2)), (kT BK505), (bT1 HB GE505)⟩)
                   ·
                    skip
                    refine Kd.R_make_step Kd.bool _ 4 (by rfl) (N := 31) rfl 31 _ _ rfl (l1.length : Int) rfl rfl Try.underlying31 (.bool false) 1 info4 rfl (by decide) (by omega) false (ok := fun _ => True) (okp := fun _ => True) rfl (fun _ hk => hk) trivial (of_decide_eq_true aT) (Nat.le_trans (Nat.mul_le_mul_right _ (of_decide_eq_true aT : (l1.length : Int).toNat ≤ 281474976710656)) (by omega)) (Below.refl _ _) (Nat.le_refl _) ?_
                    intro v522 w24 ho25 hb hg_ hnew_
                    clear hg_ hnew_
                    (first | rw [← Ny521.out] at ho25 | (simp only [Int.reduceToNat] at ho25; rw [← Ny521.out] at ho25))
                    replace HO511 := rBR HO511 hb
                    have HO523 := mA (Kd.R_lower ho25 (below_size (bT1 HB GE505)))
                    replace BK505 := kB BK505 hb
                    replace HB := mA (below_step (bT1 HB GE505) hb)
                    clear hb ho25
                    refine hK.out _ _ trivial (fun hHeld => ?_)
                    clear hK K
                    refine norm_ (a' := ?_) ?_ ?_
                    rotate_left
                    ·
                     show Act.put _ (some 31) _ = _
                     simp only [Act.put, List.setIfInBounds_toArray, List.set_cons_zero, List.set_cons_succ, i64_w, i32_w]
                     rfl
                    exact norm_ (by first | (simp only [putAll, Act.put, List.setIfInBounds_toArray, List.set_cons_zero, List.set_cons_succ]; done) | (simp only [putAll, Act.put, List.setIfInBounds_toArray, List.set_cons_zero, List.set_cons_succ]; rfl)) (hJ1_9 (v510, v522) _ ⟨(rTR HO511), (rTR HO523), (kT BK505), (bT1 HB GE505)⟩)
                 ·
                  skip
                  rintro ⟨v516, v522⟩ w25 ⟨h0_, h1_, h2_, h3_⟩
                  have n0_ : Aside0 (Kd.R k62 62 w25 w.heap.size (fun _ => True) v516 y515) := ⟨h0_⟩
                  have n1_ : Aside0 (Kd.R Kd.bool 4 w25 w.heap.size (fun _ => True) v522 y521) := ⟨h1_⟩
                  have n2_ : Aside0 (w25.heap[gb505]? = some (.cells #[.int .i64 0, .slice none 0 0, .slice none 0 0, .slice none 0 0, .int .i64 0] 37 (0, 0))) := ⟨h2_⟩
                  have n3_ : Aside0 (Below w.heap.size w w25) := ⟨h3_⟩
                  clear BK505
                  clear HB
                  clear h0_ h1_ h2_ h3_
                  have HO517 := n0_
                  have HO523 := n1_
                  have BK505 := n2_
                  have HB := n3_
                  clear n0_ n1_ n2_ n3_
                  have hHeld := trivial
                  refine norm_ (a' := ?_) ?_ ?_
                  rotate_left
                  ·
                   simp only [putAll, Act.put, List.setIfInBounds_toArray, List.set_cons_zero, List.set_cons_succ]
                   rfl
                  refine one_ (i := 1) (N := some 23) #[true, true, true, false, true, true, false, true, true, true, false, false, false] rfl rfl (one_of HT_.out (by kernel_rfl)) (by decide) (fun K hK => ?_)
                  refine Kd.R_lit_step k62 _ 62 ?hg (N := 23) ?hd (xs := ([] : List (S62))) (inner := []) (ok := fun _ => True) (okp := fun _ => True) ?hr ?hp (fun _ hk => hk) trivial (Below.refl _ _) (Nat.le_refl _) (by simp) ?_; (case hd => rfl); (case hg => rfl); (case hr => first | (go_simp; done) | (go_simp; rfl)); (case hp => exact (Reps.none _ _))
                  intro v510 w26 ho27 hb hg_ hnew_
                  clear hg_ hnew_
                  (first | rw [← Ny509.out] at ho27 | (simp only [Int.reduceToNat] at ho27; rw [← Ny509.out] at ho27))
                  replace HO523 := rBR HO523 hb
                  have HO511 := mA (Kd.R_lower (Kd.R_new' ho27 (Kd.R_lt (rTR HO517))) (below_size (bT1 HB GE505)))
                  replace HO517 := mA (Kd.R_elder' (rTR HO517) (Kd.R_base ho27) hb)
                  replace BK505 := kB BK505 hb
                  replace HB := mA (below_step (bT1 HB GE505) hb)
                  clear hb ho27
                  refine hK.out _ _ trivial (fun hHeld => ?_)
                  clear hK K
                  refine norm_ (a' := ?_) ?_ ?_
                  rotate_left
                  ·
                   show Act.put _ (some 23) _ = _
                   simp only [Act.put, List.setIfInBounds_toArray, List.set_cons_zero, List.set_cons_succ, i64_w, i32_w]
                   rfl
                  exact norm_ (by first | (simp only [putAll, Act.put, List.setIfInBounds_toArray, List.set_cons_zero, List.set_cons_succ]; done) | (simp only [putAll, Act.put, List.setIfInBounds_toArray, List.set_cons_zero, List.set_cons_succ]; rfl)) (hJ1_4_9 (v510, v516, v522) _ ⟨(by (with_reducible repeat (first | apply Kd.R_alloc | apply Kd.R_drewN | apply Kd.R_drew)); exact Kd.R_mono HO511.out (fun _ hk => hk.2)), (by (with_reducible repeat (first | apply Kd.R_alloc | apply Kd.R_drewN | apply Kd.R_drew)); exact Kd.R_mono HO517.out (fun _ hk => hk.2)), (rTR HO523), (kT BK505), (bT1 HB GE505)⟩)
                ·
                 skip
                 rintro ⟨v510, v522⟩ w25 ⟨h0_, h1_, h2_, h3_⟩
                 have n0_ : Aside0 (Kd.R k62 62 w25 w.heap.size (fun _ => True) v510 y509) := ⟨h0_⟩
                 have n1_ : Aside0 (Kd.R Kd.bool 4 w25 w.heap.size (fun _ => True) v522 y521) := ⟨h1_⟩
                 have n2_ : Aside0 (w25.heap[gb505]? = some (.cells #[.int .i64 0, .slice none 0 0, .slice none 0 0, .slice none 0 0, .int .i64 0] 37 (0, 0))) := ⟨h2_⟩
                 have n3_ : Aside0 (Below w.heap.size w w25) := ⟨h3_⟩
                 clear BK505
                 clear HB
                 clear h0_ h1_ h2_ h3_
                 have HO511 := n0_
                 have HO523 := n1_
                 have BK505 := n2_
                 have HB := n3_
                 clear n0_ n1_ n2_ n3_
                 have hHeld := trivial
                 refine norm_ (a' := ?_) ?_ ?_
                 rotate_left
                 ·
                  simp only [putAll, Act.put, List.setIfInBounds_toArray, List.set_cons_zero, List.set_cons_succ]
                  rfl
                 refine two_ (i := 3) (j := 4) (Ni := some 25) (Nj := some 26) #[true, true, true, true, false, true, false, true, true, true, false, false, false] #[true, true, true, false, true, true, false, true, true, true, false, false, false] rfl rfl rfl rfl (two_of HT_.out (by kernel_rfl)) (by decide) (by decide) (fun K hK => ?_) (fun K hK => ?_)
                 ·
                  skip
                  refine Kd.R_append_rows_step k62 (w0 := w) w.heap.size (by rfl) (.tmp 23) (.tmp 24) 24 62 (.agg #[(.int .i64 0), (.int .i64 0), (.int .i64 0)]) 24 rfl Try.underlying24 info62 rfl (by decide) (by omega) v510 y509 l1 _ _ _ (fun _ => True) (fun _ => False) rfl rfl ?aO ?aR (fun _ _ h => h) (fun _ h => h.elim) ?aF ?aB ?aS ?aL ?_
                  (case aR => exact cT (Kd.C_below HR1.out HB.out))
                  (case aB => exact (bT1 HB GE505))
                  (case aF => exact (fun _ _ => trivial))
                  (case aO => exact (rTR HO511))
                  (case aS => exact (below_size (bT1 HB GE505)))
                  (case aL => have := LMc16.out; omega)
                  intro v513 w26 ho hb hg hat
                  rw [← Ny512.out] at ho
                  replace BK505 := mA (blk_grown (g := gb505) (o := .cells #[.int .i64 0, .slice none 0 0, .slice none 0 0, .slice none 0 0, .int .i64 0] 37 (0, 0)) (kT BK505) hg (Kd.R_ne HO511.out BK505.out (by decide)))
                  replace HO523 := mA (Kd.R_over' (rTR HO523) (Kd.R_typed (rTR HO511)) (by decide) hg)
                  replace HB := mA (hb)
                  have HO514 := mA (ho)
                  clear HO511
                  clear ho hb hg hat
                  refine hK.out _ _ trivial (fun hHeld => ?_)
                  clear hK K
                  refine norm_ (a' := ?_) ?_ ?_
                  rotate_left
                  ·
                   show Act.put _ (some 25) _ = _
                   simp only [Act.put, List.setIfInBounds_toArray, List.set_cons_zero, List.set_cons_succ, i64_w, i32_w]
                   rfl
                  exact norm_ (by first | (simp only [putAll, Act.put, List.setIfInBounds_toArray, List.set_cons_zero, List.set_cons_succ]; done) | (simp only [putAll, Act.put, List.setIfInBounds_toArray, List.set_cons_zero, List.set_cons_succ]; rfl)) (hJ1_3_9 (v510, v513, v522) _ ⟨(rTR HO514), (rTR HO523), (kT BK505), (bT1 HB GE505)⟩)
                 ·
                  skip
                  refine Kd.R_lit_step k62 _ 62 ?hg (N := 26) ?hd (xs := ([] : List (S62))) (inner := []) (ok := fun _ => True) (okp := fun _ => True) ?hr ?hp (fun _ hk => hk) trivial (Below.refl _ _) (Nat.le_refl _) (by simp) ?_; (case hd => rfl); (case hg => rfl); (case hr => first | (go_simp; done) | (go_simp; rfl)); (case hp => exact (Reps.none _ _))
                  intro v516 w26 ho27 hb hg_ hnew_
                  clear hg_ hnew_
                  (first | rw [← Ny515.out] at ho27 | (simp only [Int.reduceToNat] at ho27; rw [← Ny515.out] at ho27))
                  replace HO523 := rBR HO523 hb
                  have HO517 := mA (Kd.R_lower (Kd.R_new' ho27 (Kd.R_lt (rTR HO511))) (below_size (bT1 HB GE505)))
                  replace HO511 := mA (Kd.R_elder' (rTR HO511) (Kd.R_base ho27) hb)
                  replace BK505 := kB BK505 hb
                  replace HB := mA (below_step (bT1 HB GE505) hb)
                  clear hb ho27
                  refine hK.out _ _ trivial (fun hHeld => ?_)
                  clear hK K
                  refine norm_ (a' := ?_) ?_ ?_
                  rotate_left
                  ·
                   show Act.put _ (some 26) _ = _
                   simp only [Act.put, List.setIfInBounds_toArray, List.set_cons_zero, List.set_cons_succ, i64_w, i32_w]
                   rfl
                  exact norm_ (by first | (simp only [putAll, Act.put, List.setIfInBounds_toArray, List.set_cons_zero, List.set_cons_succ]; done) | (simp only [putAll, Act.put, List.setIfInBounds_toArray, List.set_cons_zero, List.set_cons_succ]; rfl)) (hJ1_4_9 (v510, v516, v522) _ ⟨(by (with_reducible repeat (first | apply Kd.R_alloc | apply Kd.R_drewN | apply Kd.R_drew)); exact Kd.R_mono HO511.out (fun _ hk => hk.2)), (by (with_reducible repeat (first | apply Kd.R_alloc | apply Kd.R_drewN | apply Kd.R_drew)); exact Kd.R_mono HO517.out (fun _ hk => hk.2)), (rTR HO523), (kT BK505), (bT1 HB GE505)⟩)
               ·
                skip
                rintro ⟨v510, v516⟩ w25 ⟨h0_, h1_, h2_, h3_⟩
                have n0_ : Aside0 (Kd.R k62 62 w25 w.heap.size (fun k_ => some k_ ≠ (v516 : Value).ownBlock) v510 y509) := ⟨h0_⟩
                have n1_ : Aside0 (Kd.R k62 62 w25 w.heap.size (fun k_ => some k_ ≠ (v510 : Value).ownBlock) v516 y515) := ⟨h1_⟩
                have n2_ : Aside0 (w25.heap[gb505]? = some (.cells #[.int .i64 0, .slice none 0 0, .slice none 0 0, .slice none 0 0, .int .i64 0] 37 (0, 0))) := ⟨h2_⟩
                have n3_ : Aside0 (Below w.heap.size w w25) := ⟨h3_⟩
                clear BK505
                clear HB
                clear h0_ h1_ h2_ h3_
                have HO511 := n0_
                have HO517 := n1_
                have BK505 := n2_
                have HB := n3_
                clear n0_ n1_ n2_ n3_
                have hHeld := trivial
                refine norm_ (a' := ?_) ?_ ?_
                rotate_left
                ·
                 simp only [putAll, Act.put, List.setIfInBounds_toArray, List.set_cons_zero, List.set_cons_succ]
                 rfl
                refine two_ (i := 3) (j := 9) (Ni := some 25) (Nj := some 31) #[true, true, true, true, true, true, false, true, true, false, false, false, false] #[true, true, true, false, true, true, false, true, true, true, false, false, false] rfl rfl rfl rfl (two_of HT_.out (by kernel_rfl)) (by decide) (by decide) (fun K hK => ?_) (fun K hK => ?_)
                ·
                 skip
                 refine Kd.R_append_rows_step k62 (w0 := w) w.heap.size (by rfl) (.tmp 23) (.tmp 24) 24 62 (.agg #[(.int .i64 0), (.int .i64 0), (.int .i64 0)]) 24 rfl Try.underlying24 info62 rfl (by decide) (by omega) v510 y509 l1 _ _ _ (fun k_ => some k_ ≠ (v516 : Value).ownBlock) (fun _ => False) rfl rfl ?aO ?aR (fun _ _ h => h) (fun _ h => h.elim) ?aF ?aB ?aS ?aL ?_
                 (case aR => exact cT (Kd.C_below HR1.out HB.out))
                 (case aB => exact (bT1 HB GE505))
                 (case aF => exact (fun k_ hk => Kd.fresh' (Kd.R_lt (rTR HO517)) k_ hk))
                 (case aO => exact (rTR HO511))
                 (case aS => exact (below_size (bT1 HB GE505)))
                 (case aL => have := LMc16.out; omega)
                 intro v513 w26 ho hb hg hat
                 rw [← Ny512.out] at ho
                 replace BK505 := mA (blk_grown (g := gb505) (o := .cells #[.int .i64 0, .slice none 0 0, .slice none 0 0, .slice none 0 0, .int .i64 0] 37 (0, 0)) (kT BK505) hg (Kd.R_ne HO511.out BK505.out (by decide)))
                 replace HO517 := mA (Kd.R_after (ok := (fun _ => True)) (by (with_reducible repeat (first | apply Kd.R_alloc | apply Kd.R_drewN | apply Kd.R_drew)); exact Kd.R_mono HO517.out (fun _ hk => ⟨trivial, hk⟩)) hg hat)
                 replace HB := mA (hb)
                 have HO514 := mA (ho)
                 clear HO511
                 clear ho hb hg hat
                 refine hK.out _ _ trivial (fun hHeld => ?_)
                 clear hK K
                 refine norm_ (a' := ?_) ?_ ?_
                 rotate_left
                 ·
                  show Act.put _ (some 25) _ = _
                  simp only [Act.put, List.setIfInBounds_toArray, List.set_cons_zero, List.set_cons_succ, i64_w, i32_w]
                  rfl
                 exact norm_ (by first | (simp only [putAll, Act.put, List.setIfInBounds_toArray, List.set_cons_zero, List.set_cons_succ]; done) | (simp only [putAll, Act.put, List.setIfInBounds_toArray, List.set_cons_zero, List.set_cons_succ]; rfl)) (hJ1_3_4 (v510, v513, v516) _ ⟨(rTR HO514), (by (with_reducible repeat (first | apply Kd.R_alloc | apply Kd.R_drewN | apply Kd.R_drew)); exact Kd.R_mono HO517.out (fun _ hk => hk.2)), (kT BK505), (bT1 HB GE505)⟩)
                ·
                 skip
                 refine Kd.R_make_step Kd.bool _ 4 (by rfl) (N := 31) rfl 31 _ _ rfl (l1.length : Int) rfl rfl Try.underlying31 (.bool false) 1 info4 rfl (by decide) (by omega) false (ok := fun _ => True) (okp := fun _ => True) rfl (fun _ hk => hk) trivial (of_decide_eq_true aT) (Nat.le_trans (Nat.mul_le_mul_right _ (of_decide_eq_true aT : (l1.length : Int).toNat ≤ 281474976710656)) (by omega)) (Below.refl _ _) (Nat.le_refl _) ?_
                 intro v522 w26 ho27 hb hg_ hnew_
                 clear hg_ hnew_
                 (first | rw [← Ny521.out] at ho27 | (simp only [Int.reduceToNat] at ho27; rw [← Ny521.out] at ho27))
                 replace HO511 := rBR HO511 hb
                 replace HO517 := rBR HO517 hb
                 have HO523 := mA (Kd.R_lower ho27 (below_size (bT1 HB GE505)))
                 replace BK505 := kB BK505 hb
                 replace HB := mA (below_step (bT1 HB GE505) hb)
                 clear hb ho27
                 refine hK.out _ _ trivial (fun hHeld => ?_)
                 clear hK K
                 refine norm_ (a' := ?_) ?_ ?_
                 rotate_left
                 ·
                  show Act.put _ (some 31) _ = _
                  simp only [Act.put, List.setIfInBounds_toArray, List.set_cons_zero, List.set_cons_succ, i64_w, i32_w]
                  rfl
                 exact norm_ (by first | (simp only [putAll, Act.put, List.setIfInBounds_toArray, List.set_cons_zero, List.set_cons_succ]; done) | (simp only [putAll, Act.put, List.setIfInBounds_toArray, List.set_cons_zero, List.set_cons_succ]; rfl)) (hJ1_4_9 (v510, v516, v522) _ ⟨(rTR HO511), (rTR HO517), (rTR HO523), (kT BK505), (bT1 HB GE505)⟩)
              ·
               skip
               rintro ⟨v510, v513⟩ w24 ⟨h0_, h1_, h2_⟩
               have n0_ : Aside0 (Kd.R k62 62 w24 w.heap.size (fun _ => True) v513 y512) := ⟨h0_⟩
               have n1_ : Aside0 (w24.heap[gb505]? = some (.cells #[.int .i64 0, .slice none 0 0, .slice none 0 0, .slice none 0 0, .int .i64 0] 37 (0, 0))) := ⟨h1_⟩
               have n2_ : Aside0 (Below w.heap.size w w24) := ⟨h2_⟩
               clear BK505
               clear HB
               clear h0_ h1_ h2_
               have HO514 := n0_
               have BK505 := n1_
               have HB := n2_
               clear n0_ n1_ n2_
               have hHeld := trivial
               refine norm_ (a' := ?_) ?_ ?_
               rotate_left
               ·
                simp only [putAll, Act.put, List.setIfInBounds_toArray, List.set_cons_zero, List.set_cons_succ]
                rfl
               refine two_ (i := 4) (j := 9) (Ni := some 26) (Nj := some 31) #[true, true, true, true, true, true, false, true, true, false, false, false, false] #[true, true, true, true, false, true, false, true, true, true, false, false, false] rfl rfl rfl rfl (two_of HT_.out (by kernel_rfl)) (by decide) (by decide) (fun K hK => ?_) (fun K hK => ?_)
               ·
                skip
                refine Kd.R_lit_step k62 _ 62 ?hg (N := 26) ?hd (xs := ([] : List (S62))) (inner := []) (ok := fun _ => True) (okp := fun _ => True) ?hr ?hp (fun _ hk => hk) trivial (Below.refl _ _) (Nat.le_refl _) (by simp) ?_; (case hd => rfl); (case hg => rfl); (case hr => first | (go_simp; done) | (go_simp; rfl)); (case hp => exact (Reps.none _ _))
                intro v516 w25 ho26 hb hg_ hnew_
                clear hg_ hnew_
                (first | rw [← Ny515.out] at ho26 | (simp only [Int.reduceToNat] at ho26; rw [← Ny515.out] at ho26))
                have HO517 := mA (Kd.R_lower (Kd.R_new' ho26 (Kd.R_lt (rTR HO514))) (below_size (bT1 HB GE505)))
                replace HO514 := mA (Kd.R_elder' (rTR HO514) (Kd.R_base ho26) hb)
                replace BK505 := kB BK505 hb
                replace HB := mA (below_step (bT1 HB GE505) hb)
                clear hb ho26
                refine hK.out _ _ trivial (fun hHeld => ?_)
                clear hK K
                refine norm_ (a' := ?_) ?_ ?_
                rotate_left
                ·
                 show Act.put _ (some 26) _ = _
                 simp only [Act.put, List.setIfInBounds_toArray, List.set_cons_zero, List.set_cons_succ, i64_w, i32_w]
                 rfl
                exact norm_ (by first | (simp only [putAll, Act.put, List.setIfInBounds_toArray, List.set_cons_zero, List.set_cons_succ]; done) | (simp only [putAll, Act.put, List.setIfInBounds_toArray, List.set_cons_zero, List.set_cons_succ]; rfl)) (hJ1_3_4 (v510, v513, v516) _ ⟨(by (with_reducible repeat (first | apply Kd.R_alloc | apply Kd.R_drewN | apply Kd.R_drew)); exact Kd.R_mono HO514.out (fun _ hk => hk.2)), (by (with_reducible repeat (first | apply Kd.R_alloc | apply Kd.R_drewN | apply Kd.R_drew)); exact Kd.R_mono HO517.out (fun _ hk => hk.2)), (kT BK505), (bT1 HB GE505)⟩)
               ·
                skip
                refine Kd.R_make_step Kd.bool _ 4 (by rfl) (N := 31) rfl 31 _ _ rfl (l1.length : Int) rfl rfl Try.underlying31 (.bool false) 1 info4 rfl (by decide) (by omega) false (ok := fun _ => True) (okp := fun _ => True) rfl (fun _ hk => hk) trivial (of_decide_eq_true aT) (Nat.le_trans (Nat.mul_le_mul_right _ (of_decide_eq_true aT : (l1.length : Int).toNat ≤ 281474976710656)) (by omega)) (Below.refl _ _) (Nat.le_refl _) ?_
                intro v522 w25 ho26 hb hg_ hnew_
                clear hg_ hnew_
                (first | rw [← Ny521.out] at ho26 | (simp only [Int.reduceToNat] at ho26; rw [← Ny521.out] at ho26))
                replace HO514 := rBR HO514 hb
                have HO523 := mA (Kd.R_lower ho26 (below_size (bT1 HB GE505)))
                replace BK505 := kB BK505 hb
                replace HB := mA (below_step (bT1 HB GE505) hb)
                clear hb ho26
                refine hK.out _ _ trivial (fun hHeld => ?_)
                clear hK K
                refine norm_ (a' := ?_) ?_ ?_
                rotate_left
                ·
                 show Act.put _ (some 31) _ = _
                 simp only [Act.put, List.setIfInBounds_toArray, List.set_cons_zero, List.set_cons_succ, i64_w, i32_w]
                 rfl
                exact norm_ (by first | (simp only [putAll, Act.put, List.setIfInBounds_toArray, List.set_cons_zero, List.set_cons_succ]; done) | (simp only [putAll, Act.put, List.setIfInBounds_toArray, List.set_cons_zero, List.set_cons_succ]; rfl)) (hJ1_3_9 (v510, v513, v522) _ ⟨(rTR HO514), (rTR HO523), (kT BK505), (bT1 HB GE505)⟩)
             ·
              skip
              rintro ⟨v510, v516, v522⟩ w27 ⟨h0_, h1_, h2_, h3_, h4_⟩
              have n0_ : Aside0 (Kd.R k62 62 w27 w.heap.size (fun k_ => some k_ ≠ (v516 : Value).ownBlock) v510 y509) := ⟨h0_⟩
              have n1_ : Aside0 (Kd.R k62 62 w27 w.heap.size (fun k_ => some k_ ≠ (v510 : Value).ownBlock) v516 y515) := ⟨h1_⟩
              have n2_ : Aside0 (Kd.R Kd.bool 4 w27 w.heap.size (fun _ => True) v522 y521) := ⟨h2_⟩
              have n3_ : Aside0 (w27.heap[gb505]? = some (.cells #[.int .i64 0, .slice none 0 0, .slice none 0 0, .slice none 0 0, .int .i64 0] 37 (0, 0))) := ⟨h3_⟩
              have n4_ : Aside0 (Below w.heap.size w w27) := ⟨h4_⟩
              clear BK505
              clear HB
              clear h0_ h1_ h2_ h3_ h4_
              have HO511 := n0_
              have HO517 := n1_
              have HO523 := n2_
              have BK505 := n3_
              have HB := n4_
              clear n0_ n1_ n2_ n3_ n4_
              have hHeld := trivial
              refine norm_ (a' := ?_) ?_ ?_
              rotate_left
              ·
               simp only [putAll, Act.put, List.setIfInBounds_toArray, List.set_cons_zero, List.set_cons_succ]
               rfl
              refine one_ (i := 3) (N := some 25) #[true, true, true, true, true, true, false, true, true, true, false, false, false] rfl rfl (one_of HT_.out (by kernel_rfl)) (by decide) (fun K hK => ?_)
              refine Kd.R_append_rows_step k62 (w0 := w) w.heap.size (by rfl) (.tmp 23) (.tmp 24) 24 62 (.agg #[(.int .i64 0), (.int .i64 0), (.int .i64 0)]) 24 rfl Try.underlying24 info62 rfl (by decide) (by omega) v510 y509 l1 _ _ _ (fun k_ => some k_ ≠ (v516 : Value).ownBlock) (fun _ => False) rfl rfl ?aO ?aR (fun _ _ h => h) (fun _ h => h.elim) ?aF ?aB ?aS ?aL ?_
              (case aR => exact cT (Kd.C_below HR1.out HB.out))
              (case aB => exact (bT1 HB GE505))
              (case aF => exact (fun k_ hk => Kd.fresh' (Kd.R_lt (rTR HO517)) k_ hk))
              (case aO => exact (rTR HO511))
              (case aS => exact (below_size (bT1 HB GE505)))
              (case aL => have := LMc16.out; omega)
              intro v513 w28 ho hb hg hat
              rw [← Ny512.out] at ho
              replace BK505 := mA (blk_grown (g := gb505) (o := .cells #[.int .i64 0, .slice none 0 0, .slice none 0 0, .slice none 0 0, .int .i64 0] 37 (0, 0)) (kT BK505) hg (Kd.R_ne HO511.out BK505.out (by decide)))
              replace HO517 := mA (Kd.R_after (ok := (fun _ => True)) (by (with_reducible repeat (first | apply Kd.R_alloc | apply Kd.R_drewN | apply Kd.R_drew)); exact Kd.R_mono HO517.out (fun _ hk => ⟨trivial, hk⟩)) hg hat)
              replace HO523 := mA (Kd.R_over' (rTR HO523) (Kd.R_typed (rTR HO511)) (by decide) hg)
              replace HB := mA (hb)
              have HO514 := mA (ho)
              clear HO511
              clear ho hb hg hat
              refine hK.out _ _ trivial (fun hHeld => ?_)
              clear hK K
              refine norm_ (a' := ?_) ?_ ?_
              rotate_left
              ·
               show Act.put _ (some 25) _ = _
               simp only [Act.put, List.setIfInBounds_toArray, List.set_cons_zero, List.set_cons_succ, i64_w, i32_w]
               rfl
              exact norm_ (by first | (simp only [putAll, Act.put, List.setIfInBounds_toArray, List.set_cons_zero, List.set_cons_succ]; done) | (simp only [putAll, Act.put, List.setIfInBounds_toArray, List.set_cons_zero, List.set_cons_succ]; rfl)) (hJ1_3_4_9 (v510, v513, v516, v522) _ ⟨(rTR HO514), (by (with_reducible repeat (first | apply Kd.R_alloc | apply Kd.R_drewN | apply Kd.R_drew)); exact Kd.R_mono HO517.out (fun _ hk => hk.2)), (rTR HO523), (kT BK505), (bT1 HB GE505)⟩)
            ·
             skip
             rintro ⟨v510, v513, v522⟩ w26 ⟨h0_, h1_, h2_, h3_⟩
             have n0_ : Aside0 (Kd.R k62 62 w26 w.heap.size (fun _ => True) v513 y512) := ⟨h0_⟩
             have n1_ : Aside0 (Kd.R Kd.bool 4 w26 w.heap.size (fun _ => True) v522 y521) := ⟨h1_⟩
             have n2_ : Aside0 (w26.heap[gb505]? = some (.cells #[.int .i64 0, .slice none 0 0, .slice none 0 0, .slice none 0 0, .int .i64 0] 37 (0, 0))) := ⟨h2_⟩
             have n3_ : Aside0 (Below w.heap.size w w26) := ⟨h3_⟩
             clear BK505
             clear HB
             clear h0_ h1_ h2_ h3_
             have HO514 := n0_
             have HO523 := n1_
             have BK505 := n2_
             have HB := n3_
             clear n0_ n1_ n2_ n3_
             have hHeld := trivial
             refine norm_ (a' := ?_) ?_ ?_
             rotate_left
             ·
              simp only [putAll, Act.put, List.setIfInBounds_toArray, List.set_cons_zero, List.set_cons_succ]
              rfl
             refine one_ (i := 4) (N := some 26) #[true, true, true, true, true, true, false, true, true, true, false, false, false] rfl rfl (one_of HT_.out (by kernel_rfl)) (by decide) (fun K hK => ?_)
             refine Kd.R_lit_step k62 _ 62 ?hg (N := 26) ?hd (xs := ([] : List (S62))) (inner := []) (ok := fun _ => True) (okp := fun _ => True) ?hr ?hp (fun _ hk => hk) trivial (Below.refl _ _) (Nat.le_refl _) (by simp) ?_; (case hd => rfl); (case hg => rfl); (case hr => first | (go_simp; done) | (go_simp; rfl)); (case hp => exact (Reps.none _ _))
             intro v516 w27 ho28 hb hg_ hnew_
             clear hg_ hnew_
             (first | rw [← Ny515.out] at ho28 | (simp only [Int.reduceToNat] at ho28; rw [← Ny515.out] at ho28))
             replace HO523 := rBR HO523 hb
             have HO517 := mA (Kd.R_lower (Kd.R_new' ho28 (Kd.R_lt (rTR HO514))) (below_size (bT1 HB GE505)))
             replace HO514 := mA (Kd.R_elder' (rTR HO514) (Kd.R_base ho28) hb)
             replace BK505 := kB BK505 hb
             replace HB := mA (below_step (bT1 HB GE505) hb)
             clear hb ho28
             refine hK.out _ _ trivial (fun hHeld => ?_)
             clear hK K
             refine norm_ (a' := ?_) ?_ ?_
             rotate_left
             ·
              show Act.put _ (some 26) _ = _
              simp only [Act.put, List.setIfInBounds_toArray, List.set_cons_zero, List.set_cons_succ, i64_w, i32_w]
              rfl
             exact norm_ (by first | (simp only [putAll, Act.put, List.setIfInBounds_toArray, List.set_cons_zero, List.set_cons_succ]; done) | (simp only [putAll, Act.put, List.setIfInBounds_toArray, List.set_cons_zero, List.set_cons_succ]; rfl)) (hJ1_3_4_9 (v510, v513, v516, v522) _ ⟨(by (with_reducible repeat (first | apply Kd.R_alloc | apply Kd.R_drewN | apply Kd.R_drew)); exact Kd.R_mono HO514.out (fun _ hk => hk.2)), (by (with_reducible repeat (first | apply Kd.R_alloc | apply Kd.R_drewN | apply Kd.R_drew)); exact Kd.R_mono HO517.out (fun _ hk => hk.2)), (rTR HO523), (kT BK505), (bT1 HB GE505)⟩)
           ·
            skip
            rintro ⟨v510, v513, v516⟩ w26 ⟨h0_, h1_, h2_, h3_⟩
            have n0_ : Aside0 (Kd.R k62 62 w26 w.heap.size (fun k_ => some k_ ≠ (v516 : Value).ownBlock) v513 y512) := ⟨h0_⟩
            have n1_ : Aside0 (Kd.R k62 62 w26 w.heap.size (fun k_ => some k_ ≠ (v513 : Value).ownBlock) v516 y515) := ⟨h1_⟩
            have n2_ : Aside0 (w26.heap[gb505]? = some (.cells #[.int .i64 0, .slice none 0 0, .slice none 0 0, .slice none 0 0, .int .i64 0] 37 (0, 0))) := ⟨h2_⟩
            have n3_ : Aside0 (Below w.heap.size w w26) := ⟨h3_⟩
            clear BK505
            clear HB
            clear h0_ h1_ h2_ h3_
            have HO514 := n0_
            have HO517 := n1_
            have BK505 := n2_
            have HB := n3_
            clear n0_ n1_ n2_ n3_
            have hHeld := trivial
            refine norm_ (a' := ?_) ?_ ?_
            rotate_left
            ·
             simp only [putAll, Act.put, List.setIfInBounds_toArray, List.set_cons_zero, List.set_cons_succ]
             rfl
            refine two_ (i := 6) (j := 9) (Ni := some 28) (Nj := some 31) #[true, true, true, true, true, true, true, true, true, false, false, false, false] #[true, true, true, true, true, true, false, true, true, true, false, false, false] rfl rfl rfl rfl (two_of HT_.out (by kernel_rfl)) (by decide) (by decide) (fun K hK => ?_) (fun K hK => ?_)
            ·
             skip
             refine Kd.R_append_rows_step k62 (w0 := w) w.heap.size (by rfl) (.tmp 26) (.tmp 27) 24 62 (.agg #[(.int .i64 0), (.int .i64 0), (.int .i64 0)]) 24 rfl Try.underlying24 info62 rfl (by decide) (by omega) v516 y515 l2 _ _ _ (fun k_ => some k_ ≠ (v513 : Value).ownBlock) (fun _ => False) rfl rfl ?aO ?aR (fun _ _ h => h) (fun _ h => h.elim) ?aF ?aB ?aS ?aL ?_
             (case aR => exact cT (Kd.C_below HR2.out HB.out))
             (case aB => exact (bT1 HB GE505))
             (case aF => exact (fun k_ hk => Kd.fresh' (Kd.R_lt (rTR HO514)) k_ hk))
             (case aO => exact (rTR HO517))
             (case aS => exact (below_size (bT1 HB GE505)))
             (case aL => have := LMc17.out; omega)
             intro v519 w27 ho hb hg hat
             rw [← Ny518.out] at ho
             replace BK505 := mA (blk_grown (g := gb505) (o := .cells #[.int .i64 0, .slice none 0 0, .slice none 0 0, .slice none 0 0, .int .i64 0] 37 (0, 0)) (kT BK505) hg (Kd.R_ne HO517.out BK505.out (by decide)))
             replace HO514 := mA (Kd.R_after (ok := (fun _ => True)) (by (with_reducible repeat (first | apply Kd.R_alloc | apply Kd.R_drewN | apply Kd.R_drew)); exact Kd.R_mono HO514.out (fun _ hk => ⟨trivial, hk⟩)) hg hat)
             replace HB := mA (hb)
             have HO520 := mA (ho)
             clear HO517
             clear ho hb hg hat
             refine hK.out _ _ trivial (fun hHeld => ?_)
             clear hK K
             refine norm_ (a' := ?_) ?_ ?_
             rotate_left
             ·
              show Act.put _ (some 28) _ = _
              simp only [Act.put, List.setIfInBounds_toArray, List.set_cons_zero, List.set_cons_succ, i64_w, i32_w]
              rfl
             exact norm_ (by first | (simp only [putAll, Act.put, List.setIfInBounds_toArray, List.set_cons_zero, List.set_cons_succ]; done) | (simp only [putAll, Act.put, List.setIfInBounds_toArray, List.set_cons_zero, List.set_cons_succ]; rfl)) (hJ1_3_4_6 (v510, v513, v516, v519) _ ⟨(by (with_reducible repeat (first | apply Kd.R_alloc | apply Kd.R_drewN | apply Kd.R_drew)); exact Kd.R_mono HO514.out (fun _ hk => hk.2)), (rTR HO520), (kT BK505), (bT1 HB GE505)⟩)
            ·
             skip
             refine Kd.R_make_step Kd.bool _ 4 (by rfl) (N := 31) rfl 31 _ _ rfl (l1.length : Int) rfl rfl Try.underlying31 (.bool false) 1 info4 rfl (by decide) (by omega) false (ok := fun _ => True) (okp := fun _ => True) rfl (fun _ hk => hk) trivial (of_decide_eq_true aT) (Nat.le_trans (Nat.mul_le_mul_right _ (of_decide_eq_true aT : (l1.length : Int).toNat ≤ 281474976710656)) (by omega)) (Below.refl _ _) (Nat.le_refl _) ?_
             intro v522 w27 ho28 hb hg_ hnew_
             clear hg_ hnew_
             (first | rw [← Ny521.out] at ho28 | (simp only [Int.reduceToNat] at ho28; rw [← Ny521.out] at ho28))
             replace HO514 := rBR HO514 hb
             replace HO517 := rBR HO517 hb
             have HO523 := mA (Kd.R_lower ho28 (below_size (bT1 HB GE505)))
             replace BK505 := kB BK505 hb
             replace HB := mA (below_step (bT1 HB GE505) hb)
             clear hb ho28
             refine hK.out _ _ trivial (fun hHeld => ?_)
             clear hK K
             refine norm_ (a' := ?_) ?_ ?_
             rotate_left
             ·
              show Act.put _ (some 31) _ = _
              simp only [Act.put, List.setIfInBounds_toArray, List.set_cons_zero, List.set_cons_succ, i64_w, i32_w]
              rfl
             exact norm_ (by first | (simp only [putAll, Act.put, List.setIfInBounds_toArray, List.set_cons_zero, List.set_cons_succ]; done) | (simp only [putAll, Act.put, List.setIfInBounds_toArray, List.set_cons_zero, List.set_cons_succ]; rfl)) (hJ1_3_4_9 (v510, v513, v516, v522) _ ⟨(rTR HO514), (rTR HO517), (rTR HO523), (kT BK505), (bT1 HB GE505)⟩)
          ·
           skip
           rintro ⟨v510, v513, v516, v522⟩ w28 ⟨h0_, h1_, h2_, h3_, h4_⟩
           have n0_ : Aside0 (Kd.R k62 62 w28 w.heap.size (fun k_ => some k_ ≠ (v516 : Value).ownBlock) v513 y512) := ⟨h0_⟩
           have n1_ : Aside0 (Kd.R k62 62 w28 w.heap.size (fun k_ => some k_ ≠ (v513 : Value).ownBlock) v516 y515) := ⟨h1_⟩
           have n2_ : Aside0 (Kd.R Kd.bool 4 w28 w.heap.size (fun _ => True) v522 y521) := ⟨h2_⟩
           have n3_ : Aside0 (w28.heap[gb505]? = some (.cells #[.int .i64 0, .slice none 0 0, .slice none 0 0, .slice none 0 0, .int .i64 0] 37 (0, 0))) := ⟨h3_⟩
           have n4_ : Aside0 (Below w.heap.size w w28) := ⟨h4_⟩
           clear BK505
           clear HB
           clear h0_ h1_ h2_ h3_ h4_
           have HO514 := n0_
           have HO517 := n1_
           have HO523 := n2_
           have BK505 := n3_
           have HB := n4_
           clear n0_ n1_ n2_ n3_ n4_
           have hHeld := trivial
           refine norm_ (a' := ?_) ?_ ?_
           rotate_left
           ·
            simp only [putAll, Act.put, List.setIfInBounds_toArray, List.set_cons_zero, List.set_cons_succ]
            rfl
           refine one_ (i := 6) (N := some 28) #[true, true, true, true, true, true, true, true, true, true, false, false, false] rfl rfl (one_of HT_.out (by kernel_rfl)) (by decide) (fun K hK => ?_)
           refine Kd.R_append_rows_step k62 (w0 := w) w.heap.size (by rfl) (.tmp 26) (.tmp 27) 24 62 (.agg #[(.int .i64 0), (.int .i64 0), (.int .i64 0)]) 24 rfl Try.underlying24 info62 rfl (by decide) (by omega) v516 y515 l2 _ _ _ (fun k_ => some k_ ≠ (v513 : Value).ownBlock) (fun _ => False) rfl rfl ?aO ?aR (fun _ _ h => h) (fun _ h => h.elim) ?aF ?aB ?aS ?aL ?_
           (case aR => exact cT (Kd.C_below HR2.out HB.out))
           (case aB => exact (bT1 HB GE505))
           (case aF => exact (fun k_ hk => Kd.fresh' (Kd.R_lt (rTR HO514)) k_ hk))
           (case aO => exact (rTR HO517))
           (case aS => exact (below_size (bT1 HB GE505)))
           (case aL => have := LMc17.out; omega)
           intro v519 w29 ho hb hg hat
           rw [← Ny518.out] at ho
           replace BK505 := mA (blk_grown (g := gb505) (o := .cells #[.int .i64 0, .slice none 0 0, .slice none 0 0, .slice none 0 0, .int .i64 0] 37 (0, 0)) (kT BK505) hg (Kd.R_ne HO517.out BK505.out (by decide)))
           replace HO514 := mA (Kd.R_after (ok := (fun _ => True)) (by (with_reducible repeat (first | apply Kd.R_alloc | apply Kd.R_drewN | apply Kd.R_drew)); exact Kd.R_mono HO514.out (fun _ hk => ⟨trivial, hk⟩)) hg hat)
           replace HO523 := mA (Kd.R_over' (rTR HO523) (Kd.R_typed (rTR HO517)) (by decide) hg)
           replace HB := mA (hb)
           have HO520 := mA (ho)
           clear HO517
           clear ho hb hg hat
           obtain ⟨Ao30, co30, eo30⟩ := Kd.R_slice HO523.out
           (first | subst eo30 | (injection eo30 with f1_ f2_ f3_; have f4_ := f1_.symm; have f5_ := f3_.symm; clear f1_ f2_ f3_; subst f4_; subst f5_))
           obtain ⟨Ao31, co31, eo31⟩ := Kd.R_slice HO520.out
           (first | subst eo31 | (injection eo31 with f1_ f2_ f3_; have f4_ := f1_.symm; have f5_ := f3_.symm; clear f1_ f2_ f3_; subst f4_; subst f5_))
           obtain ⟨Ao32, co32, eo32⟩ := Kd.R_slice HO514.out
           (first | subst eo32 | (injection eo32 with f1_ f2_ f3_; have f4_ := f1_.symm; have f5_ := f3_.symm; clear f1_ f2_ f3_; subst f4_; subst f5_))
           refine hK.out _ _ trivial (fun hHeld => ?_)
           clear hK K
           refine norm_ (a' := ?_) ?_ ?_
           rotate_left
           ·
            show Act.put _ (some 28) _ = _
            simp only [Act.put, List.setIfInBounds_toArray, List.set_cons_zero, List.set_cons_succ, i64_w, i32_w]
            rfl
           exact norm_ (by first | (simp only [putAll, Act.put, List.setIfInBounds_toArray, List.set_cons_zero, List.set_cons_succ]; done) | (simp only [putAll, Act.put, List.setIfInBounds_toArray, List.set_cons_zero, List.set_cons_succ]; rfl)) (hJ1_3_4_6_9 (v510, .slice Ao32 y512.length co32, v516, .slice Ao31 y518.length co31, .slice Ao30 y521.length co30) _ ⟨(by (with_reducible repeat (first | apply Kd.R_alloc | apply Kd.R_drewN | apply Kd.R_drew)); exact Kd.R_mono HO514.out (fun _ hk => hk.2)), (rTR HO520), (rTR HO523), (kT BK505), (bT1 HB GE505)⟩)
         ·
          skip
          rintro ⟨v510, v513, v516, v519⟩ w27 ⟨h0_, h1_, h2_, h3_⟩
          have n0_ : Aside0 (Kd.R k62 62 w27 w.heap.size (fun k_ => some k_ ≠ (v519 : Value).ownBlock) v513 y512) := ⟨h0_⟩
          have n1_ : Aside0 (Kd.R k62 62 w27 w.heap.size (fun k_ => some k_ ≠ (v513 : Value).ownBlock) v519 y518) := ⟨h1_⟩
          have n2_ : Aside0 (w27.heap[gb505]? = some (.cells #[.int .i64 0, .slice none 0 0, .slice none 0 0, .slice none 0 0, .int .i64 0] 37 (0, 0))) := ⟨h2_⟩
          have n3_ : Aside0 (Below w.heap.size w w27) := ⟨h3_⟩
          clear BK505
          clear HB
          clear h0_ h1_ h2_ h3_
          have HO514 := n0_
          have HO520 := n1_
          have BK505 := n2_
          have HB := n3_
          clear n0_ n1_ n2_ n3_
          have hHeld := trivial
          refine norm_ (a' := ?_) ?_ ?_
          rotate_left
          ·
           simp only [putAll, Act.put, List.setIfInBounds_toArray, List.set_cons_zero, List.set_cons_succ]
           rfl
          refine one_ (i := 9) (N := some 31) #[true, true, true, true, true, true, true, true, true, true, false, false, false] rfl rfl (one_of HT_.out (by kernel_rfl)) (by decide) (fun K hK => ?_)
          refine Kd.R_make_step Kd.bool _ 4 (by rfl) (N := 31) rfl 31 _ _ rfl (l1.length : Int) rfl rfl Try.underlying31 (.bool false) 1 info4 rfl (by decide) (by omega) false (ok := fun _ => True) (okp := fun _ => True) rfl (fun _ hk => hk) trivial (of_decide_eq_true aT) (Nat.le_trans (Nat.mul_le_mul_right _ (of_decide_eq_true aT : (l1.length : Int).toNat ≤ 281474976710656)) (by omega)) (Below.refl _ _) (Nat.le_refl _) ?_
          intro v522 w28 ho29 hb hg_ hnew_
          clear hg_ hnew_
          (first | rw [← Ny521.out] at ho29 | (simp only [Int.reduceToNat] at ho29; rw [← Ny521.out] at ho29))
          replace HO514 := rBR HO514 hb
          replace HO520 := rBR HO520 hb
          have HO523 := mA (Kd.R_lower ho29 (below_size (bT1 HB GE505)))
          replace BK505 := kB BK505 hb
          replace HB := mA (below_step (bT1 HB GE505) hb)
          clear hb ho29
          obtain ⟨Ao30, co30, eo30⟩ := Kd.R_slice HO523.out
          (first | subst eo30 | (injection eo30 with f1_ f2_ f3_; have f4_ := f1_.symm; have f5_ := f3_.symm; clear f1_ f2_ f3_; subst f4_; subst f5_))
          obtain ⟨Ao31, co31, eo31⟩ := Kd.R_slice HO520.out
          (first | subst eo31 | (injection eo31 with f1_ f2_ f3_; have f4_ := f1_.symm; have f5_ := f3_.symm; clear f1_ f2_ f3_; subst f4_; subst f5_))
          obtain ⟨Ao32, co32, eo32⟩ := Kd.R_slice HO514.out
          (first | subst eo32 | (injection eo32 with f1_ f2_ f3_; have f4_ := f1_.symm; have f5_ := f3_.symm; clear f1_ f2_ f3_; subst f4_; subst f5_))
          refine hK.out _ _ trivial (fun hHeld => ?_)
          clear hK K
          refine norm_ (a' := ?_) ?_ ?_
          rotate_left
          ·
           show Act.put _ (some 31) _ = _
           simp only [Act.put, List.setIfInBounds_toArray, List.set_cons_zero, List.set_cons_succ, i64_w, i32_w]
           rfl
          exact norm_ (by first | (simp only [putAll, Act.put, List.setIfInBounds_toArray, List.set_cons_zero, List.set_cons_succ]; done) | (simp only [putAll, Act.put, List.setIfInBounds_toArray, List.set_cons_zero, List.set_cons_succ]; rfl)) (hJ1_3_4_6_9 (v510, .slice Ao32 y512.length co32, v516, .slice Ao31 y518.length co31, .slice Ao30 y521.length co30) _ ⟨(rTR HO514), (rTR HO520), (rTR HO523), (kT BK505), (bT1 HB GE505)⟩)
        rintro ⟨v510, v513, v516, v519, v522⟩ w32 ⟨h0_, h1_, h2_, h3_, h4_⟩
        have n0_ : Aside0 (Kd.R k62 62 w32 w.heap.size (fun k_ => some k_ ≠ (v519 : Value).ownBlock) v513 y512) := ⟨h0_⟩
        have n1_ : Aside0 (Kd.R k62 62 w32 w.heap.size (fun k_ => some k_ ≠ (v513 : Value).ownBlock) v519 y518) := ⟨h1_⟩
        have n2_ : Aside0 (Kd.R Kd.bool 4 w32 w.heap.size (fun _ => True) v522 y521) := ⟨h2_⟩
        have n3_ : Aside0 (w32.heap[gb505]? = some (.cells #[.int .i64 0, .slice none 0 0, .slice none 0 0, .slice none 0 0, .int .i64 0] 37 (0, 0))) := ⟨h3_⟩
        have n4_ : Aside0 (Below w.heap.size w w32) := ⟨h4_⟩
        clear BK505
        clear HB
        clear h0_ h1_ h2_ h3_ h4_
        have HO514 := n0_
        have HO520 := n1_
        have HO523 := n2_
        have BK505 := n3_
        have HB := n4_
        clear n0_ n1_ n2_ n3_ n4_
        have hHeld := trivial
        obtain ⟨Ao33, co33, eo33⟩ := Kd.R_slice HO523.out
        (first | subst eo33 | (injection eo33 with f1_ f2_ f3_; have f4_ := f1_.symm; have f5_ := f3_.symm; clear f1_ f2_ f3_; subst f4_; subst f5_))
        obtain ⟨Ao34, co34, eo34⟩ := Kd.R_slice HO520.out
        (first | subst eo34 | (injection eo34 with f1_ f2_ f3_; have f4_ := f1_.symm; have f5_ := f3_.symm; clear f1_ f2_ f3_; subst f4_; subst f5_))
        obtain ⟨Ao35, co35, eo35⟩ := Kd.R_slice HO514.out
        (first | subst eo35 | (injection eo35 with f1_ f2_ f3_; have f4_ := f1_.symm; have f5_ := f3_.symm; clear f1_ f2_ f3_; subst f4_; subst f5_))
        refine norm_ (a' := ?_) ?_ ?_
        rotate_left
        ·
         simp only [putAll, Act.put, List.setIfInBounds_toArray, List.set_cons_zero, List.set_cons_succ]
         rfl
        refine pureT (i := 10) (N := some 32) #[true, true, true, true, true, true, true, true, true, true, true, false, false] (any_of HT_.out (by kernel_rfl)) ?_
        refine one_ (i := 11) (N := none) #[true, true, true, true, true, true, true, true, true, true, true, true, false] rfl rfl (one_of HT_.out (by kernel_rfl)) (by decide) (fun K hK => ?_)
        have hs36 : w32.cell? ⟨gb505, 0, none⟩ = some (.int .i64 0) := (blk_cell BK505.out 0).trans rfl
        have hfs36 := blk_frozen BK505.out 0
        have hs37 : w32.cell? ⟨gb505, 1, none⟩ = some (.slice none 0 0) := (blk_cell BK505.out 1).trans rfl
        have hfs37 := blk_frozen BK505.out 1
        have hs38 : w32.cell? ⟨gb505, 2, none⟩ = some (.slice none 0 0) := (blk_cell BK505.out 2).trans rfl
        have hfs38 := blk_frozen BK505.out 2
        have hs39 : w32.cell? ⟨gb505, 3, none⟩ = some (.slice none 0 0) := (blk_cell BK505.out 3).trans rfl
        have hfs39 := blk_frozen BK505.out 3
        have hs40 : w32.cell? ⟨gb505, 4, none⟩ = some (.int .i64 0) := (blk_cell BK505.out 4).trans rfl
        have hfs40 := blk_frozen BK505.out 4
        refine skip_ (w1 := ?_) (by rfl) rfl ?_ ?_
        rotate_left
        ·
         go_simp
         rfl
        refine hK.out _ _ trivial (fun hHeld => ?_)
        clear hK K
        refine pureT (i := 12) (N := some 7) #[true, true, true, true, true, true, true, true, true, true, true, true, true] (any_of HT_.out (by kernel_rfl)) ?_
        refine done_ (done_of HT_.out (by kernel_rfl)) ?_
        try go_wp2
        refine bodyPost_ret (results_ct rfl _ _ gb505 37 #[.int .i64 a0, .slice Ao35 y512.length co35, .slice Ao34 y518.length co34, .slice Ao33 y521.length co33, .int .i64 0] (0, 0) _ rfl (by (with_reducible repeat (first | refine blk_drewN ?_ _ | refine blk_drew ?_ | refine blk_alloc ?_ _)); refine blk_put (cs := #[.int .i64 a0, .slice Ao35 y512.length co35, .slice Ao34 y518.length co34, .slice Ao33 y521.length co33, .int .i64 0]) ?_ 4 _ rfl; (with_reducible repeat (first | refine blk_drewN ?_ _ | refine blk_drew ?_ | refine blk_alloc ?_ _)); refine blk_put (cs := #[.int .i64 a0, .slice Ao35 y512.length co35, .slice Ao34 y518.length co34, .slice none 0 0, .int .i64 0]) ?_ 3 _ rfl; (with_reducible repeat (first | refine blk_drewN ?_ _ | refine blk_drew ?_ | refine blk_alloc ?_ _)); refine blk_put (cs := #[.int .i64 a0, .slice Ao35 y512.length co35, .slice none 0 0, .slice none 0 0, .int .i64 0]) ?_ 2 _ rfl; (with_reducible repeat (first | refine blk_drewN ?_ _ | refine blk_drew ?_ | refine blk_alloc ?_ _)); refine blk_put (cs := #[.int .i64 a0, .slice none 0 0, .slice none 0 0, .slice none 0 0, .int .i64 0]) ?_ 1 _ rfl; (with_reducible repeat (first | refine blk_drewN ?_ _ | refine blk_drew ?_ | refine blk_alloc ?_ _)); refine blk_put (cs := #[.int .i64 0, .slice none 0 0, .slice none 0 0, .slice none 0 0, .int .i64 0]) ?_ 0 _ rfl; (with_reducible repeat (first | refine blk_drewN ?_ _ | refine blk_drew ?_ | refine blk_alloc ?_ _)); exact BK505.out) Try.underlying37 rfl (by kernel_rfl)) rfl ?_
        exact ⟨_, _, _, eT, by (with_reducible repeat (first | apply Kd.R_alloc | apply Kd.R_drewN | apply Kd.R_drew)); exact Kd.R_mono (Kd.R_far (p := ⟨gb505, 4, none⟩) (Kd.R_far (p := ⟨gb505, 3, none⟩) (Kd.R_far (p := ⟨gb505, 2, none⟩) (Kd.R_far (p := ⟨gb505, 1, none⟩) (Kd.R_far (p := ⟨gb505, 0, none⟩) (Kd.R_types HO514.out BK505.out (by decide)) (fun _ hk => hk.2) (.int .i64 a0)) (fun _ hk => hk.2) (.slice Ao35 y512.length co35)) (fun _ hk => hk.2) (.slice Ao34 y518.length co34)) (fun _ hk => hk.2) (.slice Ao33 y521.length co33)) (fun _ hk => hk.2) (.int .i64 0)) (fun _ hk => hk.1), by (with_reducible repeat (first | apply Kd.R_alloc | apply Kd.R_drewN | apply Kd.R_drew)); exact Kd.R_mono (Kd.R_far (p := ⟨gb505, 4, none⟩) (Kd.R_far (p := ⟨gb505, 3, none⟩) (Kd.R_far (p := ⟨gb505, 2, none⟩) (Kd.R_far (p := ⟨gb505, 1, none⟩) (Kd.R_far (p := ⟨gb505, 0, none⟩) (Kd.R_types HO520.out BK505.out (by decide)) (fun _ hk => hk.2) (.int .i64 a0)) (fun _ hk => hk.2) (.slice Ao35 y512.length co35)) (fun _ hk => hk.2) (.slice Ao34 y518.length co34)) (fun _ hk => hk.2) (.slice Ao33 y521.length co33)) (fun _ hk => hk.2) (.int .i64 0)) (fun _ hk => hk.1), by (with_reducible repeat (first | apply Kd.R_alloc | apply Kd.R_drewN | apply Kd.R_drew)); exact Kd.R_mono (Kd.R_far (p := ⟨gb505, 4, none⟩) (Kd.R_far (p := ⟨gb505, 3, none⟩) (Kd.R_far (p := ⟨gb505, 2, none⟩) (Kd.R_far (p := ⟨gb505, 1, none⟩) (Kd.R_far (p := ⟨gb505, 0, none⟩) (Kd.R_types HO523.out BK505.out (by decide)) (fun _ hk => hk.2) (.int .i64 a0)) (fun _ hk => hk.2) (.slice Ao35 y512.length co35)) (fun _ hk => hk.2) (.slice Ao34 y518.length co34)) (fun _ hk => hk.2) (.slice Ao33 y521.length co33)) (fun _ hk => hk.2) (.int .i64 0)) (fun _ hk => trivial), bT1 HB GE505⟩
       ·
        rw [if_neg c19] at H
        exact absurd H (by simp)
      ·
       rw [if_neg c18] at H
       exact absurd H (by simp)
     ·
      rw [if_neg c17] at H
      exact absurd H (by simp)
    ·
     rw [if_neg c16] at H
     exact absurd H (by simp)

/-! ### impl_NewTask: function 34 -/
def impl_NewTask.j0 : Nat → Int → List (S62) → List (S62) → Bool → Option (Int × (List (S62)) × (List (S62)) × List Bool × Int × Bool)
 | 0, _, _, _, _ => none
 | k + 1, x0, x1, x2, x20 => if x20 = true then (some (0, ([] : List (S62)), ([] : List (S62)), ([] : List Bool), 0, false)) else ((impl_clone.f x1).bind fun t528 => ((impl_clone.f x2).bind fun t531 => (if 0 ≤ (x1.length : Int) then (if ((x1.length : Int) : Int).toNat ≤ 281474976710656 then (some (x0, t528, t531, (List.replicate ((x1.length : Int) : Int).toNat false), 0, true)) else (none)) else (none))))
def impl_NewTask.f (k : Nat) (a0 : Int) (l1 : List (S62)) (l2 : List (S62)) : Option (Int × (List (S62)) × (List (S62)) × List Bool × Int × Bool) := (impl_IsValidJoinKind.f a0).bind fun t525 => (if t525 = true then ((impl_AreValidRows.f k l1).bind fun t526 => (if t526 = true then ((impl_AreValidRows.f k l2).bind fun t527 => (impl_NewTask.j0 k a0 l1 l2 (!t527))) else (impl_NewTask.j0 k a0 l1 l2 true))) else (impl_NewTask.j0 k a0 l1 l2 true))
theorem impl_NewTask.mono_l : ∀ k, (∀ y0 y1 y2 y3, LeO (impl_NewTask.j0 k y0 y1 y2 y3) (impl_NewTask.j0 (k + 1) y0 y1 y2 y3))
 | 0 => fun _ _ _ _ r h => by simp [impl_NewTask.j0] at h
 | k + 1 => by
  have ih0 := impl_NewTask.mono_l k
  ·
   intro y0 y1 y2 y3
   unfold impl_NewTask.j0
   repeat' first
   | (with_reducible exact ih0 _ _ _ _)
   | (with_reducible exact impl_AreValidRows.mono _ _)
   | (with_reducible exact LeO.refl _)
   | (with_reducible exact LeO.none _)
   | (with_reducible refine LeO.ite ?_ ?_)
   | (with_reducible refine LeO.bind ?_ (fun _ => ?_))
   | exact ih0 _ _ _ _
   | exact impl_AreValidRows.mono _ _
   | exact LeO.none _
   | refine LeO.ite ?_ ?_
   | refine LeO.bind ?_ (fun _ => ?_)
theorem impl_NewTask.mono : ∀ a0 a1 a2 k, LeO (impl_NewTask.f k a0 a1 a2) (impl_NewTask.f (k + 1) a0 a1 a2) := by
 intro a0 a1 a2 k
 have ih0 := impl_NewTask.mono_l k
 unfold impl_NewTask.f
 repeat' first
   | (with_reducible exact ih0 _ _ _ _)
   | (with_reducible exact impl_AreValidRows.mono _ _)
   | (with_reducible exact LeO.refl _)
   | (with_reducible exact LeO.none _)
   | (with_reducible refine LeO.ite ?_ ?_)
   | (with_reducible refine LeO.bind ?_ (fun _ => ?_))
   | exact ih0 _ _ _ _
   | exact impl_AreValidRows.mono _ _
   | exact LeO.none _
   | refine LeO.ite ?_ ?_
   | refine LeO.bind ?_ (fun _ => ?_)
def impl_NewTask.T3 : Bool × List (List Nat × List Nat) := (true, [([], []), ([], []), ([1], [1]), ([], []), ([3, 2], [3]), ([], []), ([5], [5]), ([6, 6], [6]), ([0, 2, 4, 7], [0, 2, 4, 7]), ([8, 4, 0, 1, 2, 3, 4, 5, 6, 7, 8], [8]), ([9, 0, 1, 2, 3, 4, 5, 6, 7, 8, 9], [])])
def impl_NewTask.B3 : List Nat := [0, 0, 2, 0, 14, 0, 32, 96, 255, 511, 1023]
theorem impl_NewTask.tab3 : rtab .any (opsOf Try.f34 3) = impl_NewTask.T3 := by kernel_rfl
theorem impl_NewTask.bits3 : waitsOk impl_NewTask.T3.2 impl_NewTask.B3 = true := by kernel_rfl
set_option maxHeartbeats 8000000 in
set_option maxRecDepth 100000 in
theorem impl_NewTask.calls (k : Nat) (a0 : Int) (A1 : Option Addr) (c1 : Nat) (l1 : List (S62)) (A2 : Option Addr) (c2 : Nat) (l2 : List (S62)) (r1 : Int) (r2 : List (S62)) (r3 : List (S62)) (r4 : List Bool) (r5 : Int) (r6 : Bool) (w : World) (hr1 : Kd.C k62 w A1 l1.length l1) (hc1 : l1.length ≤ c1) (hr2 : Kd.C k62 w A2 l2.length l2) (hc2 : l2.length ≤ c2) (h : impl_NewTask.f k a0 l1 l2 = some (r1, r2, r3, r4, r5, r6)) :
  Calls Try.prog 34 #[.int .i64 a0, .slice A1 l1.length c1, .slice A2 l2.length c2] w fun e w' => ∃ v1_ v2_ v3_ : Value, e = .returned (.tuple #[.agg #[.int .i64 r1, v1_, v2_, v3_, .int .i64 r5], .bool r6]) ∧ Kd.R k62 62 w' w.heap.size (fun k_ => some k_ ≠ (v2_ : Value).ownBlock) v1_ r2 ∧ Kd.R k62 62 w' w.heap.size (fun k_ => some k_ ≠ (v1_ : Value).ownBlock) v2_ r3 ∧ Kd.R Kd.bool 4 w' w.heap.size (fun _ => True) v3_ r4 ∧ Below w.heap.size w w' := by
 have hu37 := Try.underlying37
 have HR1 := mA hr1
 have HC1 := mA hc1
 clear hr1 hc1
 have HR2 := mA hr2
 have HC2 := mA hc2
 clear hr2 hc2
 have HB := mA (Below.refl w.heap.size w)
 have H : ((impl_IsValidJoinKind.f a0).bind fun t525 => (if t525 = true then ((impl_AreValidRows.f k l1).bind fun t526 => (if t526 = true then ((impl_AreValidRows.f k l2).bind fun t527 => (impl_NewTask.j0 k a0 l1 l2 (!t527))) else (impl_NewTask.j0 k a0 l1 l2 true))) else (impl_NewTask.j0 k a0 l1 l2 true))) = some (r1, r2, r3, r4, r5, r6) := h
 clear h
 have HC4 := mA H
 clear H
 go_enter Try.func34, Try.ntmps34
 go_upto_region 1 with (first | ((with_reducible refine gate_dst (N := 6) rfl ?_); refine boxT 6 #[.int .i64 0, .slice none 0 0, .slice none 0 0, .slice none 0 0, .int .i64 0] 37 ?_; intro gb524 hg w5 hbox hb; have BK524 := mA (hbox); have GW524 := mA ((by rw [hg]; exact (below_size (bT HB)) : w.heap.size ≤ gb524)); have GE524 := GW524; replace HB := mA (below_step (bT HB) hb); clear hb hbox hg))
 (try simp only [Act.put, List.setIfInBounds_toArray, List.set_cons_zero, List.set_cons_succ])
 go_cut [20] (fun v20 wc => ∃ (kq : Nat) (x20_3 : Bool), v20 = .bool x20_3 ∧ Aside0 (impl_NewTask.j0 kq a0 l1 l2 x20_3 = some (r1, r2, r3, r4, r5, r6)) ∧ Aside0 (kq ≤ k) ∧ Aside0 (wc.heap[gb524]? = some (.cells #[.int .i64 0, (.slice none 0 0), (.slice none 0 0), (.slice none 0 0), .int .i64 0] 37 (0, 0))) ∧ Aside0 (Below w.heap.size w wc))
 case first =>
  have H := HC4.out
  clear HC4
  obtain ⟨t525, A6, H⟩ := Option.bind_eq_some_iff.mp H
  replace A6 := mA A6
  try dsimp only at H
  by_cases c7 : t525 = true
  ·
   subst c7
   rw [if_pos rfl] at H
   obtain ⟨t526, A8, H⟩ := Option.bind_eq_some_iff.mp H
   replace A8 := mA A8
   try dsimp only at H
   by_cases c9 : t526 = true
   ·
    subst c9
    rw [if_pos rfl] at H
    obtain ⟨t527, A10, H⟩ := Option.bind_eq_some_iff.mp H
    replace A10 := mA A10
    try dsimp only at H
    have H' := mA H
    clear H
    go_wp2_with (first | ((with_reducible refine gate_callee (f := 65) rfl ?_); refine goesT (some 9) Try.func65 #[.int .i64 a0] ?_; (with_reducible refine (impl_IsValidJoinKind.calls a0 true _ A6.out).mono ?_); rintro e w' ⟨rfl, ⟨nd, rfl⟩⟩; refine ⟨_, rfl, ?_⟩) | (go_at_call 66; (with_reducible refine (impl_AreValidRows.calls k _ _ l1 true _ ?side1 ?side2 A8.out).mono ?_); (case side1 => exact cT (Kd.C_below HR1.out (bT1 HB GE524))); (case side2 => exact HC1.out); rintro e w11 ⟨rfl, hb⟩; replace BK524 := kB BK524 hb; replace HB := mA (below_step (bT1 HB GE524) hb); (try clear hb)) | (go_at_call 66; (with_reducible refine (impl_AreValidRows.calls k _ _ l2 t527 _ ?side1 ?side2 A10.out).mono ?_); (case side1 => exact cT (Kd.C_below HR2.out HB.out)); (case side2 => exact HC2.out); rintro e w12 ⟨rfl, hb⟩; replace BK524 := kB BK524 hb; replace HB := mA (below_step (bT1 HB GE524) hb); (try clear hb)))
    go_meet
    case rel => exact ⟨_, (!t527), sT, H', ⟨by first | omega | exact Nat.le_refl _⟩, ⟨kT BK524⟩, ⟨bT1 HB GE524⟩⟩
   ·
    replace c9 := Bool.eq_false_iff.mpr c9
    subst c9
    rw [if_neg (show ¬ (false = true) by decide)] at H
    have H' := mA H
    clear H
    go_wp2_with (first | ((with_reducible refine gate_callee (f := 65) rfl ?_); refine goesT (some 9) Try.func65 #[.int .i64 a0] ?_; (with_reducible refine (impl_IsValidJoinKind.calls a0 true _ A6.out).mono ?_); rintro e w' ⟨rfl, ⟨nd, rfl⟩⟩; refine ⟨_, rfl, ?_⟩) | (go_at_call 66; (with_reducible refine (impl_AreValidRows.calls k _ _ l1 false _ ?side1 ?side2 A8.out).mono ?_); (case side1 => exact cT (Kd.C_below HR1.out (bT1 HB GE524))); (case side2 => exact HC1.out); rintro e w13 ⟨rfl, hb⟩; replace BK524 := kB BK524 hb; replace HB := mA (below_step (bT1 HB GE524) hb); (try clear hb)))
    go_meet
    case rel => exact ⟨_, (true), sT, H', ⟨by first | omega | exact Nat.le_refl _⟩, ⟨kT BK524⟩, ⟨bT1 HB GE524⟩⟩
  ·
   replace c7 := Bool.eq_false_iff.mpr c7
   subst c7
   rw [if_neg (show ¬ (false = true) by decide)] at H
   have H' := mA H
   clear H
   go_wp2_with (first | ((with_reducible refine gate_callee (f := 65) rfl ?_); refine goesT (some 9) Try.func65 #[.int .i64 a0] ?_; (with_reducible refine (impl_IsValidJoinKind.calls a0 false _ A6.out).mono ?_); rintro e w' ⟨rfl, ⟨nd, rfl⟩⟩; refine ⟨_, rfl, ?_⟩))
   go_meet
   case rel => exact ⟨_, (true), sT, H', ⟨by first | omega | exact Nat.le_refl _⟩, ⟨kT BK524⟩, ⟨bT1 HB GE524⟩⟩
 case rest =>
  clear HC4
  try clear c1
  try clear c2
  try clear p2
  try clear c3
  try clear c6
  try clear c7
  try clear c9
  obtain ⟨kq, x20_3, rfl, HA, HJ3, BK524, HB⟩ := hcut
  cases kq with
  | zero => exact absurd HA.out (by simp [impl_NewTask.j0])
  | succ kj3 =>
   have H := HA.out
   clear HA
   simp only [impl_NewTask.j0] at H
   by_cases c14 : x20_3 = true
   ·
    subst c14
    rw [if_pos rfl] at H
    simp only [Option.some.injEq, Prod.mk.injEq] at H
    obtain ⟨rfl, rfl, rfl, rfl, rfl, rfl⟩ := H
    have hcz15_0 : wc.cell? ⟨gb524, 0, none⟩ = some (.int .i64 0) := (blk_cell BK524.out 0).trans rfl
    have hcz15_1 : wc.cell? ⟨gb524, 1, none⟩ = some (.slice none 0 0) := (blk_cell BK524.out 1).trans rfl
    have hcz15_2 : wc.cell? ⟨gb524, 2, none⟩ = some (.slice none 0 0) := (blk_cell BK524.out 2).trans rfl
    have hcz15_3 : wc.cell? ⟨gb524, 3, none⟩ = some (.slice none 0 0) := (blk_cell BK524.out 3).trans rfl
    have hcz15_4 : wc.cell? ⟨gb524, 4, none⟩ = some (.int .i64 0) := (blk_cell BK524.out 4).trans rfl
    have hfz15_0 := blk_frozen BK524.out 0
    have hfz15_1 := blk_frozen BK524.out 1
    have hfz15_2 := blk_frozen BK524.out 2
    have hfz15_3 := blk_frozen BK524.out 3
    have hfz15_4 := blk_frozen BK524.out 4
    go_wp2
    refine bodyPost_ret (results_ct rfl _ _ gb524 37 #[.int .i64 0, .slice none 0 0, .slice none 0 0, .slice none 0 0, .int .i64 0] (0, 0) _ rfl (by (with_reducible repeat (first | refine blk_drewN ?_ _ | refine blk_drew ?_ | refine blk_alloc ?_ _)); refine blk_put (cs := #[.int .i64 0, .slice none 0 0, .slice none 0 0, .slice none 0 0, .int .i64 0]) ?_ 4 _ rfl; (with_reducible repeat (first | refine blk_drewN ?_ _ | refine blk_drew ?_ | refine blk_alloc ?_ _)); refine blk_put (cs := #[.int .i64 0, .slice none 0 0, .slice none 0 0, .slice none 0 0, .int .i64 0]) ?_ 3 _ rfl; (with_reducible repeat (first | refine blk_drewN ?_ _ | refine blk_drew ?_ | refine blk_alloc ?_ _)); refine blk_put (cs := #[.int .i64 0, .slice none 0 0, .slice none 0 0, .slice none 0 0, .int .i64 0]) ?_ 2 _ rfl; (with_reducible repeat (first | refine blk_drewN ?_ _ | refine blk_drew ?_ | refine blk_alloc ?_ _)); refine blk_put (cs := #[.int .i64 0, .slice none 0 0, .slice none 0 0, .slice none 0 0, .int .i64 0]) ?_ 1 _ rfl; (with_reducible repeat (first | refine blk_drewN ?_ _ | refine blk_drew ?_ | refine blk_alloc ?_ _)); refine blk_put (cs := #[.int .i64 0, .slice none 0 0, .slice none 0 0, .slice none 0 0, .int .i64 0]) ?_ 0 _ rfl; (with_reducible repeat (first | refine blk_drewN ?_ _ | refine blk_drew ?_ | refine blk_alloc ?_ _)); exact BK524.out) Try.underlying37 rfl (by kernel_rfl)) rfl ?_
    exact ⟨_, _, _, eT, by first | exact Kd.R_nil _ _ _ _ _ | exact Kd.N_nil _ _ _ _ _ | exact Kd.V_nil _ _ _ _ _ | exact Kd.Q_nil _ _ _ _ _ | exact Kd.S_nil _ _ _ _ _, by first | exact Kd.R_nil _ _ _ _ _ | exact Kd.N_nil _ _ _ _ _ | exact Kd.V_nil _ _ _ _ _ | exact Kd.Q_nil _ _ _ _ _ | exact Kd.S_nil _ _ _ _ _, by first | exact Kd.R_nil _ _ _ _ _ | exact Kd.N_nil _ _ _ _ _ | exact Kd.V_nil _ _ _ _ _ | exact Kd.Q_nil _ _ _ _ _ | exact Kd.S_nil _ _ _ _ _, bT1 HB GE524⟩
   ·
    replace c14 := Bool.eq_false_iff.mpr c14
    subst c14
    rw [if_neg (show ¬ (false = true) by decide)] at H
    obtain ⟨t528, A16, H⟩ := Option.bind_eq_some_iff.mp H
    replace A16 := mA A16
    try dsimp only at H
    obtain ⟨t531, A17, H⟩ := Option.bind_eq_some_iff.mp H
    replace A17 := mA A17
    try dsimp only at H
    by_cases c18 : 0 ≤ (l1.length : Int)
    ·
     rw [if_pos c18] at H
     have c18b0 := eq_true c18
     have c18b1 : decide (0 ≤ (l1.length : Int)) = true := decide_eq_true c18
     clear c18
     by_cases c19 : ((l1.length : Int) : Int).toNat ≤ 281474976710656
     ·
      rw [if_pos c19] at H
      have c19b0 := eq_true c19
      have c19b1 : decide (((l1.length : Int) : Int).toNat ≤ 281474976710656) = true := decide_eq_true c19
      clear c19
      obtain ⟨y534, hy534⟩ : ∃ y_ : List Bool, y_ = (List.replicate ((l1.length : Int) : Int).toNat false) := ⟨_, rfl⟩
      replace H : (some (a0, t528, t531, y534, 0, true)) = some (r1, r2, r3, r4, r5, r6) := by first | (rw [hy534]; with_reducible exact H) | (have H2_ := (Option.bind_some _ _).symm.trans H; rw [hy534]; with_reducible exact H2_) | (have H2_ := (Option.bind_some _ _).symm.trans H; with_reducible exact H2_) | with_reducible exact H | (rw [hy534]; exact H) | exact H
      have Ny534 := mA hy534
      clear hy534
      simp only [Option.some.injEq, Prod.mk.injEq] at H
      obtain ⟨rfl, rfl, rfl, rfl, rfl, rfl⟩ := H
      try go_wp2
      replace BK524 := mA (blk_drew BK524.out)
      replace HB := mA (below_drew1 HB.out)
      refine start_ (n := 11) (S := fun w' => True) (ds := []) #[false, false, false, false, false, false, false, false, false, false, false] (by kernel_rfl) rfl rfl trivial (fun hHeld => ?_); refine with_tabW impl_NewTask.tab3 impl_NewTask.bits3 (fun HT_ HW_ => ?_)
      generalize wc.drew = w20 at BK524 HB hHeld ⊢
      refine pureT (i := 0) (N := some 22) #[true, false, false, false, false, false, false, false, false, false, false] (any_of HT_.out (by kernel_rfl)) ?_
      refine pureT (i := 1) (N := some 23) #[true, true, false, false, false, false, false, false, false, false, false] (any_of HT_.out (by kernel_rfl)) ?_
      refine pureT (i := 3) (N := some 25) #[true, true, false, true, false, false, false, false, false, false, false] (any_of HT_.out (by kernel_rfl)) ?_
      refine pureT (i := 5) (N := some 27) #[true, true, false, true, false, true, false, false, false, false, false] (any_of HT_.out (by kernel_rfl)) ?_
      refine pureT (i := 6) (N := some 28) #[true, true, false, true, false, true, true, false, false, false, false] (any_of HT_.out (by kernel_rfl)) ?_
      refine join_ (σ := Value × Value × Value) 3 #[true, true, true, true, true, true, true, true, false, false, false] (fun s_ => [(24, s_.1), (26, s_.2.1), (29, s_.2.2)]) (fun s_ w' => (Kd.R k62 62 w' w.heap.size (fun k_ => some k_ ≠ (s_.2.1 : Value).ownBlock) s_.1 t528) ∧ (Kd.R k62 62 w' w.heap.size (fun k_ => some k_ ≠ (s_.1 : Value).ownBlock) s_.2.1 t531) ∧ (Kd.R Kd.bool 4 w' w.heap.size (fun _ => True) s_.2.2 y534) ∧ (w'.heap[gb524]? = some (.cells #[.int .i64 0, .slice none 0 0, .slice none 0 0, .slice none 0 0, .int .i64 0] 37 (0, 0))) ∧ (Below w.heap.size w w')) ?_ ?_
      rotate_left
      ·
       intro hCont
       refine two_ (i := 2) (j := 7) (Ni := some 24) (Nj := some 29) #[true, true, true, true, false, true, true, false, false, false, false] #[true, true, false, true, false, true, true, true, false, false, false] rfl rfl rfl rfl (two_of HT_.out (by kernel_rfl)) (by decide) (by decide) (fun K hK => ?_) (fun K hK => ?_)
       ·
        skip
        refine goes_ Try.func55 (by kernel_rfl) rfl #[.slice A1 l1.length c1] (by rfl) rfl rfl mT ?_
        with_reducible refine (impl_clone.calls _ _ l1 t528 _ ?side1 ?side2 A16.out).mono ?_
        (case side1 => exact cT (Kd.C_below HR1.out HB.out))
        (case side2 => exact HC1.out)
        rintro e w21 ⟨v529, rfl, ho0, hb⟩
        refine ⟨_, rfl, ?_⟩
        have HO530 := mA (Kd.R_lower ho0 (below_size (bT1 HB GE524)))
        replace BK524 := kB BK524 hb
        replace HB := mA (below_step (bT1 HB GE524) hb)
        (try clear hb)
        (try clear hb2)
        (try clear hk)
        (try clear hi)
        (try clear ho0)
        refine hK.out _ _ trivial (fun hHeld => ?_)
        clear hK K
        refine norm_ (a' := ?_) ?_ ?_
        rotate_left
        ·
         show Act.put _ (some 24) _ = _
         simp only [Act.put, List.setIfInBounds_toArray, List.set_cons_zero, List.set_cons_succ, i64_w, i32_w]
         rfl
        refine two_ (i := 4) (j := 7) (Ni := some 26) (Nj := some 29) #[true, true, true, true, true, true, true, false, false, false, false] #[true, true, true, true, false, true, true, true, false, false, false] rfl rfl rfl rfl (two_of HT_.out (by kernel_rfl)) (by decide) (by decide) (fun K hK => ?_) (fun K hK => ?_)
        ·
         skip
         refine goes_ Try.func55 (by kernel_rfl) rfl #[.slice A2 l2.length c2] (by rfl) rfl rfl mT ?_
         with_reducible refine (impl_clone.calls _ _ l2 t531 _ ?side1 ?side2 A17.out).mono ?_
         (case side1 => exact cT (Kd.C_below HR2.out HB.out))
         (case side2 => exact HC2.out)
         rintro e w22 ⟨v532, rfl, ho0, hb⟩
         refine ⟨_, rfl, ?_⟩
         have HO533 := mA (Kd.R_lower (Kd.R_new' ho0 (Kd.R_lt (rTR HO530))) (below_size (bT1 HB GE524)))
         replace HO530 := mA (Kd.R_elder' (rTR HO530) (Kd.R_base ho0) hb)
         replace BK524 := kB BK524 hb
         replace HB := mA (below_step (bT1 HB GE524) hb)
         (try clear hb)
         (try clear hb2)
         (try clear hk)
         (try clear hi)
         (try clear ho0)
         refine hK.out _ _ trivial (fun hHeld => ?_)
         clear hK K
         refine norm_ (a' := ?_) ?_ ?_
         rotate_left
         ·
          show Act.put _ (some 26) _ = _
          simp only [Act.put, List.setIfInBounds_toArray, List.set_cons_zero, List.set_cons_succ, i64_w, i32_w]
          rfl
         refine one_ (i := 7) (N := some 29) #[true, true, true, true, true, true, true, true, false, false, false] rfl rfl (one_of HT_.out (by kernel_rfl)) (by decide) (fun K hK => ?_)
         refine Kd.R_make_step Kd.bool _ 4 (by rfl) (N := 29) rfl 31 _ _ rfl (l1.length : Int) rfl rfl Try.underlying31 (.bool false) 1 info4 rfl (by decide) (by omega) false (ok := fun _ => True) (okp := fun _ => True) rfl (fun _ hk => hk) trivial (of_decide_eq_true aT) (Nat.le_trans (Nat.mul_le_mul_right _ (of_decide_eq_true aT : (l1.length : Int).toNat ≤ 281474976710656)) (by omega)) (Below.refl _ _) (Nat.le_refl _) ?_
         intro v535 w23 ho24 hb hg_ hnew_
         clear hg_ hnew_
         (first | rw [← Ny534.out] at ho24 | (simp only [Int.reduceToNat] at ho24; rw [← Ny534.out] at ho24))
         replace HO530 := rBR HO530 hb
         replace HO533 := rBR HO533 hb
         have HO536 := mA (Kd.R_lower ho24 (below_size (bT1 HB GE524)))
         replace BK524 := kB BK524 hb
         replace HB := mA (below_step (bT1 HB GE524) hb)
         clear hb ho24
         obtain ⟨Ao25, co25, eo25⟩ := Kd.R_slice HO536.out
         (first | subst eo25 | (injection eo25 with f1_ f2_ f3_; have f4_ := f1_.symm; have f5_ := f3_.symm; clear f1_ f2_ f3_; subst f4_; subst f5_))
         obtain ⟨Ao26, co26, eo26⟩ := Kd.R_slice HO533.out
         (first | subst eo26 | (injection eo26 with f1_ f2_ f3_; have f4_ := f1_.symm; have f5_ := f3_.symm; clear f1_ f2_ f3_; subst f4_; subst f5_))
         obtain ⟨Ao27, co27, eo27⟩ := Kd.R_slice HO530.out
         (first | subst eo27 | (injection eo27 with f1_ f2_ f3_; have f4_ := f1_.symm; have f5_ := f3_.symm; clear f1_ f2_ f3_; subst f4_; subst f5_))
         refine hK.out _ _ trivial (fun hHeld => ?_)
         clear hK K
         refine norm_ (a' := ?_) ?_ ?_
         rotate_left
         ·
          show Act.put _ (some 29) _ = _
          simp only [Act.put, List.setIfInBounds_toArray, List.set_cons_zero, List.set_cons_succ, i64_w, i32_w]
          rfl
         exact norm_ (by simp only [putAll, Act.put, List.setIfInBounds_toArray, List.set_cons_zero, List.set_cons_succ]) (hCont (.slice Ao27 t528.length co27, .slice Ao26 t531.length co26, .slice Ao25 y534.length co25) _ ⟨(by (with_reducible repeat (first | apply Kd.R_alloc | apply Kd.R_drewN | apply Kd.R_drew)); exact Kd.R_mono HO530.out (fun _ hk => hk.2)), (by (with_reducible repeat (first | apply Kd.R_alloc | apply Kd.R_drewN | apply Kd.R_drew)); exact Kd.R_mono HO533.out (fun _ hk => hk.2)), (rTR HO536), (kT BK524), (bT1 HB GE524)⟩)
        ·
         skip
         refine Kd.R_make_step Kd.bool _ 4 (by rfl) (N := 29) rfl 31 _ _ rfl (l1.length : Int) rfl rfl Try.underlying31 (.bool false) 1 info4 rfl (by decide) (by omega) false (ok := fun _ => True) (okp := fun _ => True) rfl (fun _ hk => hk) trivial (of_decide_eq_true aT) (Nat.le_trans (Nat.mul_le_mul_right _ (of_decide_eq_true aT : (l1.length : Int).toNat ≤ 281474976710656)) (by omega)) (Below.refl _ _) (Nat.le_refl _) ?_
         intro v535 w22 ho23 hb hg_ hnew_
         clear hg_ hnew_
         (first | rw [← Ny534.out] at ho23 | (simp only [Int.reduceToNat] at ho23; rw [← Ny534.out] at ho23))
         replace HO530 := rBR HO530 hb
         have HO536 := mA (Kd.R_lower ho23 (below_size (bT1 HB GE524)))
         replace BK524 := kB BK524 hb
         replace HB := mA (below_step (bT1 HB GE524) hb)
         clear hb ho23
         refine hK.out _ _ trivial (fun hHeld => ?_)
         clear hK K
         refine norm_ (a' := ?_) ?_ ?_
         rotate_left
         ·
          show Act.put _ (some 29) _ = _
          simp only [Act.put, List.setIfInBounds_toArray, List.set_cons_zero, List.set_cons_succ, i64_w, i32_w]
          rfl
         refine one_ (i := 4) (N := some 26) #[true, true, true, true, true, true, true, true, false, false, false] rfl rfl (one_of HT_.out (by kernel_rfl)) (by decide) (fun K hK => ?_)
         refine goes_ Try.func55 (by kernel_rfl) rfl #[.slice A2 l2.length c2] (by rfl) rfl rfl mT ?_
         with_reducible refine (impl_clone.calls _ _ l2 t531 _ ?side1 ?side2 A17.out).mono ?_
         (case side1 => exact cT (Kd.C_below HR2.out HB.out))
         (case side2 => exact HC2.out)
         rintro e w24 ⟨v532, rfl, ho0, hb⟩
         refine ⟨_, rfl, ?_⟩
         replace HO536 := rBR HO536 hb
         have HO533 := mA (Kd.R_lower (Kd.R_new' ho0 (Kd.R_lt (rTR HO530))) (below_size (bT1 HB GE524)))
         replace HO530 := mA (Kd.R_elder' (rTR HO530) (Kd.R_base ho0) hb)
         replace BK524 := kB BK524 hb
         replace HB := mA (below_step (bT1 HB GE524) hb)
         (try clear hb)
         (try clear hb2)
         (try clear hk)
         (try clear hi)
         (try clear ho0)
         obtain ⟨Ao25, co25, eo25⟩ := Kd.R_slice HO536.out
         (first | subst eo25 | (injection eo25 with f1_ f2_ f3_; have f4_ := f1_.symm; have f5_ := f3_.symm; clear f1_ f2_ f3_; subst f4_; subst f5_))
         obtain ⟨Ao26, co26, eo26⟩ := Kd.R_slice HO533.out
         (first | subst eo26 | (injection eo26 with f1_ f2_ f3_; have f4_ := f1_.symm; have f5_ := f3_.symm; clear f1_ f2_ f3_; subst f4_; subst f5_))
         obtain ⟨Ao27, co27, eo27⟩ := Kd.R_slice HO530.out
         (first | subst eo27 | (injection eo27 with f1_ f2_ f3_; have f4_ := f1_.symm; have f5_ := f3_.symm; clear f1_ f2_ f3_; subst f4_; subst f5_))
         refine hK.out _ _ trivial (fun hHeld => ?_)
         clear hK K
         refine norm_ (a' := ?_) ?_ ?_
         rotate_left
         ·
          show Act.put _ (some 26) _ = _
          simp only [Act.put, List.setIfInBounds_toArray, List.set_cons_zero, List.set_cons_succ, i64_w, i32_w]
          rfl
         exact norm_ (by simp only [putAll, Act.put, List.setIfInBounds_toArray, List.set_cons_zero, List.set_cons_succ]) (hCont (.slice Ao27 t528.length co27, .slice Ao26 t531.length co26, .slice Ao25 y534.length co25) _ ⟨(by (with_reducible repeat (first | apply Kd.R_alloc | apply Kd.R_drewN | apply Kd.R_drew)); exact Kd.R_mono HO530.out (fun _ hk => hk.2)), (by (with_reducible repeat (first | apply Kd.R_alloc | apply Kd.R_drewN | apply Kd.R_drew)); exact Kd.R_mono HO533.out (fun _ hk => hk.2)), (rTR HO536), (kT BK524), (bT1 HB GE524)⟩)
       ·
        skip
        refine Kd.R_make_step Kd.bool _ 4 (by rfl) (N := 29) rfl 31 _ _ rfl (l1.length : Int) rfl rfl Try.underlying31 (.bool false) 1 info4 rfl (by decide) (by omega) false (ok := fun _ => True) (okp := fun _ => True) rfl (fun _ hk => hk) trivial (of_decide_eq_true aT) (Nat.le_trans (Nat.mul_le_mul_right _ (of_decide_eq_true aT : (l1.length : Int).toNat ≤ 281474976710656)) (by omega)) (Below.refl _ _) (Nat.le_refl _) ?_
        intro v535 w21 ho22 hb hg_ hnew_
        clear hg_ hnew_
        (first | rw [← Ny534.out] at ho22 | (simp only [Int.reduceToNat] at ho22; rw [← Ny534.out] at ho22))
        have HO536 := mA (Kd.R_lower ho22 (below_size (bT1 HB GE524)))
        replace BK524 := kB BK524 hb
        replace HB := mA (below_step (bT1 HB GE524) hb)
        clear hb ho22
        refine hK.out _ _ trivial (fun hHeld => ?_)
        clear hK K
        refine norm_ (a' := ?_) ?_ ?_
        rotate_left
        ·
         show Act.put _ (some 29) _ = _
         simp only [Act.put, List.setIfInBounds_toArray, List.set_cons_zero, List.set_cons_succ, i64_w, i32_w]
         rfl
        refine one_ (i := 2) (N := some 24) #[true, true, true, true, false, true, true, true, false, false, false] rfl rfl (one_of HT_.out (by kernel_rfl)) (by decide) (fun K hK => ?_)
        refine goes_ Try.func55 (by kernel_rfl) rfl #[.slice A1 l1.length c1] (by rfl) rfl rfl mT ?_
        with_reducible refine (impl_clone.calls _ _ l1 t528 _ ?side1 ?side2 A16.out).mono ?_
        (case side1 => exact cT (Kd.C_below HR1.out HB.out))
        (case side2 => exact HC1.out)
        rintro e w23 ⟨v529, rfl, ho0, hb⟩
        refine ⟨_, rfl, ?_⟩
        replace HO536 := rBR HO536 hb
        have HO530 := mA (Kd.R_lower ho0 (below_size (bT1 HB GE524)))
        replace BK524 := kB BK524 hb
        replace HB := mA (below_step (bT1 HB GE524) hb)
        (try clear hb)
        (try clear hb2)
        (try clear hk)
        (try clear hi)
        (try clear ho0)
        refine hK.out _ _ trivial (fun hHeld => ?_)
        clear hK K
        refine norm_ (a' := ?_) ?_ ?_
        rotate_left
        ·
         show Act.put _ (some 24) _ = _
         simp only [Act.put, List.setIfInBounds_toArray, List.set_cons_zero, List.set_cons_succ, i64_w, i32_w]
         rfl
        refine one_ (i := 4) (N := some 26) #[true, true, true, true, true, true, true, true, false, false, false] rfl rfl (one_of HT_.out (by kernel_rfl)) (by decide) (fun K hK => ?_)
        refine goes_ Try.func55 (by kernel_rfl) rfl #[.slice A2 l2.length c2] (by rfl) rfl rfl mT ?_
        with_reducible refine (impl_clone.calls _ _ l2 t531 _ ?side1 ?side2 A17.out).mono ?_
        (case side1 => exact cT (Kd.C_below HR2.out HB.out))
        (case side2 => exact HC2.out)
        rintro e w24 ⟨v532, rfl, ho0, hb⟩
        refine ⟨_, rfl, ?_⟩
        replace HO536 := rBR HO536 hb
        have HO533 := mA (Kd.R_lower (Kd.R_new' ho0 (Kd.R_lt (rTR HO530))) (below_size (bT1 HB GE524)))
        replace HO530 := mA (Kd.R_elder' (rTR HO530) (Kd.R_base ho0) hb)
        replace BK524 := kB BK524 hb
        replace HB := mA (below_step (bT1 HB GE524) hb)
        (try clear hb)
        (try clear hb2)
        (try clear hk)
        (try clear hi)
        (try clear ho0)
        obtain ⟨Ao25, co25, eo25⟩ := Kd.R_slice HO536.out
        (first | subst eo25 | (injection eo25 with f1_ f2_ f3_; have f4_ := f1_.symm; have f5_ := f3_.symm; clear f1_ f2_ f3_; subst f4_; subst f5_))
        obtain ⟨Ao26, co26, eo26⟩ := Kd.R_slice HO533.out
        (first | subst eo26 | (injection eo26 with f1_ f2_ f3_; have f4_ := f1_.symm; have f5_ := f3_.symm; clear f1_ f2_ f3_; subst f4_; subst f5_))
        obtain ⟨Ao27, co27, eo27⟩ := Kd.R_slice HO530.out
        (first | subst eo27 | (injection eo27 with f1_ f2_ f3_; have f4_ := f1_.symm; have f5_ := f3_.symm; clear f1_ f2_ f3_; subst f4_; subst f5_))
        refine hK.out _ _ trivial (fun hHeld => ?_)
        clear hK K
        refine norm_ (a' := ?_) ?_ ?_
        rotate_left
        ·
         show Act.put _ (some 26) _ = _
         simp only [Act.put, List.setIfInBounds_toArray, List.set_cons_zero, List.set_cons_succ, i64_w, i32_w]
         rfl
        exact norm_ (by simp only [putAll, Act.put, List.setIfInBounds_toArray, List.set_cons_zero, List.set_cons_succ]) (hCont (.slice Ao27 t528.length co27, .slice Ao26 t531.length co26, .slice Ao25 y534.length co25) _ ⟨(by (with_reducible repeat (first | apply Kd.R_alloc | apply Kd.R_drewN | apply Kd.R_drew)); exact Kd.R_mono HO530.out (fun _ hk => hk.2)), (by (with_reducible repeat (first | apply Kd.R_alloc | apply Kd.R_drewN | apply Kd.R_drew)); exact Kd.R_mono HO533.out (fun _ hk => hk.2)), (rTR HO536), (kT BK524), (bT1 HB GE524)⟩)
      rintro ⟨v529, v532, v535⟩ w28 ⟨h0_, h1_, h2_, h3_, h4_⟩
      have n0_ : Aside0 (Kd.R k62 62 w28 w.heap.size (fun k_ => some k_ ≠ (v532 : Value).ownBlock) v529 t528) := ⟨h0_⟩
      have n1_ : Aside0 (Kd.R k62 62 w28 w.heap.size (fun k_ => some k_ ≠ (v529 : Value).ownBlock) v532 t531) := ⟨h1_⟩
      have n2_ : Aside0 (Kd.R Kd.bool 4 w28 w.heap.size (fun _ => True) v535 y534) := ⟨h2_⟩
      have n3_ : Aside0 (w28.heap[gb524]? = some (.cells #[.int .i64 0, .slice none 0 0, .slice none 0 0, .slice none 0 0, .int .i64 0] 37 (0, 0))) := ⟨h3_⟩
      have n4_ : Aside0 (Below w.heap.size w w28) := ⟨h4_⟩
      clear BK524
      clear HB
      clear h0_ h1_ h2_ h3_ h4_
      have HO530 := n0_
      have HO533 := n1_
      have HO536 := n2_
      have BK524 := n3_
      have HB := n4_
      clear n0_ n1_ n2_ n3_ n4_
      have hHeld := trivial
      obtain ⟨Ao29, co29, eo29⟩ := Kd.R_slice HO536.out
      (first | subst eo29 | (injection eo29 with f1_ f2_ f3_; have f4_ := f1_.symm; have f5_ := f3_.symm; clear f1_ f2_ f3_; subst f4_; subst f5_))
      obtain ⟨Ao30, co30, eo30⟩ := Kd.R_slice HO533.out
      (first | subst eo30 | (injection eo30 with f1_ f2_ f3_; have f4_ := f1_.symm; have f5_ := f3_.symm; clear f1_ f2_ f3_; subst f4_; subst f5_))
      obtain ⟨Ao31, co31, eo31⟩ := Kd.R_slice HO530.out
      (first | subst eo31 | (injection eo31 with f1_ f2_ f3_; have f4_ := f1_.symm; have f5_ := f3_.symm; clear f1_ f2_ f3_; subst f4_; subst f5_))
      refine norm_ (a' := ?_) ?_ ?_
      rotate_left
      ·
       simp only [putAll, Act.put, List.setIfInBounds_toArray, List.set_cons_zero, List.set_cons_succ]
       rfl
      refine pureT (i := 8) (N := some 30) #[true, true, true, true, true, true, true, true, true, false, false] (any_of HT_.out (by kernel_rfl)) ?_
      refine one_ (i := 9) (N := none) #[true, true, true, true, true, true, true, true, true, true, false] rfl rfl (one_of HT_.out (by kernel_rfl)) (by decide) (fun K hK => ?_)
      have hs32 : w28.cell? ⟨gb524, 0, none⟩ = some (.int .i64 0) := (blk_cell BK524.out 0).trans rfl
      have hfs32 := blk_frozen BK524.out 0
      have hs33 : w28.cell? ⟨gb524, 1, none⟩ = some (.slice none 0 0) := (blk_cell BK524.out 1).trans rfl
      have hfs33 := blk_frozen BK524.out 1
      have hs34 : w28.cell? ⟨gb524, 2, none⟩ = some (.slice none 0 0) := (blk_cell BK524.out 2).trans rfl
      have hfs34 := blk_frozen BK524.out 2
      have hs35 : w28.cell? ⟨gb524, 3, none⟩ = some (.slice none 0 0) := (blk_cell BK524.out 3).trans rfl
      have hfs35 := blk_frozen BK524.out 3
      have hs36 : w28.cell? ⟨gb524, 4, none⟩ = some (.int .i64 0) := (blk_cell BK524.out 4).trans rfl
      have hfs36 := blk_frozen BK524.out 4
      refine skip_ (w1 := ?_) (by rfl) rfl ?_ ?_
      rotate_left
      ·
       go_simp
       rfl
      refine hK.out _ _ trivial (fun hHeld => ?_)
      clear hK K
      refine pureT (i := 10) (N := some 7) #[true, true, true, true, true, true, true, true, true, true, true] (any_of HT_.out (by kernel_rfl)) ?_
      refine done_ (done_of HT_.out (by kernel_rfl)) ?_
      try go_wp2
      refine bodyPost_ret (results_ct rfl _ _ gb524 37 #[.int .i64 a0, .slice Ao31 t528.length co31, .slice Ao30 t531.length co30, .slice Ao29 y534.length co29, .int .i64 0] (0, 0) _ rfl (by (with_reducible repeat (first | refine blk_drewN ?_ _ | refine blk_drew ?_ | refine blk_alloc ?_ _)); refine blk_put (cs := #[.int .i64 a0, .slice Ao31 t528.length co31, .slice Ao30 t531.length co30, .slice Ao29 y534.length co29, .int .i64 0]) ?_ 4 _ rfl; (with_reducible repeat (first | refine blk_drewN ?_ _ | refine blk_drew ?_ | refine blk_alloc ?_ _)); refine blk_put (cs := #[.int .i64 a0, .slice Ao31 t528.length co31, .slice Ao30 t531.length co30, .slice none 0 0, .int .i64 0]) ?_ 3 _ rfl; (with_reducible repeat (first | refine blk_drewN ?_ _ | refine blk_drew ?_ | refine blk_alloc ?_ _)); refine blk_put (cs := #[.int .i64 a0, .slice Ao31 t528.length co31, .slice none 0 0, .slice none 0 0, .int .i64 0]) ?_ 2 _ rfl; (with_reducible repeat (first | refine blk_drewN ?_ _ | refine blk_drew ?_ | refine blk_alloc ?_ _)); refine blk_put (cs := #[.int .i64 a0, .slice none 0 0, .slice none 0 0, .slice none 0 0, .int .i64 0]) ?_ 1 _ rfl; (with_reducible repeat (first | refine blk_drewN ?_ _ | refine blk_drew ?_ | refine blk_alloc ?_ _)); refine blk_put (cs := #[.int .i64 0, .slice none 0 0, .slice none 0 0, .slice none 0 0, .int .i64 0]) ?_ 0 _ rfl; (with_reducible repeat (first | refine blk_drewN ?_ _ | refine blk_drew ?_ | refine blk_alloc ?_ _)); exact BK524.out) Try.underlying37 rfl (by kernel_rfl)) rfl ?_
      exact ⟨_, _, _, eT, by (with_reducible repeat (first | apply Kd.R_alloc | apply Kd.R_drewN | apply Kd.R_drew)); exact Kd.R_mono (Kd.R_far (p := ⟨gb524, 4, none⟩) (Kd.R_far (p := ⟨gb524, 3, none⟩) (Kd.R_far (p := ⟨gb524, 2, none⟩) (Kd.R_far (p := ⟨gb524, 1, none⟩) (Kd.R_far (p := ⟨gb524, 0, none⟩) (Kd.R_types HO530.out BK524.out (by decide)) (fun _ hk => hk.2) (.int .i64 a0)) (fun _ hk => hk.2) (.slice Ao31 t528.length co31)) (fun _ hk => hk.2) (.slice Ao30 t531.length co30)) (fun _ hk => hk.2) (.slice Ao29 y534.length co29)) (fun _ hk => hk.2) (.int .i64 0)) (fun _ hk => hk.1), by (with_reducible repeat (first | apply Kd.R_alloc | apply Kd.R_drewN | apply Kd.R_drew)); exact Kd.R_mono (Kd.R_far (p := ⟨gb524, 4, none⟩) (Kd.R_far (p := ⟨gb524, 3, none⟩) (Kd.R_far (p := ⟨gb524, 2, none⟩) (Kd.R_far (p := ⟨gb524, 1, none⟩) (Kd.R_far (p := ⟨gb524, 0, none⟩) (Kd.R_types HO533.out BK524.out (by decide)) (fun _ hk => hk.2) (.int .i64 a0)) (fun _ hk => hk.2) (.slice Ao31 t528.length co31)) (fun _ hk => hk.2) (.slice Ao30 t531.length co30)) (fun _ hk => hk.2) (.slice Ao29 y534.length co29)) (fun _ hk => hk.2) (.int .i64 0)) (fun _ hk => hk.1), by (with_reducible repeat (first | apply Kd.R_alloc | apply Kd.R_drewN | apply Kd.R_drew)); exact Kd.R_mono (Kd.R_far (p := ⟨gb524, 4, none⟩) (Kd.R_far (p := ⟨gb524, 3, none⟩) (Kd.R_far (p := ⟨gb524, 2, none⟩) (Kd.R_far (p := ⟨gb524, 1, none⟩) (Kd.R_far (p := ⟨gb524, 0, none⟩) (Kd.R_types HO536.out BK524.out (by decide)) (fun _ hk => hk.2) (.int .i64 a0)) (fun _ hk => hk.2) (.slice Ao31 t528.length co31)) (fun _ hk => hk.2) (.slice Ao30 t531.length co30)) (fun _ hk => hk.2) (.slice Ao29 y534.length co29)) (fun _ hk => hk.2) (.int .i64 0)) (fun _ hk => trivial), bT1 HB GE524⟩
     ·
      rw [if_neg c19] at H
      exact absurd H (by simp)
    ·
     rw [if_neg c18] at H
     exact absurd H (by simp)

end Go.Proofs.Ythciieopabndcaa.P
