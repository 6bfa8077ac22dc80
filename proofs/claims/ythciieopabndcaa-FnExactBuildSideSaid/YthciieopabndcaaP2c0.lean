/- Written by tools/seatprint.py over the translation. Lean checks it. -/
import Derived.Test.YthciieopabndcaaP0
import Derived.Test.YthciieopabndcaaP102c0
import Derived.Test.YthciieopabndcaaPf3ec0
import Derived.Test.YthciieopabndcaaPf7ec0
namespace Go.Proofs.Ythciieopabndcaa.P
open Go.RowKit Go.Proofs.YthciieopabndcaaW.PrintWords Go.Proofs.YthciieopabndcaaW.PrintLast Go.Proofs.YthciieopabndcaaW.PrintMore
attribute [local go_sem] max2_int min2_int max_two min_two max_three min_three max_four min_four
set_option linter.unusedVariables false
set_option linter.unusedSimpArgs false

/-! ### laws_FnExactBuildSide: function 9 -/
def laws_FnExactBuildSide.f (k : Nat) (a0_0 : Int) (l0_1 : List (S64)) (l0_2 : List (S64)) (l0_3 : List Bool) (a0_4 : Int) (a1 : Int) : Option (Bool) := (laws_szTask.f a0_0 l0_1 l0_2 l0_3 a0_4 1048576).bind fun t641 => (if t641 < 0 then (some true) else ((laws_toTask.f k a0_0 l0_1 l0_2 l0_3 a0_4).bind fun bt642 => ((spec_BuildSide.f k bt642.1 bt642.2.1 bt642.2.2.1 bt642.2.2.2.1 bt642.2.2.2.2 a1).bind fun t653 => ((laws_toTask.f k a0_0 l0_1 l0_2 l0_3 a0_4).bind fun bt654 => ((impl_BuildSide.f k bt654.1 bt654.2.1 bt654.2.2.1 bt654.2.2.2.1 bt654.2.2.2.2 a1).bind fun t666 => (if t666 = t653 then ((laws_toTask.f k a0_0 l0_1 l0_2 l0_3 a0_4).bind fun bt667 => ((laws_eqTask.f k bt654.1 bt654.2.1 bt654.2.2.1 bt654.2.2.2.1 bt654.2.2.2.2 bt667.1 bt667.2.1 bt667.2.2.1 bt667.2.2.2.1 bt667.2.2.2.2).bind fun t678 => (if t678 = true then (some true) else (some false)))) else (some false)))))))
theorem laws_FnExactBuildSide.mono : ∀ a0 a1 a2 a3 a4 a5 k, LeO (laws_FnExactBuildSide.f k a0 a1 a2 a3 a4 a5) (laws_FnExactBuildSide.f (k + 1) a0 a1 a2 a3 a4 a5) := by
 intro a0 a1 a2 a3 a4 a5 k
 unfold laws_FnExactBuildSide.f
 repeat' first
   | (with_reducible exact impl_BuildSide.mono _ _ _ _ _ _ _)
   | (with_reducible exact laws_eqTask.mono _ _ _ _ _ _ _ _ _ _ _)
   | (with_reducible exact laws_toTask.mono _ _ _ _ _ _)
   | (with_reducible exact spec_BuildSide.mono _ _ _ _ _ _ _)
   | (with_reducible exact LeO.refl _)
   | (with_reducible exact LeO.none _)
   | (with_reducible refine LeO.ite ?_ ?_)
   | (with_reducible refine LeO.bind ?_ (fun _ => ?_))
   | exact impl_BuildSide.mono _ _ _ _ _ _ _
   | exact laws_eqTask.mono _ _ _ _ _ _ _ _ _ _ _
   | exact laws_toTask.mono _ _ _ _ _ _
   | exact spec_BuildSide.mono _ _ _ _ _ _ _
   | exact LeO.none _
   | refine LeO.ite ?_ ?_
   | refine LeO.bind ?_ (fun _ => ?_)
set_option maxHeartbeats 8000000 in
set_option maxRecDepth 100000 in
theorem laws_FnExactBuildSide.calls (k : Nat) (a0_0 : Int) (A0_1 : Option Addr) (c0_1 : Nat) (l0_1 : List (S64)) (A0_2 : Option Addr) (c0_2 : Nat) (l0_2 : List (S64)) (A0_3 : Option Addr) (c0_3 : Nat) (l0_3 : List Bool) (a0_4 : Int) (a1 : Int) (r : Bool) (w : World) (hr0_1 : Kd.C k64 w A0_1 l0_1.length l0_1) (hc0_1 : l0_1.length ≤ c0_1) (hr0_2 : Kd.C k64 w A0_2 l0_2.length l0_2) (hc0_2 : l0_2.length ≤ c0_2) (hr0_3 : Kd.C Kd.bool w A0_3 l0_3.length l0_3) (hc0_3 : l0_3.length ≤ c0_3) (ht : r = true) (h : laws_FnExactBuildSide.f k a0_0 l0_1 l0_2 l0_3 a0_4 a1 = some r) :
  Calls Try.prog 9 #[.agg #[.int .i64 a0_0, .slice A0_1 l0_1.length c0_1, .slice A0_2 l0_2.length c0_2, .slice A0_3 l0_3.length c0_3, .int .i64 a0_4], .int .i64 a1] w fun e w' => e = .returned (.bool r) ∧ Below w.heap.size w w' := by
 have hu33 := Try.underlying33
 have hu37 := Try.underlying37
 have HR0_1 := mA hr0_1
 have HC0_1 := mA hc0_1
 clear hr0_1 hc0_1
 have HR0_2 := mA hr0_2
 have HC0_2 := mA hc0_2
 clear hr0_2 hc0_2
 have HR0_3 := mA hr0_3
 have HC0_3 := mA hc0_3
 clear hr0_3 hc0_3
 have HB := mA (Below.refl w.heap.size w)
 have HT := mA ht
 clear ht
 have H : ((laws_szTask.f a0_0 l0_1 l0_2 l0_3 a0_4 1048576).bind fun t641 => (if t641 < 0 then (some true) else ((laws_toTask.f k a0_0 l0_1 l0_2 l0_3 a0_4).bind fun bt642 => ((spec_BuildSide.f k bt642.1 bt642.2.1 bt642.2.2.1 bt642.2.2.2.1 bt642.2.2.2.2 a1).bind fun t653 => ((laws_toTask.f k a0_0 l0_1 l0_2 l0_3 a0_4).bind fun bt654 => ((impl_BuildSide.f k bt654.1 bt654.2.1 bt654.2.2.1 bt654.2.2.2.1 bt654.2.2.2.2 a1).bind fun t666 => (if t666 = t653 then ((laws_toTask.f k a0_0 l0_1 l0_2 l0_3 a0_4).bind fun bt667 => ((laws_eqTask.f k bt654.1 bt654.2.1 bt654.2.2.1 bt654.2.2.2.1 bt654.2.2.2.2 bt667.1 bt667.2.1 bt667.2.2.1 bt667.2.2.2.1 bt667.2.2.2.2).bind fun t678 => (if t678 = true then (some true) else (some false)))) else (some false)))))))) = some r := h
 clear h
 obtain ⟨t641, A3, H⟩ := Option.bind_eq_some_iff.mp H
 replace A3 := mA A3
 try dsimp only at H
 by_cases c4 : t641 < 0
 ·
  rw [if_pos c4] at H
  have c4b0 : decide (t641 < 0) = true := decide_eq_true c4
  clear c4
  obtain rfl := Option.some.inj H
  go_enter Try.func9, Try.ntmps9
  go_wp2_with (first | ((with_reducible refine gate_dst (N := 2) rfl ?_); refine boxT 2 #[.int .i64 a0_0, .slice A0_1 l0_1.length c0_1, .slice A0_2 l0_2.length c0_2, .slice A0_3 l0_3.length c0_3, .int .i64 a0_4] 33 ?_; intro gb640 hg w5 hbox hb; have BK640 := mA (hbox); have GW640 := mA ((by rw [hg]; exact (below_size (bT HB)) : w.heap.size ≤ gb640)); have GE640 := GW640; replace HB := mA (below_step (bT HB) hb); clear hb hbox hg; obtain ⟨hcz6_0, hcz6_1, hcz6_2, hcz6_3, hcz6_4, hfz6_0, hfz6_1, hfz6_2, hfz6_3, hfz6_4⟩ := blk5 BK640.out) | ((with_reducible refine gate_callee (f := 22) rfl ?_); refine goesT (some 11) Try.func22 #[.agg #[.int .i64 a0_0, .slice A0_1 l0_1.length c0_1, .slice A0_2 l0_2.length c0_2, .slice A0_3 l0_3.length c0_3, .int .i64 a0_4], .int .i64 1048576] ?_; (with_reducible refine (laws_szTask.calls a0_0 _ _ l0_1 _ _ l0_2 _ _ l0_3 a0_4 1048576 t641 _ ?side1 ?side2 ?side3 ?side4 ?side5 ?side6 A3.out).mono ?_); (case side1 => exact cT (Kd.C_below HR0_1.out HB.out)); (case side2 => exact HC0_1.out); (case side3 => exact cT (Kd.C_below HR0_2.out HB.out)); (case side4 => exact HC0_2.out); (case side5 => exact cT (Kd.C_below HR0_3.out HB.out)); (case side6 => exact HC0_3.out); rintro e w7 ⟨rfl, hb⟩; refine ⟨_, rfl, ?_⟩; replace HB := mA (below_step (bT1 HB GE640) hb); (try clear hb)))
  go_ret
  exact ⟨eT, bT1 HB GE640⟩
 ·
  rw [if_neg c4] at H
  have c4b0 : decide (t641 < 0) = false := decide_eq_false c4
  clear c4
  obtain ⟨⟨t642, t643, t646, t649, t652⟩, A8, H⟩ := Option.bind_eq_some_iff.mp H
  replace A8 := mA A8
  try dsimp only at H
  obtain ⟨t653, A9, H⟩ := Option.bind_eq_some_iff.mp H
  replace A9 := mA A9
  try dsimp only at H
  obtain ⟨⟨t654, t655, t658, t661, t664⟩, A10, H⟩ := Option.bind_eq_some_iff.mp H
  replace A10 := mA A10
  try dsimp only at H
  obtain ⟨t666, A11, H⟩ := Option.bind_eq_some_iff.mp H
  replace A11 := mA A11
  try dsimp only at H
  by_cases c12 : t666 = t653
  ·
   rw [if_pos c12] at H
   have c12b0 : (t666 == t653) = true := beq_iff_eq.mpr c12
   have c12b1 : (t666 != t653) = false := bne_eq_false_iff_eq.mpr c12
   clear c12
   obtain ⟨⟨t667, t668, t671, t674, t677⟩, A13, H⟩ := Option.bind_eq_some_iff.mp H
   replace A13 := mA A13
   try dsimp only at H
   obtain ⟨t678, A14, H⟩ := Option.bind_eq_some_iff.mp H
   replace A14 := mA A14
   replace H : (if t678 = true then (some true) else (some false)) = some r := H
   by_cases c15 : t678 = true
   ·
    subst c15
    rw [if_pos rfl] at H
    obtain rfl := Option.some.inj H
    go_enter Try.func9, Try.ntmps9
    try go_wp2_with (first | ((with_reducible refine gate_dst (N := 2) rfl ?_); refine boxT 2 #[.int .i64 a0_0, .slice A0_1 l0_1.length c0_1, .slice A0_2 l0_2.length c0_2, .slice A0_3 l0_3.length c0_3, .int .i64 a0_4] 33 ?_; intro gb640 hg w16 hbox hb; have BK640 := mA (hbox); have GW640 := mA ((by rw [hg]; exact (below_size (bT HB)) : w.heap.size ≤ gb640)); have GE640 := GW640; replace HB := mA (below_step (bT HB) hb); clear hb hbox hg; obtain ⟨hcz17_0, hcz17_1, hcz17_2, hcz17_3, hcz17_4, hfz17_0, hfz17_1, hfz17_2, hfz17_3, hfz17_4⟩ := blk5 BK640.out) | ((with_reducible refine gate_callee (f := 22) rfl ?_); refine goesT (some 11) Try.func22 #[.agg #[.int .i64 a0_0, .slice A0_1 l0_1.length c0_1, .slice A0_2 l0_2.length c0_2, .slice A0_3 l0_3.length c0_3, .int .i64 a0_4], .int .i64 1048576] ?_; (with_reducible refine (laws_szTask.calls a0_0 _ _ l0_1 _ _ l0_2 _ _ l0_3 a0_4 1048576 t641 _ ?side1 ?side2 ?side3 ?side4 ?side5 ?side6 A3.out).mono ?_); (case side1 => exact cT (Kd.C_below HR0_1.out HB.out)); (case side2 => exact HC0_1.out); (case side3 => exact cT (Kd.C_below HR0_2.out HB.out)); (case side4 => exact HC0_2.out); (case side5 => exact cT (Kd.C_below HR0_3.out HB.out)); (case side6 => exact HC0_3.out); rintro e w18 ⟨rfl, hb⟩; refine ⟨_, rfl, ?_⟩; replace BK640 := kB BK640 hb; replace HB := mA (below_step (bT1 HB GE640) hb); (try clear hb); (try clear hk); obtain ⟨hcz19_0, hcz19_1, hcz19_2, hcz19_3, hcz19_4, hfz19_0, hfz19_1, hfz19_2, hfz19_3, hfz19_4⟩ := blk5 BK640.out) | ((with_reducible refine gate_callee (f := 24) rfl ?_); refine goesT (some 15) Try.func24 #[.agg #[.int .i64 a0_0, .slice A0_1 l0_1.length c0_1, .slice A0_2 l0_2.length c0_2, .slice A0_3 l0_3.length c0_3, .int .i64 a0_4]] ?_; (with_reducible refine (laws_toTask.calls k a0_0 _ _ l0_1 _ _ l0_2 _ _ l0_3 a0_4 t642 t643 t646 t649 t652 _ ?side1 ?side2 ?side3 ?side4 ?side5 ?side6 A8.out).mono ?_); (case side1 => exact cT (Kd.C_below HR0_1.out HB.out)); (case side2 => exact HC0_1.out); (case side3 => exact cT (Kd.C_below HR0_2.out HB.out)); (case side4 => exact HC0_2.out); (case side5 => exact cT (Kd.C_below HR0_3.out HB.out)); (case side6 => exact HC0_3.out); rintro e w20 ⟨v644, v647, v650, rfl, ho0, ho1, ho2, hb⟩; refine ⟨_, rfl, ?_⟩; have HO645 := mA (Kd.R_lower ho0 (below_size (bT1 HB GE640))); have HO648 := mA (Kd.R_lower ho1 (below_size (bT1 HB GE640))); have HO651 := mA (Kd.R_lower ho2 (below_size (bT1 HB GE640))); replace BK640 := kB BK640 hb; replace HB := mA (below_step (bT1 HB GE640) hb); (try clear hb); (try clear hk); (try clear ho0); (try clear ho1); (try clear ho2); obtain ⟨Ao21, co21, eo21⟩ := Kd.R_slice HO645.out; subst eo21; obtain ⟨Ao22, co22, eo22⟩ := Kd.R_slice HO648.out; subst eo22; obtain ⟨Ao23, co23, eo23⟩ := Kd.R_slice HO651.out; subst eo23) | ((with_reducible refine gate_callee (f := 37) rfl ?_); refine goesT (some 17) Try.func37 #[.agg #[.int .i64 t642, .slice Ao21 t643.length co21, .slice Ao22 t646.length co22, .slice Ao23 t649.length co23, .int .i64 t652], .int .i64 a1] ?_; (with_reducible refine (spec_BuildSide.calls k t642 _ _ t643 _ _ t646 _ _ t649 t652 a1 t653 _ ?side1 ?side2 ?side3 ?side4 ?side5 ?side6 A9.out).mono ?_); (case side1 => exact cT ((Kd.R_reads' HO645.out).2.2)); (case side2 => exact (Kd.R_reads' HO645.out).2.1); (case side3 => exact cT ((Kd.R_reads' HO648.out).2.2)); (case side4 => exact (Kd.R_reads' HO648.out).2.1); (case side5 => exact cT ((Kd.R_reads' HO651.out).2.2)); (case side6 => exact (Kd.R_reads' HO651.out).2.1); rintro e w24 ⟨rfl, hb⟩; refine ⟨_, rfl, ?_⟩; replace HO645 := rBR HO645 hb; replace HO648 := rBR HO648 hb; replace HO651 := rBR HO651 hb; replace BK640 := kB BK640 hb; replace HB := mA (below_step (bT1 HB GE640) hb); (try clear hb); (try clear hk); obtain ⟨hcz25_0, hcz25_1, hcz25_2, hcz25_3, hcz25_4, hfz25_0, hfz25_1, hfz25_2, hfz25_3, hfz25_4⟩ := blk5 BK640.out) | ((with_reducible refine gate_callee (f := 24) rfl ?_); refine goesT (some 19) Try.func24 #[.agg #[.int .i64 a0_0, .slice A0_1 l0_1.length c0_1, .slice A0_2 l0_2.length c0_2, .slice A0_3 l0_3.length c0_3, .int .i64 a0_4]] ?_; (with_reducible refine (laws_toTask.calls k a0_0 _ _ l0_1 _ _ l0_2 _ _ l0_3 a0_4 t654 t655 t658 t661 t664 _ ?side1 ?side2 ?side3 ?side4 ?side5 ?side6 A10.out).mono ?_); (case side1 => exact cT (Kd.C_below HR0_1.out HB.out)); (case side2 => exact HC0_1.out); (case side3 => exact cT (Kd.C_below HR0_2.out HB.out)); (case side4 => exact HC0_2.out); (case side5 => exact cT (Kd.C_below HR0_3.out HB.out)); (case side6 => exact HC0_3.out); rintro e w26 ⟨v656, v659, v662, rfl, ho0, ho1, ho2, hb⟩; refine ⟨_, rfl, ?_⟩; have HO657 := mA (Kd.R_lower (Kd.R_new' (Kd.R_new' ho0 (Kd.R_lt (rTR HO645))) (Kd.R_lt (rTR HO648))) (below_size (bT1 HB GE640))); have HO660 := mA (Kd.R_lower (Kd.R_new' (Kd.R_new' ho1 (Kd.R_lt (rTR HO645))) (Kd.R_lt (rTR HO648))) (below_size (bT1 HB GE640))); replace HO645 := mA (Kd.R_mono (Kd.R_told (Kd.R_told (Kd.R_old (rTR HO645) hb) (Kd.R_base ho0)) (Kd.R_base ho1)) (fun _ h_ => h_.1)); replace HO648 := mA (Kd.R_mono (Kd.R_told (Kd.R_told (Kd.R_old (rTR HO648) hb) (Kd.R_base ho0)) (Kd.R_base ho1)) (fun _ h_ => h_.1)); have HO663 := mA (Kd.R_lower (Kd.R_new' ho2 (Kd.R_lt (rTR HO651))) (below_size (bT1 HB GE640))); replace HO651 := mA (Kd.R_elder' (rTR HO651) (Kd.R_base ho2) hb); replace BK640 := kB BK640 hb; replace HB := mA (below_step (bT1 HB GE640) hb); (try clear hb); (try clear hk); (try clear ho0); (try clear ho1); (try clear ho2)) | ((with_reducible refine gate_dst (N := 7) rfl ?_); refine boxT 7 #[.int .i64 0, .slice none 0 0, .slice none 0 0, .slice none 0 0, .int .i64 0] 37 ?_; intro gb665 hg w27 hbox hb; replace HO645 := rBR HO645 hb; replace HO648 := rBR HO648 hb; replace HO651 := rBR HO651 hb; replace HO657 := rBR HO657 hb; replace HO660 := rBR HO660 hb; replace HO663 := rBR HO663 hb; have BK665 := mA (hbox); have GW665 := mA ((by rw [hg]; exact (below_size (bT1 HB GE640)) : w.heap.size ≤ gb665)); have GE665 := GW665; replace HB := mA (below_step (bT1 HB GE640) hb); have NB640_665 : Aside0 (gb640 ≠ gb665) := nL BK640 hg; have NB665_640 : Aside0 (gb665 ≠ gb640) := nG BK640 hg; replace BK640 := kB BK640 hb; clear hb hbox hg; have hnb28 := NB665_640.out; have hnc28 := NB640_665.out; obtain ⟨hcz29_0, hcz29_1, hcz29_2, hcz29_3, hcz29_4, hfz29_0, hfz29_1, hfz29_2, hfz29_3, hfz29_4⟩ := blk5 BK665.out; obtain ⟨Ao30, co30, eo30⟩ := Kd.R_slice HO657.out; subst eo30; obtain ⟨Ao31, co31, eo31⟩ := Kd.R_slice HO660.out; subst eo31; obtain ⟨Ao32, co32, eo32⟩ := Kd.R_slice HO663.out; subst eo32) | ((with_reducible refine gate_callee (f := 38) rfl ?_); refine goesT (some 22) Try.func38 #[.agg #[.int .i64 t654, .slice Ao30 t655.length co30, .slice Ao31 t658.length co31, .slice Ao32 t661.length co32, .int .i64 t664], .int .i64 a1] ?_; (with_reducible refine (impl_BuildSide.calls k t654 _ _ t655 _ _ t658 _ _ t661 t664 a1 t666 _ ?side1 ?side2 ?side3 ?side4 ?side5 ?side6 A11.out).mono ?_); (case side1 => refine (Kd.R_reads' (e := 62) (base := w.heap.size) (ok := fun k_ => ((some k_ ≠ (.slice Ao31 t658.length co31 : Value).ownBlock ∧ some k_ ≠ (.slice Ao21 t643.length co21 : Value).ownBlock) ∧ some k_ ≠ (.slice Ao22 t646.length co22 : Value).ownBlock)) (n := t655.length) (c := co30) ?_).2.2; exact (by (with_reducible repeat (first | apply Kd.R_alloc | apply Kd.R_drewN | apply Kd.R_drew)); exact (Kd.R_mono (Kd.R_far (p := ⟨gb665, 4, none⟩) (Kd.R_far (p := ⟨gb665, 3, none⟩) (Kd.R_far (p := ⟨gb665, 2, none⟩) (Kd.R_far (p := ⟨gb665, 1, none⟩) (Kd.R_far (p := ⟨gb665, 0, none⟩) (Kd.R_types HO657.out BK665.out (by decide)) (fun _ hk => hk.2) (.int .i64 t654)) (fun _ hk => hk.2) (.slice Ao30 t655.length co30)) (fun _ hk => hk.2) (.slice Ao31 t658.length co31)) (fun _ hk => hk.2) (.slice Ao32 t661.length co32)) (fun _ hk => hk.2) (.int .i64 t664)) (fun _ h_ => h_.1)))); (case side2 => exact (Kd.R_reads' HO657.out).2.1); (case side3 => refine (Kd.R_reads' (e := 62) (base := w.heap.size) (ok := fun k_ => ((some k_ ≠ (.slice Ao30 t655.length co30 : Value).ownBlock ∧ some k_ ≠ (.slice Ao21 t643.length co21 : Value).ownBlock) ∧ some k_ ≠ (.slice Ao22 t646.length co22 : Value).ownBlock)) (n := t658.length) (c := co31) ?_).2.2; exact (by (with_reducible repeat (first | apply Kd.R_alloc | apply Kd.R_drewN | apply Kd.R_drew)); exact (Kd.R_mono (Kd.R_far (p := ⟨gb665, 4, none⟩) (Kd.R_far (p := ⟨gb665, 3, none⟩) (Kd.R_far (p := ⟨gb665, 2, none⟩) (Kd.R_far (p := ⟨gb665, 1, none⟩) (Kd.R_far (p := ⟨gb665, 0, none⟩) (Kd.R_types HO660.out BK665.out (by decide)) (fun _ hk => hk.2) (.int .i64 t654)) (fun _ hk => hk.2) (.slice Ao30 t655.length co30)) (fun _ hk => hk.2) (.slice Ao31 t658.length co31)) (fun _ hk => hk.2) (.slice Ao32 t661.length co32)) (fun _ hk => hk.2) (.int .i64 t664)) (fun _ h_ => h_.1)))); (case side4 => exact (Kd.R_reads' HO660.out).2.1); (case side5 => refine (Kd.R_reads' (e := 4) (base := w.heap.size) (ok := fun k_ => (True ∧ some k_ ≠ (.slice Ao23 t649.length co23 : Value).ownBlock)) (n := t661.length) (c := co32) ?_).2.2; exact (by (with_reducible repeat (first | apply Kd.R_alloc | apply Kd.R_drewN | apply Kd.R_drew)); exact (Kd.R_mono (Kd.R_far (p := ⟨gb665, 4, none⟩) (Kd.R_far (p := ⟨gb665, 3, none⟩) (Kd.R_far (p := ⟨gb665, 2, none⟩) (Kd.R_far (p := ⟨gb665, 1, none⟩) (Kd.R_far (p := ⟨gb665, 0, none⟩) (Kd.R_types HO663.out BK665.out (by decide)) (fun _ hk => hk.2) (.int .i64 t654)) (fun _ hk => hk.2) (.slice Ao30 t655.length co30)) (fun _ hk => hk.2) (.slice Ao31 t658.length co31)) (fun _ hk => hk.2) (.slice Ao32 t661.length co32)) (fun _ hk => hk.2) (.int .i64 t664)) (fun _ h_ => h_.1)))); (case side6 => exact (Kd.R_reads' HO663.out).2.1); rintro e w33 ⟨rfl, hb⟩; refine ⟨_, rfl, ?_⟩; replace HO645 := mA (Kd.R_below (by (with_reducible repeat (first | apply Kd.R_alloc | apply Kd.R_drewN | apply Kd.R_drew)); exact (Kd.R_mono (Kd.R_far (p := ⟨gb665, 4, none⟩) (Kd.R_far (p := ⟨gb665, 3, none⟩) (Kd.R_far (p := ⟨gb665, 2, none⟩) (Kd.R_far (p := ⟨gb665, 1, none⟩) (Kd.R_far (p := ⟨gb665, 0, none⟩) (Kd.R_types HO645.out BK665.out (by decide)) (fun _ hk => hk.2) (.int .i64 t654)) (fun _ hk => hk.2) (.slice Ao30 t655.length co30)) (fun _ hk => hk.2) (.slice Ao31 t658.length co31)) (fun _ hk => hk.2) (.slice Ao32 t661.length co32)) (fun _ hk => hk.2) (.int .i64 t664)) (fun _ h_ => h_.1))) hb); replace HO648 := mA (Kd.R_below (by (with_reducible repeat (first | apply Kd.R_alloc | apply Kd.R_drewN | apply Kd.R_drew)); exact (Kd.R_mono (Kd.R_far (p := ⟨gb665, 4, none⟩) (Kd.R_far (p := ⟨gb665, 3, none⟩) (Kd.R_far (p := ⟨gb665, 2, none⟩) (Kd.R_far (p := ⟨gb665, 1, none⟩) (Kd.R_far (p := ⟨gb665, 0, none⟩) (Kd.R_types HO648.out BK665.out (by decide)) (fun _ hk => hk.2) (.int .i64 t654)) (fun _ hk => hk.2) (.slice Ao30 t655.length co30)) (fun _ hk => hk.2) (.slice Ao31 t658.length co31)) (fun _ hk => hk.2) (.slice Ao32 t661.length co32)) (fun _ hk => hk.2) (.int .i64 t664)) (fun _ h_ => h_.1))) hb); replace HO651 := mA (Kd.R_below (by (with_reducible repeat (first | apply Kd.R_alloc | apply Kd.R_drewN | apply Kd.R_drew)); exact (Kd.R_mono (Kd.R_far (p := ⟨gb665, 4, none⟩) (Kd.R_far (p := ⟨gb665, 3, none⟩) (Kd.R_far (p := ⟨gb665, 2, none⟩) (Kd.R_far (p := ⟨gb665, 1, none⟩) (Kd.R_far (p := ⟨gb665, 0, none⟩) (Kd.R_types HO651.out BK665.out (by decide)) (fun _ hk => hk.2) (.int .i64 t654)) (fun _ hk => hk.2) (.slice Ao30 t655.length co30)) (fun _ hk => hk.2) (.slice Ao31 t658.length co31)) (fun _ hk => hk.2) (.slice Ao32 t661.length co32)) (fun _ hk => hk.2) (.int .i64 t664)) (fun _ h_ => h_.1))) hb); replace HO657 := mA (Kd.R_below (by (with_reducible repeat (first | apply Kd.R_alloc | apply Kd.R_drewN | apply Kd.R_drew)); exact (Kd.R_mono (Kd.R_far (p := ⟨gb665, 4, none⟩) (Kd.R_far (p := ⟨gb665, 3, none⟩) (Kd.R_far (p := ⟨gb665, 2, none⟩) (Kd.R_far (p := ⟨gb665, 1, none⟩) (Kd.R_far (p := ⟨gb665, 0, none⟩) (Kd.R_types HO657.out BK665.out (by decide)) (fun _ hk => hk.2) (.int .i64 t654)) (fun _ hk => hk.2) (.slice Ao30 t655.length co30)) (fun _ hk => hk.2) (.slice Ao31 t658.length co31)) (fun _ hk => hk.2) (.slice Ao32 t661.length co32)) (fun _ hk => hk.2) (.int .i64 t664)) (fun _ h_ => h_.1))) hb); replace HO660 := mA (Kd.R_below (by (with_reducible repeat (first | apply Kd.R_alloc | apply Kd.R_drewN | apply Kd.R_drew)); exact (Kd.R_mono (Kd.R_far (p := ⟨gb665, 4, none⟩) (Kd.R_far (p := ⟨gb665, 3, none⟩) (Kd.R_far (p := ⟨gb665, 2, none⟩) (Kd.R_far (p := ⟨gb665, 1, none⟩) (Kd.R_far (p := ⟨gb665, 0, none⟩) (Kd.R_types HO660.out BK665.out (by decide)) (fun _ hk => hk.2) (.int .i64 t654)) (fun _ hk => hk.2) (.slice Ao30 t655.length co30)) (fun _ hk => hk.2) (.slice Ao31 t658.length co31)) (fun _ hk => hk.2) (.slice Ao32 t661.length co32)) (fun _ hk => hk.2) (.int .i64 t664)) (fun _ h_ => h_.1))) hb); replace HO663 := mA (Kd.R_below (by (with_reducible repeat (first | apply Kd.R_alloc | apply Kd.R_drewN | apply Kd.R_drew)); exact (Kd.R_mono (Kd.R_far (p := ⟨gb665, 4, none⟩) (Kd.R_far (p := ⟨gb665, 3, none⟩) (Kd.R_far (p := ⟨gb665, 2, none⟩) (Kd.R_far (p := ⟨gb665, 1, none⟩) (Kd.R_far (p := ⟨gb665, 0, none⟩) (Kd.R_types HO663.out BK665.out (by decide)) (fun _ hk => hk.2) (.int .i64 t654)) (fun _ hk => hk.2) (.slice Ao30 t655.length co30)) (fun _ hk => hk.2) (.slice Ao31 t658.length co31)) (fun _ hk => hk.2) (.slice Ao32 t661.length co32)) (fun _ hk => hk.2) (.int .i64 t664)) (fun _ h_ => h_.1))) hb); replace BK640 := mA (blk_below (g := gb640) (o := .cells #[.int .i64 a0_0, .slice A0_1 l0_1.length c0_1, .slice A0_2 l0_2.length c0_2, .slice A0_3 l0_3.length c0_3, .int .i64 a0_4] 33 (0, 0)) (by (with_reducible repeat (first | refine blk_drewN ?_ _ | refine blk_drew ?_ | refine blk_alloc ?_ _)); refine blk_far ?_ NB640_665.out _; (with_reducible repeat (first | refine blk_drewN ?_ _ | refine blk_drew ?_ | refine blk_alloc ?_ _)); refine blk_far ?_ NB640_665.out _; (with_reducible repeat (first | refine blk_drewN ?_ _ | refine blk_drew ?_ | refine blk_alloc ?_ _)); refine blk_far ?_ NB640_665.out _; (with_reducible repeat (first | refine blk_drewN ?_ _ | refine blk_drew ?_ | refine blk_alloc ?_ _)); refine blk_far ?_ NB640_665.out _; (with_reducible repeat (first | refine blk_drewN ?_ _ | refine blk_drew ?_ | refine blk_alloc ?_ _)); refine blk_far ?_ NB640_665.out _; (with_reducible repeat (first | refine blk_drewN ?_ _ | refine blk_drew ?_ | refine blk_alloc ?_ _)); exact BK640.out) hb); replace BK665 := mA (blk_below (g := gb665) (o := .cells #[.int .i64 t654, .slice Ao30 t655.length co30, .slice Ao31 t658.length co31, .slice Ao32 t661.length co32, .int .i64 t664] 37 (0, 0)) (by (with_reducible repeat (first | refine blk_drewN ?_ _ | refine blk_drew ?_ | refine blk_alloc ?_ _)); refine blk_put (cs := #[.int .i64 t654, .slice Ao30 t655.length co30, .slice Ao31 t658.length co31, .slice Ao32 t661.length co32, .int .i64 0]) ?_ 4 _ rfl; (with_reducible repeat (first | refine blk_drewN ?_ _ | refine blk_drew ?_ | refine blk_alloc ?_ _)); refine blk_put (cs := #[.int .i64 t654, .slice Ao30 t655.length co30, .slice Ao31 t658.length co31, .slice none 0 0, .int .i64 0]) ?_ 3 _ rfl; (with_reducible repeat (first | refine blk_drewN ?_ _ | refine blk_drew ?_ | refine blk_alloc ?_ _)); refine blk_put (cs := #[.int .i64 t654, .slice Ao30 t655.length co30, .slice none 0 0, .slice none 0 0, .int .i64 0]) ?_ 2 _ rfl; (with_reducible repeat (first | refine blk_drewN ?_ _ | refine blk_drew ?_ | refine blk_alloc ?_ _)); refine blk_put (cs := #[.int .i64 t654, .slice none 0 0, .slice none 0 0, .slice none 0 0, .int .i64 0]) ?_ 1 _ rfl; (with_reducible repeat (first | refine blk_drewN ?_ _ | refine blk_drew ?_ | refine blk_alloc ?_ _)); refine blk_put (cs := #[.int .i64 0, .slice none 0 0, .slice none 0 0, .slice none 0 0, .int .i64 0]) ?_ 0 _ rfl; (with_reducible repeat (first | refine blk_drewN ?_ _ | refine blk_drew ?_ | refine blk_alloc ?_ _)); exact BK665.out) hb); replace HB := mA (below_step (bT2 HB GE640 GE665) hb); (try clear hb); (try clear hk)))
    replace HO645 := mA (Kd.R_drew HO645.out)
    replace HO648 := mA (Kd.R_drew HO648.out)
    replace HO651 := mA (Kd.R_drew HO651.out)
    replace HO657 := mA (Kd.R_drew HO657.out)
    replace HO660 := mA (Kd.R_drew HO660.out)
    replace HO663 := mA (Kd.R_drew HO663.out)
    replace BK640 := mA (blk_drew BK640.out)
    replace BK665 := mA (blk_drew BK665.out)
    replace HB := mA (below_drew1 HB.out)
    refine start_ (n := 5) (S := fun w' => w'.cell? ⟨gb665, 0, none⟩ = some (.int .i64 t654) ∧ w'.cell? ⟨gb665, 1, none⟩ = some (.slice Ao30 t655.length co30) ∧ w'.cell? ⟨gb665, 2, none⟩ = some (.slice Ao31 t658.length co31) ∧ w'.cell? ⟨gb665, 3, none⟩ = some (.slice Ao32 t661.length co32) ∧ w'.cell? ⟨gb665, 4, none⟩ = some (.int .i64 t664) ∧ w'.cell? ⟨gb640, 0, none⟩ = some (.int .i64 a0_0) ∧ w'.cell? ⟨gb640, 1, none⟩ = some (.slice A0_1 l0_1.length c0_1) ∧ w'.cell? ⟨gb640, 2, none⟩ = some (.slice A0_2 l0_2.length c0_2) ∧ w'.cell? ⟨gb640, 3, none⟩ = some (.slice A0_3 l0_3.length c0_3) ∧ w'.cell? ⟨gb640, 4, none⟩ = some (.int .i64 a0_4)) (ds := []) #[false, false, false, false, false] (by kernel_rfl) rfl rfl ⟨(blk_cell BK665.out 0).trans rfl, (blk_cell BK665.out 1).trans rfl, (blk_cell BK665.out 2).trans rfl, (blk_cell BK665.out 3).trans rfl, (blk_cell BK665.out 4).trans rfl, (blk_cell BK640.out 0).trans rfl, (blk_cell BK640.out 1).trans rfl, (blk_cell BK640.out 2).trans rfl, (blk_cell BK640.out 3).trans rfl, (blk_cell BK640.out 4).trans rfl⟩ (fun hHeld => ?_)
    generalize w33.drew = w34 at HO645 HO648 HO651 HO657 HO660 HO663 BK640 BK665 HB hHeld ⊢
    refine take_ (i := 0) (N := some 26) (v := ?_) (a' := ?_) #[true, false, false, false, false] rfl rfl (by kernel_rfl) (fun _ _ _ h => h) (Or.inl ⟨by rfl, ?_⟩) hHeld ?_ ?_
    rotate_left
    ·
     rintro w' ⟨s0, s1, s2, s3, s4, s5, s6, s7, s8, s9⟩
     go_simp
     with_reducible rfl
    rotate_left
    ·
     simp only [Act.put, List.setIfInBounds_toArray, List.set_cons_zero, List.set_cons_succ, i64_w, i32_w]
     rfl
    refine take_ (i := 1) (N := some 27) (v := ?_) (a' := ?_) #[true, true, false, false, false] rfl rfl (by kernel_rfl) (fun _ _ _ h => h) (Or.inl ⟨by rfl, ?_⟩) hHeld ?_ ?_
    rotate_left
    ·
     rintro w' ⟨s0, s1, s2, s3, s4, s5, s6, s7, s8, s9⟩
     go_simp
     with_reducible rfl
    rotate_left
    ·
     simp only [Act.put, List.setIfInBounds_toArray, List.set_cons_zero, List.set_cons_succ, i64_w, i32_w]
     rfl
    refine one_ (i := 2) (N := some 28) #[true, true, true, false, false] rfl rfl (by kernel_rfl) (by decide) (fun K hK => ?_)
    refine goes_ Try.func24 (by kernel_rfl) rfl #[.agg #[.int .i64 a0_0, .slice A0_1 l0_1.length c0_1, .slice A0_2 l0_2.length c0_2, .slice A0_3 l0_3.length c0_3, .int .i64 a0_4]] (by rfl) rfl rfl mT ?_
    with_reducible refine (laws_toTask.calls k a0_0 _ _ l0_1 _ _ l0_2 _ _ l0_3 a0_4 t667 t668 t671 t674 t677 _ ?side1 ?side2 ?side3 ?side4 ?side5 ?side6 A13.out).mono ?_
    (case side1 => exact cT (Kd.C_below HR0_1.out HB.out))
    (case side2 => exact HC0_1.out)
    (case side3 => exact cT (Kd.C_below HR0_2.out HB.out))
    (case side4 => exact HC0_2.out)
    (case side5 => exact cT (Kd.C_below HR0_3.out HB.out))
    (case side6 => exact HC0_3.out)
    rintro e w35 ⟨v669, v672, v675, rfl, ho0, ho1, ho2, hb⟩
    refine ⟨_, rfl, ?_⟩
    have HO670 := mA (Kd.R_lower (Kd.R_new' (Kd.R_new' (Kd.R_new' (Kd.R_new' ho0 (Kd.R_lt (rTR HO645))) (Kd.R_lt (rTR HO648))) (Kd.R_lt (rTR HO657))) (Kd.R_lt (rTR HO660))) (below_size (bT2 HB GE640 GE665)))
    have HO673 := mA (Kd.R_lower (Kd.R_new' (Kd.R_new' (Kd.R_new' (Kd.R_new' ho1 (Kd.R_lt (rTR HO645))) (Kd.R_lt (rTR HO648))) (Kd.R_lt (rTR HO657))) (Kd.R_lt (rTR HO660))) (below_size (bT2 HB GE640 GE665)))
    replace HO657 := mA (Kd.R_mono (Kd.R_told (Kd.R_told (Kd.R_old (rTR HO657) hb) (Kd.R_base ho0)) (Kd.R_base ho1)) (fun _ h_ => h_.1))
    replace HO660 := mA (Kd.R_mono (Kd.R_told (Kd.R_told (Kd.R_old (rTR HO660) hb) (Kd.R_base ho0)) (Kd.R_base ho1)) (fun _ h_ => h_.1))
    have HO676 := mA (Kd.R_lower (Kd.R_new' (Kd.R_new' ho2 (Kd.R_lt (rTR HO651))) (Kd.R_lt (rTR HO663))) (below_size (bT2 HB GE640 GE665)))
    replace HO663 := mA (Kd.R_elder' (rTR HO663) (Kd.R_base ho2) hb)
    replace BK640 := kB BK640 hb
    replace BK665 := kB BK665 hb
    replace HB := mA (below_step (bT2 HB GE640 GE665) hb)
    (try clear hb)
    (try clear hb2)
    (try clear hk)
    (try clear hi)
    (try clear ho0)
    (try clear ho1)
    (try clear ho2)
    obtain ⟨Ao36, co36, eo36⟩ := Kd.R_slice HO670.out
    (first | subst eo36 | (injection eo36 with f1_ f2_ f3_; have f4_ := f1_.symm; have f5_ := f3_.symm; clear f1_ f2_ f3_; subst f4_; subst f5_))
    obtain ⟨Ao37, co37, eo37⟩ := Kd.R_slice HO673.out
    (first | subst eo37 | (injection eo37 with f1_ f2_ f3_; have f4_ := f1_.symm; have f5_ := f3_.symm; clear f1_ f2_ f3_; subst f4_; subst f5_))
    obtain ⟨Ao38, co38, eo38⟩ := Kd.R_slice HO676.out
    (first | subst eo38 | (injection eo38 with f1_ f2_ f3_; have f4_ := f1_.symm; have f5_ := f3_.symm; clear f1_ f2_ f3_; subst f4_; subst f5_))
    refine hK.out _ _ ⟨(blk_cell BK665.out 0).trans rfl, (blk_cell BK665.out 1).trans rfl, (blk_cell BK665.out 2).trans rfl, (blk_cell BK665.out 3).trans rfl, (blk_cell BK665.out 4).trans rfl, (blk_cell BK640.out 0).trans rfl, (blk_cell BK640.out 1).trans rfl, (blk_cell BK640.out 2).trans rfl, (blk_cell BK640.out 3).trans rfl, (blk_cell BK640.out 4).trans rfl⟩ (fun hHeld => ?_)
    clear hK K
    refine norm_ (a' := ?_) ?_ ?_
    rotate_left
    ·
     show Act.put _ (some 28) _ = _
     simp only [Act.put, List.setIfInBounds_toArray, List.set_cons_zero, List.set_cons_succ, i64_w, i32_w]
     rfl
    refine one_ (i := 3) (N := some 29) #[true, true, true, true, false] rfl rfl (by kernel_rfl) (by decide) (fun K hK => ?_)
    refine goes_ Try.func26 (by kernel_rfl) rfl #[.agg #[.int .i64 t654, .slice Ao30 t655.length co30, .slice Ao31 t658.length co31, .slice Ao32 t661.length co32, .int .i64 t664], .agg #[.int .i64 t667, .slice Ao36 t668.length co36, .slice Ao37 t671.length co37, .slice Ao38 t674.length co38, .int .i64 t677]] (by rfl) rfl rfl mT ?_
    with_reducible refine (laws_eqTask.calls k t654 _ _ t655 _ _ t658 _ _ t661 t664 t667 _ _ t668 _ _ t671 _ _ t674 t677 true _ ?side1 ?side2 ?side3 ?side4 ?side5 ?side6 ?side7 ?side8 ?side9 ?side10 ?side11 ?side12 A14.out).mono ?_
    (case side1 => exact cT ((Kd.R_reads' HO657.out).2.2))
    (case side2 => exact (Kd.R_reads' HO657.out).2.1)
    (case side3 => exact cT ((Kd.R_reads' HO660.out).2.2))
    (case side4 => exact (Kd.R_reads' HO660.out).2.1)
    (case side5 => exact cT ((Kd.R_reads' HO663.out).2.2))
    (case side6 => exact (Kd.R_reads' HO663.out).2.1)
    (case side7 => exact cT ((Kd.R_reads' HO670.out).2.2))
    (case side8 => exact (Kd.R_reads' HO670.out).2.1)
    (case side9 => exact cT ((Kd.R_reads' HO673.out).2.2))
    (case side10 => exact (Kd.R_reads' HO673.out).2.1)
    (case side11 => exact cT ((Kd.R_reads' HO676.out).2.2))
    (case side12 => exact (Kd.R_reads' HO676.out).2.1)
    rintro e w39 ⟨rfl, hb⟩
    refine ⟨_, rfl, ?_⟩
    replace BK640 := kB BK640 hb
    replace BK665 := kB BK665 hb
    replace HB := mA (below_step (bT2 HB GE640 GE665) hb)
    (try clear hb)
    (try clear hb2)
    (try clear hk)
    (try clear hi)
    refine hK.out _ _ ⟨(blk_cell BK665.out 0).trans rfl, (blk_cell BK665.out 1).trans rfl, (blk_cell BK665.out 2).trans rfl, (blk_cell BK665.out 3).trans rfl, (blk_cell BK665.out 4).trans rfl, (blk_cell BK640.out 0).trans rfl, (blk_cell BK640.out 1).trans rfl, (blk_cell BK640.out 2).trans rfl, (blk_cell BK640.out 3).trans rfl, (blk_cell BK640.out 4).trans rfl⟩ (fun hHeld => ?_)
    clear hK K
    refine norm_ (a' := ?_) ?_ ?_
    rotate_left
    ·
     show Act.put _ (some 29) _ = _
     simp only [Act.put, List.setIfInBounds_toArray, List.set_cons_zero, List.set_cons_succ, i64_w, i32_w]
     rfl
    refine pureT (i := 4) (N := some 30) #[true, true, true, true, true] (by kernel_rfl) ?_
    refine done_ (by kernel_rfl) ?_
    try go_wp2
    go_ret
    exact ⟨eT, bT2 HB GE640 GE665⟩
   ·
    replace c15 := Bool.eq_false_iff.mpr c15
    subst c15
    rw [if_neg (show ¬ (false = true) by decide)] at H
    exact absurd ((Option.some.inj H).trans HT.out) (by simp)
  ·
   rw [if_neg c12] at H
   have c12b0 : (t666 == t653) = false := beq_eq_false_iff_ne.mpr c12
   have c12b1 : (t666 != t653) = true := bne_iff_ne.mpr c12
   exact absurd ((Option.some.inj H).trans HT.out) (by simp)

end Go.Proofs.Ythciieopabndcaa.P
