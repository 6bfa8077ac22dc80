/- Written by tools/seatprint.py over the translation. Lean checks it. -/
import Derived.Test.YtnllplklggoabaaP0
import Derived.Test.YtnllplklggoabaaP6ac0
import Derived.Test.YtnllplklggoabaaPac0
namespace Go.Proofs.Ytnllplklggoabaa.P
open Go.RowKit Go.Proofs.YtnllplklggoabaaW.PrintWords Go.Proofs.YtnllplklggoabaaW.PrintLast Go.Proofs.YtnllplklggoabaaW.PrintMore
attribute [local go_sem] max2_int min2_int max_two min_two max_three min_three max_four min_four
set_option linter.unusedVariables false
set_option linter.unusedSimpArgs false

/-! ### laws_FnExactFormatTask: function 4 -/
def laws_FnExactFormatTask.f (k : Nat) (a0_0 : Int) (l0_1 : List (S126)) (l0_2 : List (S126)) (l0_3 : List Bool) (a0_4 : Int) : Option (Bool) := (laws_szTask.f a0_0 l0_1 l0_2 l0_3 a0_4 1048576).bind fun t317 => (if t317 < 0 then (some true) else ((laws_toTask.f k a0_0 l0_1 l0_2 l0_3 a0_4).bind fun bt318 => ((spec_FormatTask.f k bt318.1 bt318.2.1 bt318.2.2.1 bt318.2.2.2.1 bt318.2.2.2.2).bind fun t329 => ((laws_toTask.f k a0_0 l0_1 l0_2 l0_3 a0_4).bind fun bt330 => ((impl_FormatTask.f k bt330.1 bt330.2.1 bt330.2.2.1 bt330.2.2.2.1 bt330.2.2.2.2).bind fun t342 => (if t342.toList = t329.toList then ((laws_toTask.f k a0_0 l0_1 l0_2 l0_3 a0_4).bind fun bt343 => ((laws_eqTask.f k bt330.1 bt330.2.1 bt330.2.2.1 bt330.2.2.2.1 bt330.2.2.2.2 bt343.1 bt343.2.1 bt343.2.2.1 bt343.2.2.2.1 bt343.2.2.2.2).bind fun t354 => (if t354 = true then (some true) else (some false)))) else (some false)))))))
theorem laws_FnExactFormatTask.mono : ∀ a0 a1 a2 a3 a4 k, LeO (laws_FnExactFormatTask.f k a0 a1 a2 a3 a4) (laws_FnExactFormatTask.f (k + 1) a0 a1 a2 a3 a4) := by
 intro a0 a1 a2 a3 a4 k
 unfold laws_FnExactFormatTask.f
 repeat' first
   | (with_reducible exact impl_FormatTask.mono _ _ _ _ _ _)
   | (with_reducible exact laws_eqTask.mono _ _ _ _ _ _ _ _ _ _ _)
   | (with_reducible exact laws_toTask.mono _ _ _ _ _ _)
   | (with_reducible exact spec_FormatTask.mono _ _ _ _ _ _)
   | (with_reducible exact LeO.refl _)
   | (with_reducible exact LeO.none _)
   | (with_reducible refine LeO.ite ?_ ?_)
   | (with_reducible refine LeO.bind ?_ (fun _ => ?_))
   | exact impl_FormatTask.mono _ _ _ _ _ _
   | exact laws_eqTask.mono _ _ _ _ _ _ _ _ _ _ _
   | exact laws_toTask.mono _ _ _ _ _ _
   | exact spec_FormatTask.mono _ _ _ _ _ _
   | exact LeO.none _
   | refine LeO.ite ?_ ?_
   | refine LeO.bind ?_ (fun _ => ?_)
set_option maxHeartbeats 8000000 in
set_option maxRecDepth 100000 in
theorem laws_FnExactFormatTask.calls (k : Nat) (a0_0 : Int) (A0_1 : Option Addr) (c0_1 : Nat) (l0_1 : List (S126)) (A0_2 : Option Addr) (c0_2 : Nat) (l0_2 : List (S126)) (A0_3 : Option Addr) (c0_3 : Nat) (l0_3 : List Bool) (a0_4 : Int) (r : Bool) (w : World) (hr0_1 : Kd.C k126 w A0_1 l0_1.length l0_1) (hc0_1 : l0_1.length ≤ c0_1) (hr0_2 : Kd.C k126 w A0_2 l0_2.length l0_2) (hc0_2 : l0_2.length ≤ c0_2) (hr0_3 : Kd.C Kd.bool w A0_3 l0_3.length l0_3) (hc0_3 : l0_3.length ≤ c0_3) (ht : r = true) (h : laws_FnExactFormatTask.f k a0_0 l0_1 l0_2 l0_3 a0_4 = some r) :
  Calls Try.prog 4 #[.agg #[.int .i64 a0_0, .slice A0_1 l0_1.length c0_1, .slice A0_2 l0_2.length c0_2, .slice A0_3 l0_3.length c0_3, .int .i64 a0_4]] w fun e w' => e = .returned (.bool r) ∧ Below w.heap.size w w' := by
 have hu32 := Try.underlying32
 have hu37 := Try.underlying37
 have HR0_1 := mA hr0_1
 have HC0_1 := mA hc0_1
 clear hr0_1 hc0_1
 have HR0_2 := mA hr0_2
 have HC0_2 := mA hc0_2
 clear hr0_2 hc0_2
 have HR0_3 := mA hr0_3
 have HC0_3 := mA hc0_3
 clear hr0_3 hc0_3
 have HB := mA (Below.refl w.heap.size w)
 have HT := mA ht
 clear ht
 have H : ((laws_szTask.f a0_0 l0_1 l0_2 l0_3 a0_4 1048576).bind fun t317 => (if t317 < 0 then (some true) else ((laws_toTask.f k a0_0 l0_1 l0_2 l0_3 a0_4).bind fun bt318 => ((spec_FormatTask.f k bt318.1 bt318.2.1 bt318.2.2.1 bt318.2.2.2.1 bt318.2.2.2.2).bind fun t329 => ((laws_toTask.f k a0_0 l0_1 l0_2 l0_3 a0_4).bind fun bt330 => ((impl_FormatTask.f k bt330.1 bt330.2.1 bt330.2.2.1 bt330.2.2.2.1 bt330.2.2.2.2).bind fun t342 => (if t342.toList = t329.toList then ((laws_toTask.f k a0_0 l0_1 l0_2 l0_3 a0_4).bind fun bt343 => ((laws_eqTask.f k bt330.1 bt330.2.1 bt330.2.2.1 bt330.2.2.2.1 bt330.2.2.2.2 bt343.1 bt343.2.1 bt343.2.2.1 bt343.2.2.2.1 bt343.2.2.2.2).bind fun t354 => (if t354 = true then (some true) else (some false)))) else (some false)))))))) = some r := h
 clear h
 obtain ⟨t317, A2, H⟩ := Option.bind_eq_some_iff.mp H
 replace A2 := mA A2
 try dsimp only at H
 by_cases c3 : t317 < 0
 ·
  rw [if_pos c3] at H
  have c3b0 : decide (t317 < 0) = true := decide_eq_true c3
  clear c3
  obtain rfl := Option.some.inj H
  go_enter Try.func4, Try.ntmps4
  go_wp2_with (first | ((with_reducible refine gate_dst (N := 1) rfl ?_); refine boxT 1 #[.int .i64 a0_0, .slice A0_1 l0_1.length c0_1, .slice A0_2 l0_2.length c0_2, .slice A0_3 l0_3.length c0_3, .int .i64 a0_4] 32 ?_; intro gb316 hg w4 hbox hb; have BK316 := mA (hbox); have GW316 := mA ((by rw [hg]; exact (below_size (bT HB)) : w.heap.size ≤ gb316)); have GE316 := GW316; replace HB := mA (below_step (bT HB) hb); clear hb hbox hg; obtain ⟨hcz5_0, hcz5_1, hcz5_2, hcz5_3, hcz5_4, hfz5_0, hfz5_1, hfz5_2, hfz5_3, hfz5_4⟩ := blk5 BK316.out) | ((with_reducible refine gate_callee (f := 15) rfl ?_); refine goesT (some 9) Try.func15 #[.agg #[.int .i64 a0_0, .slice A0_1 l0_1.length c0_1, .slice A0_2 l0_2.length c0_2, .slice A0_3 l0_3.length c0_3, .int .i64 a0_4], .int .i64 1048576] ?_; (with_reducible refine (laws_szTask.calls a0_0 _ _ l0_1 _ _ l0_2 _ _ l0_3 a0_4 1048576 t317 _ ?side1 ?side2 ?side3 ?side4 ?side5 ?side6 A2.out).mono ?_); (case side1 => exact cT (Kd.C_below HR0_1.out HB.out)); (case side2 => exact HC0_1.out); (case side3 => exact cT (Kd.C_below HR0_2.out HB.out)); (case side4 => exact HC0_2.out); (case side5 => exact cT (Kd.C_below HR0_3.out HB.out)); (case side6 => exact HC0_3.out); rintro e w6 ⟨rfl, hb⟩; refine ⟨_, rfl, ?_⟩; replace HB := mA (below_step (bT1 HB GE316) hb); (try clear hb)))
  go_ret
  exact ⟨eT, bT1 HB GE316⟩
 ·
  rw [if_neg c3] at H
  have c3b0 : decide (t317 < 0) = false := decide_eq_false c3
  clear c3
  obtain ⟨⟨t318, t319, t322, t325, t328⟩, A7, H⟩ := Option.bind_eq_some_iff.mp H
  replace A7 := mA A7
  try dsimp only at H
  obtain ⟨t329, A8, H⟩ := Option.bind_eq_some_iff.mp H
  replace A8 := mA A8
  try dsimp only at H
  obtain ⟨⟨t330, t331, t334, t337, t340⟩, A9, H⟩ := Option.bind_eq_some_iff.mp H
  replace A9 := mA A9
  try dsimp only at H
  obtain ⟨t342, A10, H⟩ := Option.bind_eq_some_iff.mp H
  replace A10 := mA A10
  try dsimp only at H
  by_cases c11 : t342.toList = t329.toList
  ·
   rw [if_pos c11] at H
   have c11b0 : (t342.toList == t329.toList) = true := beq_iff_eq.mpr c11
   have c11b1 : (t342.toList != t329.toList) = false := bne_eq_false_iff_eq.mpr c11
   clear c11
   obtain ⟨⟨t343, t344, t347, t350, t353⟩, A12, H⟩ := Option.bind_eq_some_iff.mp H
   replace A12 := mA A12
   try dsimp only at H
   obtain ⟨t354, A13, H⟩ := Option.bind_eq_some_iff.mp H
   replace A13 := mA A13
   replace H : (if t354 = true then (some true) else (some false)) = some r := H
   by_cases c14 : t354 = true
   ·
    subst c14
    rw [if_pos rfl] at H
    obtain rfl := Option.some.inj H
    go_enter Try.func4, Try.ntmps4
    try go_wp2_with (first | ((with_reducible refine gate_dst (N := 1) rfl ?_); refine boxT 1 #[.int .i64 a0_0, .slice A0_1 l0_1.length c0_1, .slice A0_2 l0_2.length c0_2, .slice A0_3 l0_3.length c0_3, .int .i64 a0_4] 32 ?_; intro gb316 hg w15 hbox hb; have BK316 := mA (hbox); have GW316 := mA ((by rw [hg]; exact (below_size (bT HB)) : w.heap.size ≤ gb316)); have GE316 := GW316; replace HB := mA (below_step (bT HB) hb); clear hb hbox hg; obtain ⟨hcz16_0, hcz16_1, hcz16_2, hcz16_3, hcz16_4, hfz16_0, hfz16_1, hfz16_2, hfz16_3, hfz16_4⟩ := blk5 BK316.out) | ((with_reducible refine gate_callee (f := 15) rfl ?_); refine goesT (some 9) Try.func15 #[.agg #[.int .i64 a0_0, .slice A0_1 l0_1.length c0_1, .slice A0_2 l0_2.length c0_2, .slice A0_3 l0_3.length c0_3, .int .i64 a0_4], .int .i64 1048576] ?_; (with_reducible refine (laws_szTask.calls a0_0 _ _ l0_1 _ _ l0_2 _ _ l0_3 a0_4 1048576 t317 _ ?side1 ?side2 ?side3 ?side4 ?side5 ?side6 A2.out).mono ?_); (case side1 => exact cT (Kd.C_below HR0_1.out HB.out)); (case side2 => exact HC0_1.out); (case side3 => exact cT (Kd.C_below HR0_2.out HB.out)); (case side4 => exact HC0_2.out); (case side5 => exact cT (Kd.C_below HR0_3.out HB.out)); (case side6 => exact HC0_3.out); rintro e w17 ⟨rfl, hb⟩; refine ⟨_, rfl, ?_⟩; replace BK316 := kB BK316 hb; replace HB := mA (below_step (bT1 HB GE316) hb); (try clear hb); (try clear hk); obtain ⟨hcz18_0, hcz18_1, hcz18_2, hcz18_3, hcz18_4, hfz18_0, hfz18_1, hfz18_2, hfz18_3, hfz18_4⟩ := blk5 BK316.out) | ((with_reducible refine gate_callee (f := 17) rfl ?_); refine goesT (some 13) Try.func17 #[.agg #[.int .i64 a0_0, .slice A0_1 l0_1.length c0_1, .slice A0_2 l0_2.length c0_2, .slice A0_3 l0_3.length c0_3, .int .i64 a0_4]] ?_; (with_reducible refine (laws_toTask.calls k a0_0 _ _ l0_1 _ _ l0_2 _ _ l0_3 a0_4 t318 t319 t322 t325 t328 _ ?side1 ?side2 ?side3 ?side4 ?side5 ?side6 A7.out).mono ?_); (case side1 => exact cT (Kd.C_below HR0_1.out HB.out)); (case side2 => exact HC0_1.out); (case side3 => exact cT (Kd.C_below HR0_2.out HB.out)); (case side4 => exact HC0_2.out); (case side5 => exact cT (Kd.C_below HR0_3.out HB.out)); (case side6 => exact HC0_3.out); rintro e w19 ⟨v320, v323, v326, rfl, ho0, ho1, ho2, hb⟩; refine ⟨_, rfl, ?_⟩; have HO321 := mA (Kd.R_lower ho0 (below_size (bT1 HB GE316))); have HO324 := mA (Kd.R_lower ho1 (below_size (bT1 HB GE316))); have HO327 := mA (Kd.R_lower ho2 (below_size (bT1 HB GE316))); replace BK316 := kB BK316 hb; replace HB := mA (below_step (bT1 HB GE316) hb); (try clear hb); (try clear hk); (try clear ho0); (try clear ho1); (try clear ho2); obtain ⟨Ao20, co20, eo20⟩ := Kd.R_slice HO321.out; subst eo20; obtain ⟨Ao21, co21, eo21⟩ := Kd.R_slice HO324.out; subst eo21; obtain ⟨Ao22, co22, eo22⟩ := Kd.R_slice HO327.out; subst eo22) | ((with_reducible refine gate_callee (f := 16) rfl ?_); refine goesT (some 14) Try.func16 #[.agg #[.int .i64 t318, .slice Ao20 t319.length co20, .slice Ao21 t322.length co21, .slice Ao22 t325.length co22, .int .i64 t328]] ?_; (with_reducible refine (spec_FormatTask.calls k t318 _ _ t319 _ _ t322 _ _ t325 t328 t329 _ ?side1 ?side2 ?side3 ?side4 ?side5 ?side6 A8.out).mono ?_); (case side1 => exact cT ((Kd.R_reads' HO321.out).2.2)); (case side2 => exact (Kd.R_reads' HO321.out).2.1); (case side3 => exact cT ((Kd.R_reads' HO324.out).2.2)); (case side4 => exact (Kd.R_reads' HO324.out).2.1); (case side5 => exact cT ((Kd.R_reads' HO327.out).2.2)); (case side6 => exact (Kd.R_reads' HO327.out).2.1); rintro e w23 ⟨rfl, hb⟩; refine ⟨_, rfl, ?_⟩; replace HO321 := rBR HO321 hb; replace HO324 := rBR HO324 hb; replace HO327 := rBR HO327 hb; replace BK316 := kB BK316 hb; replace HB := mA (below_step (bT1 HB GE316) hb); (try clear hb); (try clear hk); obtain ⟨hcz24_0, hcz24_1, hcz24_2, hcz24_3, hcz24_4, hfz24_0, hfz24_1, hfz24_2, hfz24_3, hfz24_4⟩ := blk5 BK316.out) | ((with_reducible refine gate_callee (f := 17) rfl ?_); refine goesT (some 16) Try.func17 #[.agg #[.int .i64 a0_0, .slice A0_1 l0_1.length c0_1, .slice A0_2 l0_2.length c0_2, .slice A0_3 l0_3.length c0_3, .int .i64 a0_4]] ?_; (with_reducible refine (laws_toTask.calls k a0_0 _ _ l0_1 _ _ l0_2 _ _ l0_3 a0_4 t330 t331 t334 t337 t340 _ ?side1 ?side2 ?side3 ?side4 ?side5 ?side6 A9.out).mono ?_); (case side1 => exact cT (Kd.C_below HR0_1.out HB.out)); (case side2 => exact HC0_1.out); (case side3 => exact cT (Kd.C_below HR0_2.out HB.out)); (case side4 => exact HC0_2.out); (case side5 => exact cT (Kd.C_below HR0_3.out HB.out)); (case side6 => exact HC0_3.out); rintro e w25 ⟨v332, v335, v338, rfl, ho0, ho1, ho2, hb⟩; refine ⟨_, rfl, ?_⟩; have HO333 := mA (Kd.R_lower (Kd.R_new' (Kd.R_new' ho0 (Kd.R_lt (rTR HO321))) (Kd.R_lt (rTR HO324))) (below_size (bT1 HB GE316))); have HO336 := mA (Kd.R_lower (Kd.R_new' (Kd.R_new' ho1 (Kd.R_lt (rTR HO321))) (Kd.R_lt (rTR HO324))) (below_size (bT1 HB GE316))); replace HO321 := mA (Kd.R_mono (Kd.R_told (Kd.R_told (Kd.R_old (rTR HO321) hb) (Kd.R_base ho0)) (Kd.R_base ho1)) (fun _ h_ => h_.1)); replace HO324 := mA (Kd.R_mono (Kd.R_told (Kd.R_told (Kd.R_old (rTR HO324) hb) (Kd.R_base ho0)) (Kd.R_base ho1)) (fun _ h_ => h_.1)); have HO339 := mA (Kd.R_lower (Kd.R_new' ho2 (Kd.R_lt (rTR HO327))) (below_size (bT1 HB GE316))); replace HO327 := mA (Kd.R_elder' (rTR HO327) (Kd.R_base ho2) hb); replace BK316 := kB BK316 hb; replace HB := mA (below_step (bT1 HB GE316) hb); (try clear hb); (try clear hk); (try clear ho0); (try clear ho1); (try clear ho2)) | ((with_reducible refine gate_dst (N := 5) rfl ?_); refine boxT 5 #[.int .i64 0, .slice none 0 0, .slice none 0 0, .slice none 0 0, .int .i64 0] 37 ?_; intro gb341 hg w26 hbox hb; replace HO321 := rBR HO321 hb; replace HO324 := rBR HO324 hb; replace HO327 := rBR HO327 hb; replace HO333 := rBR HO333 hb; replace HO336 := rBR HO336 hb; replace HO339 := rBR HO339 hb; have BK341 := mA (hbox); have GW341 := mA ((by rw [hg]; exact (below_size (bT1 HB GE316)) : w.heap.size ≤ gb341)); have GE341 := GW341; replace HB := mA (below_step (bT1 HB GE316) hb); have NB316_341 : Aside0 (gb316 ≠ gb341) := nL BK316 hg; have NB341_316 : Aside0 (gb341 ≠ gb316) := nG BK316 hg; replace BK316 := kB BK316 hb; clear hb hbox hg; have hnb27 := NB341_316.out; have hnc27 := NB316_341.out; obtain ⟨hcz28_0, hcz28_1, hcz28_2, hcz28_3, hcz28_4, hfz28_0, hfz28_1, hfz28_2, hfz28_3, hfz28_4⟩ := blk5 BK341.out; obtain ⟨Ao29, co29, eo29⟩ := Kd.R_slice HO333.out; subst eo29; obtain ⟨Ao30, co30, eo30⟩ := Kd.R_slice HO336.out; subst eo30; obtain ⟨Ao31, co31, eo31⟩ := Kd.R_slice HO339.out; subst eo31) | ((with_reducible refine gate_callee (f := 18) rfl ?_); refine goesT (some 18) Try.func18 #[.agg #[.int .i64 t330, .slice Ao29 t331.length co29, .slice Ao30 t334.length co30, .slice Ao31 t337.length co31, .int .i64 t340]] ?_; (with_reducible refine (impl_FormatTask.calls k t330 _ _ t331 _ _ t334 _ _ t337 t340 t342 _ ?side1 ?side2 ?side3 ?side4 ?side5 ?side6 A10.out).mono ?_); (case side1 => refine (Kd.R_reads' (e := 124) (base := w.heap.size) (ok := fun k_ => ((some k_ ≠ (.slice Ao30 t334.length co30 : Value).ownBlock ∧ some k_ ≠ (.slice Ao20 t319.length co20 : Value).ownBlock) ∧ some k_ ≠ (.slice Ao21 t322.length co21 : Value).ownBlock)) (n := t331.length) (c := co29) ?_).2.2; exact (by (with_reducible repeat (first | apply Kd.R_alloc | apply Kd.R_drewN | apply Kd.R_drew)); exact (Kd.R_mono (Kd.R_far (p := ⟨gb341, 4, none⟩) (Kd.R_far (p := ⟨gb341, 3, none⟩) (Kd.R_far (p := ⟨gb341, 2, none⟩) (Kd.R_far (p := ⟨gb341, 1, none⟩) (Kd.R_far (p := ⟨gb341, 0, none⟩) (Kd.R_types HO333.out BK341.out (by decide)) (fun _ hk => hk.2) (.int .i64 t330)) (fun _ hk => hk.2) (.slice Ao29 t331.length co29)) (fun _ hk => hk.2) (.slice Ao30 t334.length co30)) (fun _ hk => hk.2) (.slice Ao31 t337.length co31)) (fun _ hk => hk.2) (.int .i64 t340)) (fun _ h_ => h_.1)))); (case side2 => exact (Kd.R_reads' HO333.out).2.1); (case side3 => refine (Kd.R_reads' (e := 124) (base := w.heap.size) (ok := fun k_ => ((some k_ ≠ (.slice Ao29 t331.length co29 : Value).ownBlock ∧ some k_ ≠ (.slice Ao20 t319.length co20 : Value).ownBlock) ∧ some k_ ≠ (.slice Ao21 t322.length co21 : Value).ownBlock)) (n := t334.length) (c := co30) ?_).2.2; exact (by (with_reducible repeat (first | apply Kd.R_alloc | apply Kd.R_drewN | apply Kd.R_drew)); exact (Kd.R_mono (Kd.R_far (p := ⟨gb341, 4, none⟩) (Kd.R_far (p := ⟨gb341, 3, none⟩) (Kd.R_far (p := ⟨gb341, 2, none⟩) (Kd.R_far (p := ⟨gb341, 1, none⟩) (Kd.R_far (p := ⟨gb341, 0, none⟩) (Kd.R_types HO336.out BK341.out (by decide)) (fun _ hk => hk.2) (.int .i64 t330)) (fun _ hk => hk.2) (.slice Ao29 t331.length co29)) (fun _ hk => hk.2) (.slice Ao30 t334.length co30)) (fun _ hk => hk.2) (.slice Ao31 t337.length co31)) (fun _ hk => hk.2) (.int .i64 t340)) (fun _ h_ => h_.1)))); (case side4 => exact (Kd.R_reads' HO336.out).2.1); (case side5 => refine (Kd.R_reads' (e := 4) (base := w.heap.size) (ok := fun k_ => (True ∧ some k_ ≠ (.slice Ao22 t325.length co22 : Value).ownBlock)) (n := t337.length) (c := co31) ?_).2.2; exact (by (with_reducible repeat (first | apply Kd.R_alloc | apply Kd.R_drewN | apply Kd.R_drew)); exact (Kd.R_mono (Kd.R_far (p := ⟨gb341, 4, none⟩) (Kd.R_far (p := ⟨gb341, 3, none⟩) (Kd.R_far (p := ⟨gb341, 2, none⟩) (Kd.R_far (p := ⟨gb341, 1, none⟩) (Kd.R_far (p := ⟨gb341, 0, none⟩) (Kd.R_types HO339.out BK341.out (by decide)) (fun _ hk => hk.2) (.int .i64 t330)) (fun _ hk => hk.2) (.slice Ao29 t331.length co29)) (fun _ hk => hk.2) (.slice Ao30 t334.length co30)) (fun _ hk => hk.2) (.slice Ao31 t337.length co31)) (fun _ hk => hk.2) (.int .i64 t340)) (fun _ h_ => h_.1)))); (case side6 => exact (Kd.R_reads' HO339.out).2.1); rintro e w32 ⟨rfl, hb⟩; refine ⟨_, rfl, ?_⟩; replace HO321 := mA (Kd.R_below (by (with_reducible repeat (first | apply Kd.R_alloc | apply Kd.R_drewN | apply Kd.R_drew)); exact (Kd.R_mono (Kd.R_far (p := ⟨gb341, 4, none⟩) (Kd.R_far (p := ⟨gb341, 3, none⟩) (Kd.R_far (p := ⟨gb341, 2, none⟩) (Kd.R_far (p := ⟨gb341, 1, none⟩) (Kd.R_far (p := ⟨gb341, 0, none⟩) (Kd.R_types HO321.out BK341.out (by decide)) (fun _ hk => hk.2) (.int .i64 t330)) (fun _ hk => hk.2) (.slice Ao29 t331.length co29)) (fun _ hk => hk.2) (.slice Ao30 t334.length co30)) (fun _ hk => hk.2) (.slice Ao31 t337.length co31)) (fun _ hk => hk.2) (.int .i64 t340)) (fun _ h_ => h_.1))) hb); replace HO324 := mA (Kd.R_below (by (with_reducible repeat (first | apply Kd.R_alloc | apply Kd.R_drewN | apply Kd.R_drew)); exact (Kd.R_mono (Kd.R_far (p := ⟨gb341, 4, none⟩) (Kd.R_far (p := ⟨gb341, 3, none⟩) (Kd.R_far (p := ⟨gb341, 2, none⟩) (Kd.R_far (p := ⟨gb341, 1, none⟩) (Kd.R_far (p := ⟨gb341, 0, none⟩) (Kd.R_types HO324.out BK341.out (by decide)) (fun _ hk => hk.2) (.int .i64 t330)) (fun _ hk => hk.2) (.slice Ao29 t331.length co29)) (fun _ hk => hk.2) (.slice Ao30 t334.length co30)) (fun _ hk => hk.2) (.slice Ao31 t337.length co31)) (fun _ hk => hk.2) (.int .i64 t340)) (fun _ h_ => h_.1))) hb); replace HO327 := mA (Kd.R_below (by (with_reducible repeat (first | apply Kd.R_alloc | apply Kd.R_drewN | apply Kd.R_drew)); exact (Kd.R_mono (Kd.R_far (p := ⟨gb341, 4, none⟩) (Kd.R_far (p := ⟨gb341, 3, none⟩) (Kd.R_far (p := ⟨gb341, 2, none⟩) (Kd.R_far (p := ⟨gb341, 1, none⟩) (Kd.R_far (p := ⟨gb341, 0, none⟩) (Kd.R_types HO327.out BK341.out (by decide)) (fun _ hk => hk.2) (.int .i64 t330)) (fun _ hk => hk.2) (.slice Ao29 t331.length co29)) (fun _ hk => hk.2) (.slice Ao30 t334.length co30)) (fun _ hk => hk.2) (.slice Ao31 t337.length co31)) (fun _ hk => hk.2) (.int .i64 t340)) (fun _ h_ => h_.1))) hb); replace HO333 := mA (Kd.R_below (by (with_reducible repeat (first | apply Kd.R_alloc | apply Kd.R_drewN | apply Kd.R_drew)); exact (Kd.R_mono (Kd.R_far (p := ⟨gb341, 4, none⟩) (Kd.R_far (p := ⟨gb341, 3, none⟩) (Kd.R_far (p := ⟨gb341, 2, none⟩) (Kd.R_far (p := ⟨gb341, 1, none⟩) (Kd.R_far (p := ⟨gb341, 0, none⟩) (Kd.R_types HO333.out BK341.out (by decide)) (fun _ hk => hk.2) (.int .i64 t330)) (fun _ hk => hk.2) (.slice Ao29 t331.length co29)) (fun _ hk => hk.2) (.slice Ao30 t334.length co30)) (fun _ hk => hk.2) (.slice Ao31 t337.length co31)) (fun _ hk => hk.2) (.int .i64 t340)) (fun _ h_ => h_.1))) hb); replace HO336 := mA (Kd.R_below (by (with_reducible repeat (first | apply Kd.R_alloc | apply Kd.R_drewN | apply Kd.R_drew)); exact (Kd.R_mono (Kd.R_far (p := ⟨gb341, 4, none⟩) (Kd.R_far (p := ⟨gb341, 3, none⟩) (Kd.R_far (p := ⟨gb341, 2, none⟩) (Kd.R_far (p := ⟨gb341, 1, none⟩) (Kd.R_far (p := ⟨gb341, 0, none⟩) (Kd.R_types HO336.out BK341.out (by decide)) (fun _ hk => hk.2) (.int .i64 t330)) (fun _ hk => hk.2) (.slice Ao29 t331.length co29)) (fun _ hk => hk.2) (.slice Ao30 t334.length co30)) (fun _ hk => hk.2) (.slice Ao31 t337.length co31)) (fun _ hk => hk.2) (.int .i64 t340)) (fun _ h_ => h_.1))) hb); replace HO339 := mA (Kd.R_below (by (with_reducible repeat (first | apply Kd.R_alloc | apply Kd.R_drewN | apply Kd.R_drew)); exact (Kd.R_mono (Kd.R_far (p := ⟨gb341, 4, none⟩) (Kd.R_far (p := ⟨gb341, 3, none⟩) (Kd.R_far (p := ⟨gb341, 2, none⟩) (Kd.R_far (p := ⟨gb341, 1, none⟩) (Kd.R_far (p := ⟨gb341, 0, none⟩) (Kd.R_types HO339.out BK341.out (by decide)) (fun _ hk => hk.2) (.int .i64 t330)) (fun _ hk => hk.2) (.slice Ao29 t331.length co29)) (fun _ hk => hk.2) (.slice Ao30 t334.length co30)) (fun _ hk => hk.2) (.slice Ao31 t337.length co31)) (fun _ hk => hk.2) (.int .i64 t340)) (fun _ h_ => h_.1))) hb); replace BK316 := mA (blk_below (g := gb316) (o := .cells #[.int .i64 a0_0, .slice A0_1 l0_1.length c0_1, .slice A0_2 l0_2.length c0_2, .slice A0_3 l0_3.length c0_3, .int .i64 a0_4] 32 (0, 0)) (by (with_reducible repeat (first | refine blk_drewN ?_ _ | refine blk_drew ?_ | refine blk_alloc ?_ _)); refine blk_far ?_ NB316_341.out _; (with_reducible repeat (first | refine blk_drewN ?_ _ | refine blk_drew ?_ | refine blk_alloc ?_ _)); refine blk_far ?_ NB316_341.out _; (with_reducible repeat (first | refine blk_drewN ?_ _ | refine blk_drew ?_ | refine blk_alloc ?_ _)); refine blk_far ?_ NB316_341.out _; (with_reducible repeat (first | refine blk_drewN ?_ _ | refine blk_drew ?_ | refine blk_alloc ?_ _)); refine blk_far ?_ NB316_341.out _; (with_reducible repeat (first | refine blk_drewN ?_ _ | refine blk_drew ?_ | refine blk_alloc ?_ _)); refine blk_far ?_ NB316_341.out _; (with_reducible repeat (first | refine blk_drewN ?_ _ | refine blk_drew ?_ | refine blk_alloc ?_ _)); exact BK316.out) hb); replace BK341 := mA (blk_below (g := gb341) (o := .cells #[.int .i64 t330, .slice Ao29 t331.length co29, .slice Ao30 t334.length co30, .slice Ao31 t337.length co31, .int .i64 t340] 37 (0, 0)) (by (with_reducible repeat (first | refine blk_drewN ?_ _ | refine blk_drew ?_ | refine blk_alloc ?_ _)); refine blk_put (cs := #[.int .i64 t330, .slice Ao29 t331.length co29, .slice Ao30 t334.length co30, .slice Ao31 t337.length co31, .int .i64 0]) ?_ 4 _ rfl; (with_reducible repeat (first | refine blk_drewN ?_ _ | refine blk_drew ?_ | refine blk_alloc ?_ _)); refine blk_put (cs := #[.int .i64 t330, .slice Ao29 t331.length co29, .slice Ao30 t334.length co30, .slice none 0 0, .int .i64 0]) ?_ 3 _ rfl; (with_reducible repeat (first | refine blk_drewN ?_ _ | refine blk_drew ?_ | refine blk_alloc ?_ _)); refine blk_put (cs := #[.int .i64 t330, .slice Ao29 t331.length co29, .slice none 0 0, .slice none 0 0, .int .i64 0]) ?_ 2 _ rfl; (with_reducible repeat (first | refine blk_drewN ?_ _ | refine blk_drew ?_ | refine blk_alloc ?_ _)); refine blk_put (cs := #[.int .i64 t330, .slice none 0 0, .slice none 0 0, .slice none 0 0, .int .i64 0]) ?_ 1 _ rfl; (with_reducible repeat (first | refine blk_drewN ?_ _ | refine blk_drew ?_ | refine blk_alloc ?_ _)); refine blk_put (cs := #[.int .i64 0, .slice none 0 0, .slice none 0 0, .slice none 0 0, .int .i64 0]) ?_ 0 _ rfl; (with_reducible repeat (first | refine blk_drewN ?_ _ | refine blk_drew ?_ | refine blk_alloc ?_ _)); exact BK341.out) hb); replace HB := mA (below_step (bT2 HB GE316 GE341) hb); (try clear hb); (try clear hk)))
    replace HO321 := mA (Kd.R_drew HO321.out)
    replace HO324 := mA (Kd.R_drew HO324.out)
    replace HO327 := mA (Kd.R_drew HO327.out)
    replace HO333 := mA (Kd.R_drew HO333.out)
    replace HO336 := mA (Kd.R_drew HO336.out)
    replace HO339 := mA (Kd.R_drew HO339.out)
    replace BK316 := mA (blk_drew BK316.out)
    replace BK341 := mA (blk_drew BK341.out)
    replace HB := mA (below_drew1 HB.out)
    refine start_ (n := 5) (S := fun w' => w'.cell? ⟨gb341, 0, none⟩ = some (.int .i64 t330) ∧ w'.cell? ⟨gb341, 1, none⟩ = some (.slice Ao29 t331.length co29) ∧ w'.cell? ⟨gb341, 2, none⟩ = some (.slice Ao30 t334.length co30) ∧ w'.cell? ⟨gb341, 3, none⟩ = some (.slice Ao31 t337.length co31) ∧ w'.cell? ⟨gb341, 4, none⟩ = some (.int .i64 t340) ∧ w'.cell? ⟨gb316, 0, none⟩ = some (.int .i64 a0_0) ∧ w'.cell? ⟨gb316, 1, none⟩ = some (.slice A0_1 l0_1.length c0_1) ∧ w'.cell? ⟨gb316, 2, none⟩ = some (.slice A0_2 l0_2.length c0_2) ∧ w'.cell? ⟨gb316, 3, none⟩ = some (.slice A0_3 l0_3.length c0_3) ∧ w'.cell? ⟨gb316, 4, none⟩ = some (.int .i64 a0_4)) (ds := []) #[false, false, false, false, false] (by kernel_rfl) rfl rfl ⟨(blk_cell BK341.out 0).trans rfl, (blk_cell BK341.out 1).trans rfl, (blk_cell BK341.out 2).trans rfl, (blk_cell BK341.out 3).trans rfl, (blk_cell BK341.out 4).trans rfl, (blk_cell BK316.out 0).trans rfl, (blk_cell BK316.out 1).trans rfl, (blk_cell BK316.out 2).trans rfl, (blk_cell BK316.out 3).trans rfl, (blk_cell BK316.out 4).trans rfl⟩ (fun hHeld => ?_)
    generalize w32.drew = w33 at HO321 HO324 HO327 HO333 HO336 HO339 BK316 BK341 HB hHeld ⊢
    refine take_ (i := 0) (N := some 22) (v := ?_) (a' := ?_) #[true, false, false, false, false] rfl rfl (by kernel_rfl) (fun _ _ _ h => h) (Or.inl ⟨by rfl, ?_⟩) hHeld ?_ ?_
    rotate_left
    ·
     rintro w' ⟨s0, s1, s2, s3, s4, s5, s6, s7, s8, s9⟩
     go_simp
     with_reducible rfl
    rotate_left
    ·
     simp only [Act.put, List.setIfInBounds_toArray, List.set_cons_zero, List.set_cons_succ, i64_w, i32_w]
     rfl
    refine take_ (i := 1) (N := some 23) (v := ?_) (a' := ?_) #[true, true, false, false, false] rfl rfl (by kernel_rfl) (fun _ _ _ h => h) (Or.inl ⟨by rfl, ?_⟩) hHeld ?_ ?_
    rotate_left
    ·
     rintro w' ⟨s0, s1, s2, s3, s4, s5, s6, s7, s8, s9⟩
     go_simp
     with_reducible rfl
    rotate_left
    ·
     simp only [Act.put, List.setIfInBounds_toArray, List.set_cons_zero, List.set_cons_succ, i64_w, i32_w]
     rfl
    refine one_ (i := 2) (N := some 24) #[true, true, true, false, false] rfl rfl (by kernel_rfl) (by decide) (fun K hK => ?_)
    refine goes_ Try.func17 (by kernel_rfl) rfl #[.agg #[.int .i64 a0_0, .slice A0_1 l0_1.length c0_1, .slice A0_2 l0_2.length c0_2, .slice A0_3 l0_3.length c0_3, .int .i64 a0_4]] (by rfl) rfl rfl mT ?_
    with_reducible refine (laws_toTask.calls k a0_0 _ _ l0_1 _ _ l0_2 _ _ l0_3 a0_4 t343 t344 t347 t350 t353 _ ?side1 ?side2 ?side3 ?side4 ?side5 ?side6 A12.out).mono ?_
    (case side1 => exact cT (Kd.C_below HR0_1.out HB.out))
    (case side2 => exact HC0_1.out)
    (case side3 => exact cT (Kd.C_below HR0_2.out HB.out))
    (case side4 => exact HC0_2.out)
    (case side5 => exact cT (Kd.C_below HR0_3.out HB.out))
    (case side6 => exact HC0_3.out)
    rintro e w34 ⟨v345, v348, v351, rfl, ho0, ho1, ho2, hb⟩
    refine ⟨_, rfl, ?_⟩
    have HO346 := mA (Kd.R_lower (Kd.R_new' (Kd.R_new' (Kd.R_new' (Kd.R_new' ho0 (Kd.R_lt (rTR HO321))) (Kd.R_lt (rTR HO324))) (Kd.R_lt (rTR HO333))) (Kd.R_lt (rTR HO336))) (below_size (bT2 HB GE316 GE341)))
    have HO349 := mA (Kd.R_lower (Kd.R_new' (Kd.R_new' (Kd.R_new' (Kd.R_new' ho1 (Kd.R_lt (rTR HO321))) (Kd.R_lt (rTR HO324))) (Kd.R_lt (rTR HO333))) (Kd.R_lt (rTR HO336))) (below_size (bT2 HB GE316 GE341)))
    replace HO333 := mA (Kd.R_mono (Kd.R_told (Kd.R_told (Kd.R_old (rTR HO333) hb) (Kd.R_base ho0)) (Kd.R_base ho1)) (fun _ h_ => h_.1))
    replace HO336 := mA (Kd.R_mono (Kd.R_told (Kd.R_told (Kd.R_old (rTR HO336) hb) (Kd.R_base ho0)) (Kd.R_base ho1)) (fun _ h_ => h_.1))
    have HO352 := mA (Kd.R_lower (Kd.R_new' (Kd.R_new' ho2 (Kd.R_lt (rTR HO327))) (Kd.R_lt (rTR HO339))) (below_size (bT2 HB GE316 GE341)))
    replace HO339 := mA (Kd.R_elder' (rTR HO339) (Kd.R_base ho2) hb)
    replace BK316 := kB BK316 hb
    replace BK341 := kB BK341 hb
    replace HB := mA (below_step (bT2 HB GE316 GE341) hb)
    (try clear hb)
    (try clear hb2)
    (try clear hk)
    (try clear hi)
    (try clear ho0)
    (try clear ho1)
    (try clear ho2)
    obtain ⟨Ao35, co35, eo35⟩ := Kd.R_slice HO346.out
    (first | subst eo35 | (injection eo35 with f1_ f2_ f3_; have f4_ := f1_.symm; have f5_ := f3_.symm; clear f1_ f2_ f3_; subst f4_; subst f5_))
    obtain ⟨Ao36, co36, eo36⟩ := Kd.R_slice HO349.out
    (first | subst eo36 | (injection eo36 with f1_ f2_ f3_; have f4_ := f1_.symm; have f5_ := f3_.symm; clear f1_ f2_ f3_; subst f4_; subst f5_))
    obtain ⟨Ao37, co37, eo37⟩ := Kd.R_slice HO352.out
    (first | subst eo37 | (injection eo37 with f1_ f2_ f3_; have f4_ := f1_.symm; have f5_ := f3_.symm; clear f1_ f2_ f3_; subst f4_; subst f5_))
    refine hK.out _ _ ⟨(blk_cell BK341.out 0).trans rfl, (blk_cell BK341.out 1).trans rfl, (blk_cell BK341.out 2).trans rfl, (blk_cell BK341.out 3).trans rfl, (blk_cell BK341.out 4).trans rfl, (blk_cell BK316.out 0).trans rfl, (blk_cell BK316.out 1).trans rfl, (blk_cell BK316.out 2).trans rfl, (blk_cell BK316.out 3).trans rfl, (blk_cell BK316.out 4).trans rfl⟩ (fun hHeld => ?_)
    clear hK K
    refine norm_ (a' := ?_) ?_ ?_
    rotate_left
    ·
     show Act.put _ (some 24) _ = _
     simp only [Act.put, List.setIfInBounds_toArray, List.set_cons_zero, List.set_cons_succ, i64_w, i32_w]
     rfl
    refine one_ (i := 3) (N := some 25) #[true, true, true, true, false] rfl rfl (by kernel_rfl) (by decide) (fun K hK => ?_)
    refine goes_ Try.func19 (by kernel_rfl) rfl #[.agg #[.int .i64 t330, .slice Ao29 t331.length co29, .slice Ao30 t334.length co30, .slice Ao31 t337.length co31, .int .i64 t340], .agg #[.int .i64 t343, .slice Ao35 t344.length co35, .slice Ao36 t347.length co36, .slice Ao37 t350.length co37, .int .i64 t353]] (by rfl) rfl rfl mT ?_
    with_reducible refine (laws_eqTask.calls k t330 _ _ t331 _ _ t334 _ _ t337 t340 t343 _ _ t344 _ _ t347 _ _ t350 t353 true _ ?side1 ?side2 ?side3 ?side4 ?side5 ?side6 ?side7 ?side8 ?side9 ?side10 ?side11 ?side12 A13.out).mono ?_
    (case side1 => exact cT ((Kd.R_reads' HO333.out).2.2))
    (case side2 => exact (Kd.R_reads' HO333.out).2.1)
    (case side3 => exact cT ((Kd.R_reads' HO336.out).2.2))
    (case side4 => exact (Kd.R_reads' HO336.out).2.1)
    (case side5 => exact cT ((Kd.R_reads' HO339.out).2.2))
    (case side6 => exact (Kd.R_reads' HO339.out).2.1)
    (case side7 => exact cT ((Kd.R_reads' HO346.out).2.2))
    (case side8 => exact (Kd.R_reads' HO346.out).2.1)
    (case side9 => exact cT ((Kd.R_reads' HO349.out).2.2))
    (case side10 => exact (Kd.R_reads' HO349.out).2.1)
    (case side11 => exact cT ((Kd.R_reads' HO352.out).2.2))
    (case side12 => exact (Kd.R_reads' HO352.out).2.1)
    rintro e w38 ⟨rfl, hb⟩
    refine ⟨_, rfl, ?_⟩
    replace BK316 := kB BK316 hb
    replace BK341 := kB BK341 hb
    replace HB := mA (below_step (bT2 HB GE316 GE341) hb)
    (try clear hb)
    (try clear hb2)
    (try clear hk)
    (try clear hi)
    refine hK.out _ _ ⟨(blk_cell BK341.out 0).trans rfl, (blk_cell BK341.out 1).trans rfl, (blk_cell BK341.out 2).trans rfl, (blk_cell BK341.out 3).trans rfl, (blk_cell BK341.out 4).trans rfl, (blk_cell BK316.out 0).trans rfl, (blk_cell BK316.out 1).trans rfl, (blk_cell BK316.out 2).trans rfl, (blk_cell BK316.out 3).trans rfl, (blk_cell BK316.out 4).trans rfl⟩ (fun hHeld => ?_)
    clear hK K
    refine norm_ (a' := ?_) ?_ ?_
    rotate_left
    ·
     show Act.put _ (some 25) _ = _
     simp only [Act.put, List.setIfInBounds_toArray, List.set_cons_zero, List.set_cons_succ, i64_w, i32_w]
     rfl
    refine pureT (i := 4) (N := some 26) #[true, true, true, true, true] (by kernel_rfl) ?_
    refine done_ (by kernel_rfl) ?_
    try go_wp2
    go_ret
    exact ⟨eT, bT2 HB GE316 GE341⟩
   ·
    replace c14 := Bool.eq_false_iff.mpr c14
    subst c14
    rw [if_neg (show ¬ (false = true) by decide)] at H
    exact absurd ((Option.some.inj H).trans HT.out) (by simp)
  ·
   rw [if_neg c11] at H
   have c11b0 : (t342.toList == t329.toList) = false := beq_eq_false_iff_ne.mpr c11
   have c11b1 : (t342.toList != t329.toList) = true := bne_iff_ne.mpr c11
   exact absurd ((Option.some.inj H).trans HT.out) (by simp)

end Go.Proofs.Ytnllplklggoabaa.P
