/- Written by tools/seatprint.py over the translation. Lean checks it. -/
import Derived.Test.YthciieopabndcaaP0
import Derived.Test.YthciieopabndcaaP120c0
import Derived.Test.YthciieopabndcaaPf3ec0
import Derived.Test.YthciieopabndcaaPf7ec0
namespace Go.Proofs.Ythciieopabndcaa.P
open Go.RowKit Go.Proofs.YthciieopabndcaaW.PrintWords Go.Proofs.YthciieopabndcaaW.PrintLast Go.Proofs.YthciieopabndcaaW.PrintMore
attribute [local go_sem] max2_int min2_int max_two min_two max_three min_three max_four min_four
set_option linter.unusedVariables false
set_option linter.unusedSimpArgs false

/-! ### laws_FnExactNeedsNestedLoop: function 4 -/
def laws_FnExactNeedsNestedLoop.f (k : Nat) (a0_0 : Int) (l0_1 : List (S64)) (l0_2 : List (S64)) (l0_3 : List Bool) (a0_4 : Int) : Option (Bool) := (laws_szTask.f a0_0 l0_1 l0_2 l0_3 a0_4 1048576).bind fun t270 => (if t270 < 0 then (some true) else ((laws_toTask.f k a0_0 l0_1 l0_2 l0_3 a0_4).bind fun bt271 => ((spec_NeedsNestedLoop.f k bt271.1 bt271.2.1 bt271.2.2.1 bt271.2.2.2.1 bt271.2.2.2.2).bind fun t282 => ((laws_toTask.f k a0_0 l0_1 l0_2 l0_3 a0_4).bind fun bt283 => ((impl_NeedsNestedLoop.f k bt283.1 bt283.2.1 bt283.2.2.1 bt283.2.2.2.1 bt283.2.2.2.2).bind fun t295 => (if (t295 != t282) = true then (some false) else ((laws_toTask.f k a0_0 l0_1 l0_2 l0_3 a0_4).bind fun bt296 => ((laws_eqTask.f k bt283.1 bt283.2.1 bt283.2.2.1 bt283.2.2.2.1 bt283.2.2.2.2 bt296.1 bt296.2.1 bt296.2.2.1 bt296.2.2.2.1 bt296.2.2.2.2).bind fun t307 => (if t307 = true then (some true) else (some false))))))))))
theorem laws_FnExactNeedsNestedLoop.mono : ∀ a0 a1 a2 a3 a4 k, LeO (laws_FnExactNeedsNestedLoop.f k a0 a1 a2 a3 a4) (laws_FnExactNeedsNestedLoop.f (k + 1) a0 a1 a2 a3 a4) := by
 intro a0 a1 a2 a3 a4 k
 unfold laws_FnExactNeedsNestedLoop.f
 repeat' first
   | (with_reducible exact impl_NeedsNestedLoop.mono _ _ _ _ _ _)
   | (with_reducible exact laws_eqTask.mono _ _ _ _ _ _ _ _ _ _ _)
   | (with_reducible exact laws_toTask.mono _ _ _ _ _ _)
   | (with_reducible exact spec_NeedsNestedLoop.mono _ _ _ _ _ _)
   | (with_reducible exact LeO.refl _)
   | (with_reducible exact LeO.none _)
   | (with_reducible refine LeO.ite ?_ ?_)
   | (with_reducible refine LeO.bind ?_ (fun _ => ?_))
   | exact impl_NeedsNestedLoop.mono _ _ _ _ _ _
   | exact laws_eqTask.mono _ _ _ _ _ _ _ _ _ _ _
   | exact laws_toTask.mono _ _ _ _ _ _
   | exact spec_NeedsNestedLoop.mono _ _ _ _ _ _
   | exact LeO.none _
   | refine LeO.ite ?_ ?_
   | refine LeO.bind ?_ (fun _ => ?_)
set_option maxHeartbeats 8000000 in
set_option maxRecDepth 100000 in
theorem laws_FnExactNeedsNestedLoop.calls (k : Nat) (a0_0 : Int) (A0_1 : Option Addr) (c0_1 : Nat) (l0_1 : List (S64)) (A0_2 : Option Addr) (c0_2 : Nat) (l0_2 : List (S64)) (A0_3 : Option Addr) (c0_3 : Nat) (l0_3 : List Bool) (a0_4 : Int) (r : Bool) (w : World) (hr0_1 : Kd.C k64 w A0_1 l0_1.length l0_1) (hc0_1 : l0_1.length ≤ c0_1) (hr0_2 : Kd.C k64 w A0_2 l0_2.length l0_2) (hc0_2 : l0_2.length ≤ c0_2) (hr0_3 : Kd.C Kd.bool w A0_3 l0_3.length l0_3) (hc0_3 : l0_3.length ≤ c0_3) (ht : r = true) (h : laws_FnExactNeedsNestedLoop.f k a0_0 l0_1 l0_2 l0_3 a0_4 = some r) :
  Calls Try.prog 4 #[.agg #[.int .i64 a0_0, .slice A0_1 l0_1.length c0_1, .slice A0_2 l0_2.length c0_2, .slice A0_3 l0_3.length c0_3, .int .i64 a0_4]] w fun e w' => e = .returned (.bool r) ∧ Below w.heap.size w w' := by
 have hu33 := Try.underlying33
 have hu37 := Try.underlying37
 have HR0_1 := mA hr0_1
 have HC0_1 := mA hc0_1
 clear hr0_1 hc0_1
 have HR0_2 := mA hr0_2
 have HC0_2 := mA hc0_2
 clear hr0_2 hc0_2
 have HR0_3 := mA hr0_3
 have HC0_3 := mA hc0_3
 clear hr0_3 hc0_3
 have HB := mA (Below.refl w.heap.size w)
 have HT := mA ht
 clear ht
 have H : ((laws_szTask.f a0_0 l0_1 l0_2 l0_3 a0_4 1048576).bind fun t270 => (if t270 < 0 then (some true) else ((laws_toTask.f k a0_0 l0_1 l0_2 l0_3 a0_4).bind fun bt271 => ((spec_NeedsNestedLoop.f k bt271.1 bt271.2.1 bt271.2.2.1 bt271.2.2.2.1 bt271.2.2.2.2).bind fun t282 => ((laws_toTask.f k a0_0 l0_1 l0_2 l0_3 a0_4).bind fun bt283 => ((impl_NeedsNestedLoop.f k bt283.1 bt283.2.1 bt283.2.2.1 bt283.2.2.2.1 bt283.2.2.2.2).bind fun t295 => (if (t295 != t282) = true then (some false) else ((laws_toTask.f k a0_0 l0_1 l0_2 l0_3 a0_4).bind fun bt296 => ((laws_eqTask.f k bt283.1 bt283.2.1 bt283.2.2.1 bt283.2.2.2.1 bt283.2.2.2.2 bt296.1 bt296.2.1 bt296.2.2.1 bt296.2.2.2.1 bt296.2.2.2.2).bind fun t307 => (if t307 = true then (some true) else (some false))))))))))) = some r := h
 clear h
 obtain ⟨t270, A2, H⟩ := Option.bind_eq_some_iff.mp H
 replace A2 := mA A2
 try dsimp only at H
 by_cases c3 : t270 < 0
 ·
  rw [if_pos c3] at H
  have c3b0 : decide (t270 < 0) = true := decide_eq_true c3
  clear c3
  obtain rfl := Option.some.inj H
  go_enter Try.func4, Try.ntmps4
  go_wp2_with (first | ((with_reducible refine gate_dst (N := 1) rfl ?_); refine boxT 1 #[.int .i64 a0_0, .slice A0_1 l0_1.length c0_1, .slice A0_2 l0_2.length c0_2, .slice A0_3 l0_3.length c0_3, .int .i64 a0_4] 33 ?_; intro gb269 hg w4 hbox hb; have BK269 := mA (hbox); have GW269 := mA ((by rw [hg]; exact (below_size (bT HB)) : w.heap.size ≤ gb269)); have GE269 := GW269; replace HB := mA (below_step (bT HB) hb); clear hb hbox hg; obtain ⟨hcz5_0, hcz5_1, hcz5_2, hcz5_3, hcz5_4, hfz5_0, hfz5_1, hfz5_2, hfz5_3, hfz5_4⟩ := blk5 BK269.out) | ((with_reducible refine gate_callee (f := 22) rfl ?_); refine goesT (some 9) Try.func22 #[.agg #[.int .i64 a0_0, .slice A0_1 l0_1.length c0_1, .slice A0_2 l0_2.length c0_2, .slice A0_3 l0_3.length c0_3, .int .i64 a0_4], .int .i64 1048576] ?_; (with_reducible refine (laws_szTask.calls a0_0 _ _ l0_1 _ _ l0_2 _ _ l0_3 a0_4 1048576 t270 _ ?side1 ?side2 ?side3 ?side4 ?side5 ?side6 A2.out).mono ?_); (case side1 => exact cT (Kd.C_below HR0_1.out HB.out)); (case side2 => exact HC0_1.out); (case side3 => exact cT (Kd.C_below HR0_2.out HB.out)); (case side4 => exact HC0_2.out); (case side5 => exact cT (Kd.C_below HR0_3.out HB.out)); (case side6 => exact HC0_3.out); rintro e w6 ⟨rfl, hb⟩; refine ⟨_, rfl, ?_⟩; replace HB := mA (below_step (bT1 HB GE269) hb); (try clear hb)))
  go_ret
  exact ⟨eT, bT1 HB GE269⟩
 ·
  rw [if_neg c3] at H
  have c3b0 : decide (t270 < 0) = false := decide_eq_false c3
  clear c3
  obtain ⟨⟨t271, t272, t275, t278, t281⟩, A7, H⟩ := Option.bind_eq_some_iff.mp H
  replace A7 := mA A7
  try dsimp only at H
  obtain ⟨t282, A8, H⟩ := Option.bind_eq_some_iff.mp H
  replace A8 := mA A8
  try dsimp only at H
  obtain ⟨⟨t283, t284, t287, t290, t293⟩, A9, H⟩ := Option.bind_eq_some_iff.mp H
  replace A9 := mA A9
  try dsimp only at H
  obtain ⟨t295, A10, H⟩ := Option.bind_eq_some_iff.mp H
  replace A10 := mA A10
  try dsimp only at H
  by_cases c11 : (t295 != t282) = true
  ·
   rw [if_pos c11] at H
   have c11b0 : (t295 != t282) = true := c11
   (try (have c11b1 : decide (t295 = t282) = false := by simpa using c11))
   (try (have c11b2 : (t295 == t282) = false := by simpa using c11))
   (try (have c11b3 : ¬ (t295 = t282) := by simpa using c11))
   clear c11
   exact absurd ((Option.some.inj H).trans HT.out) (by simp)
  ·
   rw [if_neg c11] at H
   have c11b0 : (t295 != t282) = false := by simpa using c11
   (try (have c11b1 : decide (t295 = t282) = true := by simpa using c11))
   (try (have c11b2 : (t295 == t282) = true := by simpa using c11))
   clear c11
   obtain ⟨⟨t296, t297, t300, t303, t306⟩, A12, H⟩ := Option.bind_eq_some_iff.mp H
   replace A12 := mA A12
   try dsimp only at H
   obtain ⟨t307, A13, H⟩ := Option.bind_eq_some_iff.mp H
   replace A13 := mA A13
   replace H : (if t307 = true then (some true) else (some false)) = some r := H
   by_cases c14 : t307 = true
   ·
    subst c14
    rw [if_pos rfl] at H
    obtain rfl := Option.some.inj H
    go_enter Try.func4, Try.ntmps4
    try go_wp2_with (first | ((with_reducible refine gate_dst (N := 1) rfl ?_); refine boxT 1 #[.int .i64 a0_0, .slice A0_1 l0_1.length c0_1, .slice A0_2 l0_2.length c0_2, .slice A0_3 l0_3.length c0_3, .int .i64 a0_4] 33 ?_; intro gb269 hg w15 hbox hb; have BK269 := mA (hbox); have GW269 := mA ((by rw [hg]; exact (below_size (bT HB)) : w.heap.size ≤ gb269)); have GE269 := GW269; replace HB := mA (below_step (bT HB) hb); clear hb hbox hg; obtain ⟨hcz16_0, hcz16_1, hcz16_2, hcz16_3, hcz16_4, hfz16_0, hfz16_1, hfz16_2, hfz16_3, hfz16_4⟩ := blk5 BK269.out) | ((with_reducible refine gate_callee (f := 22) rfl ?_); refine goesT (some 9) Try.func22 #[.agg #[.int .i64 a0_0, .slice A0_1 l0_1.length c0_1, .slice A0_2 l0_2.length c0_2, .slice A0_3 l0_3.length c0_3, .int .i64 a0_4], .int .i64 1048576] ?_; (with_reducible refine (laws_szTask.calls a0_0 _ _ l0_1 _ _ l0_2 _ _ l0_3 a0_4 1048576 t270 _ ?side1 ?side2 ?side3 ?side4 ?side5 ?side6 A2.out).mono ?_); (case side1 => exact cT (Kd.C_below HR0_1.out HB.out)); (case side2 => exact HC0_1.out); (case side3 => exact cT (Kd.C_below HR0_2.out HB.out)); (case side4 => exact HC0_2.out); (case side5 => exact cT (Kd.C_below HR0_3.out HB.out)); (case side6 => exact HC0_3.out); rintro e w17 ⟨rfl, hb⟩; refine ⟨_, rfl, ?_⟩; replace BK269 := kB BK269 hb; replace HB := mA (below_step (bT1 HB GE269) hb); (try clear hb); (try clear hk); obtain ⟨hcz18_0, hcz18_1, hcz18_2, hcz18_3, hcz18_4, hfz18_0, hfz18_1, hfz18_2, hfz18_3, hfz18_4⟩ := blk5 BK269.out) | ((with_reducible refine gate_callee (f := 24) rfl ?_); refine goesT (some 13) Try.func24 #[.agg #[.int .i64 a0_0, .slice A0_1 l0_1.length c0_1, .slice A0_2 l0_2.length c0_2, .slice A0_3 l0_3.length c0_3, .int .i64 a0_4]] ?_; (with_reducible refine (laws_toTask.calls k a0_0 _ _ l0_1 _ _ l0_2 _ _ l0_3 a0_4 t271 t272 t275 t278 t281 _ ?side1 ?side2 ?side3 ?side4 ?side5 ?side6 A7.out).mono ?_); (case side1 => exact cT (Kd.C_below HR0_1.out HB.out)); (case side2 => exact HC0_1.out); (case side3 => exact cT (Kd.C_below HR0_2.out HB.out)); (case side4 => exact HC0_2.out); (case side5 => exact cT (Kd.C_below HR0_3.out HB.out)); (case side6 => exact HC0_3.out); rintro e w19 ⟨v273, v276, v279, rfl, ho0, ho1, ho2, hb⟩; refine ⟨_, rfl, ?_⟩; have HO274 := mA (Kd.R_lower ho0 (below_size (bT1 HB GE269))); have HO277 := mA (Kd.R_lower ho1 (below_size (bT1 HB GE269))); have HO280 := mA (Kd.R_lower ho2 (below_size (bT1 HB GE269))); replace BK269 := kB BK269 hb; replace HB := mA (below_step (bT1 HB GE269) hb); (try clear hb); (try clear hk); (try clear ho0); (try clear ho1); (try clear ho2); obtain ⟨Ao20, co20, eo20⟩ := Kd.R_slice HO274.out; subst eo20; obtain ⟨Ao21, co21, eo21⟩ := Kd.R_slice HO277.out; subst eo21; obtain ⟨Ao22, co22, eo22⟩ := Kd.R_slice HO280.out; subst eo22) | ((with_reducible refine gate_callee (f := 23) rfl ?_); refine goesT (some 14) Try.func23 #[.agg #[.int .i64 t271, .slice Ao20 t272.length co20, .slice Ao21 t275.length co21, .slice Ao22 t278.length co22, .int .i64 t281]] ?_; (with_reducible refine (spec_NeedsNestedLoop.calls k t271 _ _ t272 _ _ t275 _ _ t278 t281 t282 _ ?side1 ?side2 ?side3 ?side4 ?side5 ?side6 A8.out).mono ?_); (case side1 => exact cT ((Kd.R_reads' HO274.out).2.2)); (case side2 => exact (Kd.R_reads' HO274.out).2.1); (case side3 => exact cT ((Kd.R_reads' HO277.out).2.2)); (case side4 => exact (Kd.R_reads' HO277.out).2.1); (case side5 => exact cT ((Kd.R_reads' HO280.out).2.2)); (case side6 => exact (Kd.R_reads' HO280.out).2.1); rintro e w23 ⟨rfl, hb⟩; refine ⟨_, rfl, ?_⟩; replace HO274 := rBR HO274 hb; replace HO277 := rBR HO277 hb; replace HO280 := rBR HO280 hb; replace BK269 := kB BK269 hb; replace HB := mA (below_step (bT1 HB GE269) hb); (try clear hb); (try clear hk); obtain ⟨hcz24_0, hcz24_1, hcz24_2, hcz24_3, hcz24_4, hfz24_0, hfz24_1, hfz24_2, hfz24_3, hfz24_4⟩ := blk5 BK269.out) | ((with_reducible refine gate_callee (f := 24) rfl ?_); refine goesT (some 16) Try.func24 #[.agg #[.int .i64 a0_0, .slice A0_1 l0_1.length c0_1, .slice A0_2 l0_2.length c0_2, .slice A0_3 l0_3.length c0_3, .int .i64 a0_4]] ?_; (with_reducible refine (laws_toTask.calls k a0_0 _ _ l0_1 _ _ l0_2 _ _ l0_3 a0_4 t283 t284 t287 t290 t293 _ ?side1 ?side2 ?side3 ?side4 ?side5 ?side6 A9.out).mono ?_); (case side1 => exact cT (Kd.C_below HR0_1.out HB.out)); (case side2 => exact HC0_1.out); (case side3 => exact cT (Kd.C_below HR0_2.out HB.out)); (case side4 => exact HC0_2.out); (case side5 => exact cT (Kd.C_below HR0_3.out HB.out)); (case side6 => exact HC0_3.out); rintro e w25 ⟨v285, v288, v291, rfl, ho0, ho1, ho2, hb⟩; refine ⟨_, rfl, ?_⟩; have HO286 := mA (Kd.R_lower (Kd.R_new' (Kd.R_new' ho0 (Kd.R_lt (rTR HO274))) (Kd.R_lt (rTR HO277))) (below_size (bT1 HB GE269))); have HO289 := mA (Kd.R_lower (Kd.R_new' (Kd.R_new' ho1 (Kd.R_lt (rTR HO274))) (Kd.R_lt (rTR HO277))) (below_size (bT1 HB GE269))); replace HO274 := mA (Kd.R_mono (Kd.R_told (Kd.R_told (Kd.R_old (rTR HO274) hb) (Kd.R_base ho0)) (Kd.R_base ho1)) (fun _ h_ => h_.1)); replace HO277 := mA (Kd.R_mono (Kd.R_told (Kd.R_told (Kd.R_old (rTR HO277) hb) (Kd.R_base ho0)) (Kd.R_base ho1)) (fun _ h_ => h_.1)); have HO292 := mA (Kd.R_lower (Kd.R_new' ho2 (Kd.R_lt (rTR HO280))) (below_size (bT1 HB GE269))); replace HO280 := mA (Kd.R_elder' (rTR HO280) (Kd.R_base ho2) hb); replace BK269 := kB BK269 hb; replace HB := mA (below_step (bT1 HB GE269) hb); (try clear hb); (try clear hk); (try clear ho0); (try clear ho1); (try clear ho2)) | ((with_reducible refine gate_dst (N := 5) rfl ?_); refine boxT 5 #[.int .i64 0, .slice none 0 0, .slice none 0 0, .slice none 0 0, .int .i64 0] 37 ?_; intro gb294 hg w26 hbox hb; replace HO274 := rBR HO274 hb; replace HO277 := rBR HO277 hb; replace HO280 := rBR HO280 hb; replace HO286 := rBR HO286 hb; replace HO289 := rBR HO289 hb; replace HO292 := rBR HO292 hb; have BK294 := mA (hbox); have GW294 := mA ((by rw [hg]; exact (below_size (bT1 HB GE269)) : w.heap.size ≤ gb294)); have GE294 := GW294; replace HB := mA (below_step (bT1 HB GE269) hb); have NB269_294 : Aside0 (gb269 ≠ gb294) := nL BK269 hg; have NB294_269 : Aside0 (gb294 ≠ gb269) := nG BK269 hg; replace BK269 := kB BK269 hb; clear hb hbox hg; have hnb27 := NB294_269.out; have hnc27 := NB269_294.out; obtain ⟨hcz28_0, hcz28_1, hcz28_2, hcz28_3, hcz28_4, hfz28_0, hfz28_1, hfz28_2, hfz28_3, hfz28_4⟩ := blk5 BK294.out; obtain ⟨Ao29, co29, eo29⟩ := Kd.R_slice HO286.out; subst eo29; obtain ⟨Ao30, co30, eo30⟩ := Kd.R_slice HO289.out; subst eo30; obtain ⟨Ao31, co31, eo31⟩ := Kd.R_slice HO292.out; subst eo31) | ((with_reducible refine gate_callee (f := 25) rfl ?_); refine goesT (some 18) Try.func25 #[.agg #[.int .i64 t283, .slice Ao29 t284.length co29, .slice Ao30 t287.length co30, .slice Ao31 t290.length co31, .int .i64 t293]] ?_; (with_reducible refine (impl_NeedsNestedLoop.calls k t283 _ _ t284 _ _ t287 _ _ t290 t293 t295 _ ?side1 ?side2 ?side3 ?side4 ?side5 ?side6 A10.out).mono ?_); (case side1 => refine (Kd.R_reads' (e := 62) (base := w.heap.size) (ok := fun k_ => ((some k_ ≠ (.slice Ao30 t287.length co30 : Value).ownBlock ∧ some k_ ≠ (.slice Ao20 t272.length co20 : Value).ownBlock) ∧ some k_ ≠ (.slice Ao21 t275.length co21 : Value).ownBlock)) (n := t284.length) (c := co29) ?_).2.2; exact (by (with_reducible repeat (first | apply Kd.R_alloc | apply Kd.R_drewN | apply Kd.R_drew)); exact (Kd.R_mono (Kd.R_far (p := ⟨gb294, 4, none⟩) (Kd.R_far (p := ⟨gb294, 3, none⟩) (Kd.R_far (p := ⟨gb294, 2, none⟩) (Kd.R_far (p := ⟨gb294, 1, none⟩) (Kd.R_far (p := ⟨gb294, 0, none⟩) (Kd.R_types HO286.out BK294.out (by decide)) (fun _ hk => hk.2) (.int .i64 t283)) (fun _ hk => hk.2) (.slice Ao29 t284.length co29)) (fun _ hk => hk.2) (.slice Ao30 t287.length co30)) (fun _ hk => hk.2) (.slice Ao31 t290.length co31)) (fun _ hk => hk.2) (.int .i64 t293)) (fun _ h_ => h_.1)))); (case side2 => exact (Kd.R_reads' HO286.out).2.1); (case side3 => refine (Kd.R_reads' (e := 62) (base := w.heap.size) (ok := fun k_ => ((some k_ ≠ (.slice Ao29 t284.length co29 : Value).ownBlock ∧ some k_ ≠ (.slice Ao20 t272.length co20 : Value).ownBlock) ∧ some k_ ≠ (.slice Ao21 t275.length co21 : Value).ownBlock)) (n := t287.length) (c := co30) ?_).2.2; exact (by (with_reducible repeat (first | apply Kd.R_alloc | apply Kd.R_drewN | apply Kd.R_drew)); exact (Kd.R_mono (Kd.R_far (p := ⟨gb294, 4, none⟩) (Kd.R_far (p := ⟨gb294, 3, none⟩) (Kd.R_far (p := ⟨gb294, 2, none⟩) (Kd.R_far (p := ⟨gb294, 1, none⟩) (Kd.R_far (p := ⟨gb294, 0, none⟩) (Kd.R_types HO289.out BK294.out (by decide)) (fun _ hk => hk.2) (.int .i64 t283)) (fun _ hk => hk.2) (.slice Ao29 t284.length co29)) (fun _ hk => hk.2) (.slice Ao30 t287.length co30)) (fun _ hk => hk.2) (.slice Ao31 t290.length co31)) (fun _ hk => hk.2) (.int .i64 t293)) (fun _ h_ => h_.1)))); (case side4 => exact (Kd.R_reads' HO289.out).2.1); (case side5 => refine (Kd.R_reads' (e := 4) (base := w.heap.size) (ok := fun k_ => (True ∧ some k_ ≠ (.slice Ao22 t278.length co22 : Value).ownBlock)) (n := t290.length) (c := co31) ?_).2.2; exact (by (with_reducible repeat (first | apply Kd.R_alloc | apply Kd.R_drewN | apply Kd.R_drew)); exact (Kd.R_mono (Kd.R_far (p := ⟨gb294, 4, none⟩) (Kd.R_far (p := ⟨gb294, 3, none⟩) (Kd.R_far (p := ⟨gb294, 2, none⟩) (Kd.R_far (p := ⟨gb294, 1, none⟩) (Kd.R_far (p := ⟨gb294, 0, none⟩) (Kd.R_types HO292.out BK294.out (by decide)) (fun _ hk => hk.2) (.int .i64 t283)) (fun _ hk => hk.2) (.slice Ao29 t284.length co29)) (fun _ hk => hk.2) (.slice Ao30 t287.length co30)) (fun _ hk => hk.2) (.slice Ao31 t290.length co31)) (fun _ hk => hk.2) (.int .i64 t293)) (fun _ h_ => h_.1)))); (case side6 => exact (Kd.R_reads' HO292.out).2.1); rintro e w32 ⟨rfl, hb⟩; refine ⟨_, rfl, ?_⟩; replace HO274 := mA (Kd.R_below (by (with_reducible repeat (first | apply Kd.R_alloc | apply Kd.R_drewN | apply Kd.R_drew)); exact (Kd.R_mono (Kd.R_far (p := ⟨gb294, 4, none⟩) (Kd.R_far (p := ⟨gb294, 3, none⟩) (Kd.R_far (p := ⟨gb294, 2, none⟩) (Kd.R_far (p := ⟨gb294, 1, none⟩) (Kd.R_far (p := ⟨gb294, 0, none⟩) (Kd.R_types HO274.out BK294.out (by decide)) (fun _ hk => hk.2) (.int .i64 t283)) (fun _ hk => hk.2) (.slice Ao29 t284.length co29)) (fun _ hk => hk.2) (.slice Ao30 t287.length co30)) (fun _ hk => hk.2) (.slice Ao31 t290.length co31)) (fun _ hk => hk.2) (.int .i64 t293)) (fun _ h_ => h_.1))) hb); replace HO277 := mA (Kd.R_below (by (with_reducible repeat (first | apply Kd.R_alloc | apply Kd.R_drewN | apply Kd.R_drew)); exact (Kd.R_mono (Kd.R_far (p := ⟨gb294, 4, none⟩) (Kd.R_far (p := ⟨gb294, 3, none⟩) (Kd.R_far (p := ⟨gb294, 2, none⟩) (Kd.R_far (p := ⟨gb294, 1, none⟩) (Kd.R_far (p := ⟨gb294, 0, none⟩) (Kd.R_types HO277.out BK294.out (by decide)) (fun _ hk => hk.2) (.int .i64 t283)) (fun _ hk => hk.2) (.slice Ao29 t284.length co29)) (fun _ hk => hk.2) (.slice Ao30 t287.length co30)) (fun _ hk => hk.2) (.slice Ao31 t290.length co31)) (fun _ hk => hk.2) (.int .i64 t293)) (fun _ h_ => h_.1))) hb); replace HO280 := mA (Kd.R_below (by (with_reducible repeat (first | apply Kd.R_alloc | apply Kd.R_drewN | apply Kd.R_drew)); exact (Kd.R_mono (Kd.R_far (p := ⟨gb294, 4, none⟩) (Kd.R_far (p := ⟨gb294, 3, none⟩) (Kd.R_far (p := ⟨gb294, 2, none⟩) (Kd.R_far (p := ⟨gb294, 1, none⟩) (Kd.R_far (p := ⟨gb294, 0, none⟩) (Kd.R_types HO280.out BK294.out (by decide)) (fun _ hk => hk.2) (.int .i64 t283)) (fun _ hk => hk.2) (.slice Ao29 t284.length co29)) (fun _ hk => hk.2) (.slice Ao30 t287.length co30)) (fun _ hk => hk.2) (.slice Ao31 t290.length co31)) (fun _ hk => hk.2) (.int .i64 t293)) (fun _ h_ => h_.1))) hb); replace HO286 := mA (Kd.R_below (by (with_reducible repeat (first | apply Kd.R_alloc | apply Kd.R_drewN | apply Kd.R_drew)); exact (Kd.R_mono (Kd.R_far (p := ⟨gb294, 4, none⟩) (Kd.R_far (p := ⟨gb294, 3, none⟩) (Kd.R_far (p := ⟨gb294, 2, none⟩) (Kd.R_far (p := ⟨gb294, 1, none⟩) (Kd.R_far (p := ⟨gb294, 0, none⟩) (Kd.R_types HO286.out BK294.out (by decide)) (fun _ hk => hk.2) (.int .i64 t283)) (fun _ hk => hk.2) (.slice Ao29 t284.length co29)) (fun _ hk => hk.2) (.slice Ao30 t287.length co30)) (fun _ hk => hk.2) (.slice Ao31 t290.length co31)) (fun _ hk => hk.2) (.int .i64 t293)) (fun _ h_ => h_.1))) hb); replace HO289 := mA (Kd.R_below (by (with_reducible repeat (first | apply Kd.R_alloc | apply Kd.R_drewN | apply Kd.R_drew)); exact (Kd.R_mono (Kd.R_far (p := ⟨gb294, 4, none⟩) (Kd.R_far (p := ⟨gb294, 3, none⟩) (Kd.R_far (p := ⟨gb294, 2, none⟩) (Kd.R_far (p := ⟨gb294, 1, none⟩) (Kd.R_far (p := ⟨gb294, 0, none⟩) (Kd.R_types HO289.out BK294.out (by decide)) (fun _ hk => hk.2) (.int .i64 t283)) (fun _ hk => hk.2) (.slice Ao29 t284.length co29)) (fun _ hk => hk.2) (.slice Ao30 t287.length co30)) (fun _ hk => hk.2) (.slice Ao31 t290.length co31)) (fun _ hk => hk.2) (.int .i64 t293)) (fun _ h_ => h_.1))) hb); replace HO292 := mA (Kd.R_below (by (with_reducible repeat (first | apply Kd.R_alloc | apply Kd.R_drewN | apply Kd.R_drew)); exact (Kd.R_mono (Kd.R_far (p := ⟨gb294, 4, none⟩) (Kd.R_far (p := ⟨gb294, 3, none⟩) (Kd.R_far (p := ⟨gb294, 2, none⟩) (Kd.R_far (p := ⟨gb294, 1, none⟩) (Kd.R_far (p := ⟨gb294, 0, none⟩) (Kd.R_types HO292.out BK294.out (by decide)) (fun _ hk => hk.2) (.int .i64 t283)) (fun _ hk => hk.2) (.slice Ao29 t284.length co29)) (fun _ hk => hk.2) (.slice Ao30 t287.length co30)) (fun _ hk => hk.2) (.slice Ao31 t290.length co31)) (fun _ hk => hk.2) (.int .i64 t293)) (fun _ h_ => h_.1))) hb); replace BK269 := mA (blk_below (g := gb269) (o := .cells #[.int .i64 a0_0, .slice A0_1 l0_1.length c0_1, .slice A0_2 l0_2.length c0_2, .slice A0_3 l0_3.length c0_3, .int .i64 a0_4] 33 (0, 0)) (by (with_reducible repeat (first | refine blk_drewN ?_ _ | refine blk_drew ?_ | refine blk_alloc ?_ _)); refine blk_far ?_ NB269_294.out _; (with_reducible repeat (first | refine blk_drewN ?_ _ | refine blk_drew ?_ | refine blk_alloc ?_ _)); refine blk_far ?_ NB269_294.out _; (with_reducible repeat (first | refine blk_drewN ?_ _ | refine blk_drew ?_ | refine blk_alloc ?_ _)); refine blk_far ?_ NB269_294.out _; (with_reducible repeat (first | refine blk_drewN ?_ _ | refine blk_drew ?_ | refine blk_alloc ?_ _)); refine blk_far ?_ NB269_294.out _; (with_reducible repeat (first | refine blk_drewN ?_ _ | refine blk_drew ?_ | refine blk_alloc ?_ _)); refine blk_far ?_ NB269_294.out _; (with_reducible repeat (first | refine blk_drewN ?_ _ | refine blk_drew ?_ | refine blk_alloc ?_ _)); exact BK269.out) hb); replace BK294 := mA (blk_below (g := gb294) (o := .cells #[.int .i64 t283, .slice Ao29 t284.length co29, .slice Ao30 t287.length co30, .slice Ao31 t290.length co31, .int .i64 t293] 37 (0, 0)) (by (with_reducible repeat (first | refine blk_drewN ?_ _ | refine blk_drew ?_ | refine blk_alloc ?_ _)); refine blk_put (cs := #[.int .i64 t283, .slice Ao29 t284.length co29, .slice Ao30 t287.length co30, .slice Ao31 t290.length co31, .int .i64 0]) ?_ 4 _ rfl; (with_reducible repeat (first | refine blk_drewN ?_ _ | refine blk_drew ?_ | refine blk_alloc ?_ _)); refine blk_put (cs := #[.int .i64 t283, .slice Ao29 t284.length co29, .slice Ao30 t287.length co30, .slice none 0 0, .int .i64 0]) ?_ 3 _ rfl; (with_reducible repeat (first | refine blk_drewN ?_ _ | refine blk_drew ?_ | refine blk_alloc ?_ _)); refine blk_put (cs := #[.int .i64 t283, .slice Ao29 t284.length co29, .slice none 0 0, .slice none 0 0, .int .i64 0]) ?_ 2 _ rfl; (with_reducible repeat (first | refine blk_drewN ?_ _ | refine blk_drew ?_ | refine blk_alloc ?_ _)); refine blk_put (cs := #[.int .i64 t283, .slice none 0 0, .slice none 0 0, .slice none 0 0, .int .i64 0]) ?_ 1 _ rfl; (with_reducible repeat (first | refine blk_drewN ?_ _ | refine blk_drew ?_ | refine blk_alloc ?_ _)); refine blk_put (cs := #[.int .i64 0, .slice none 0 0, .slice none 0 0, .slice none 0 0, .int .i64 0]) ?_ 0 _ rfl; (with_reducible repeat (first | refine blk_drewN ?_ _ | refine blk_drew ?_ | refine blk_alloc ?_ _)); exact BK294.out) hb); replace HB := mA (below_step (bT2 HB GE269 GE294) hb); (try clear hb); (try clear hk)))
    replace HO274 := mA (Kd.R_drew HO274.out)
    replace HO277 := mA (Kd.R_drew HO277.out)
    replace HO280 := mA (Kd.R_drew HO280.out)
    replace HO286 := mA (Kd.R_drew HO286.out)
    replace HO289 := mA (Kd.R_drew HO289.out)
    replace HO292 := mA (Kd.R_drew HO292.out)
    replace BK269 := mA (blk_drew BK269.out)
    replace BK294 := mA (blk_drew BK294.out)
    replace HB := mA (below_drew1 HB.out)
    refine start_ (n := 5) (S := fun w' => w'.cell? ⟨gb294, 0, none⟩ = some (.int .i64 t283) ∧ w'.cell? ⟨gb294, 1, none⟩ = some (.slice Ao29 t284.length co29) ∧ w'.cell? ⟨gb294, 2, none⟩ = some (.slice Ao30 t287.length co30) ∧ w'.cell? ⟨gb294, 3, none⟩ = some (.slice Ao31 t290.length co31) ∧ w'.cell? ⟨gb294, 4, none⟩ = some (.int .i64 t293) ∧ w'.cell? ⟨gb269, 0, none⟩ = some (.int .i64 a0_0) ∧ w'.cell? ⟨gb269, 1, none⟩ = some (.slice A0_1 l0_1.length c0_1) ∧ w'.cell? ⟨gb269, 2, none⟩ = some (.slice A0_2 l0_2.length c0_2) ∧ w'.cell? ⟨gb269, 3, none⟩ = some (.slice A0_3 l0_3.length c0_3) ∧ w'.cell? ⟨gb269, 4, none⟩ = some (.int .i64 a0_4)) (ds := []) #[false, false, false, false, false] (by kernel_rfl) rfl rfl ⟨(blk_cell BK294.out 0).trans rfl, (blk_cell BK294.out 1).trans rfl, (blk_cell BK294.out 2).trans rfl, (blk_cell BK294.out 3).trans rfl, (blk_cell BK294.out 4).trans rfl, (blk_cell BK269.out 0).trans rfl, (blk_cell BK269.out 1).trans rfl, (blk_cell BK269.out 2).trans rfl, (blk_cell BK269.out 3).trans rfl, (blk_cell BK269.out 4).trans rfl⟩ (fun hHeld => ?_)
    generalize w32.drew = w33 at HO274 HO277 HO280 HO286 HO289 HO292 BK269 BK294 HB hHeld ⊢
    refine take_ (i := 0) (N := some 22) (v := ?_) (a' := ?_) #[true, false, false, false, false] rfl rfl (by kernel_rfl) (fun _ _ _ h => h) (Or.inl ⟨by rfl, ?_⟩) hHeld ?_ ?_
    rotate_left
    ·
     rintro w' ⟨s0, s1, s2, s3, s4, s5, s6, s7, s8, s9⟩
     go_simp
     with_reducible rfl
    rotate_left
    ·
     simp only [Act.put, List.setIfInBounds_toArray, List.set_cons_zero, List.set_cons_succ, i64_w, i32_w]
     rfl
    refine take_ (i := 1) (N := some 23) (v := ?_) (a' := ?_) #[true, true, false, false, false] rfl rfl (by kernel_rfl) (fun _ _ _ h => h) (Or.inl ⟨by rfl, ?_⟩) hHeld ?_ ?_
    rotate_left
    ·
     rintro w' ⟨s0, s1, s2, s3, s4, s5, s6, s7, s8, s9⟩
     go_simp
     with_reducible rfl
    rotate_left
    ·
     simp only [Act.put, List.setIfInBounds_toArray, List.set_cons_zero, List.set_cons_succ, i64_w, i32_w]
     rfl
    refine one_ (i := 2) (N := some 24) #[true, true, true, false, false] rfl rfl (by kernel_rfl) (by decide) (fun K hK => ?_)
    refine goes_ Try.func24 (by kernel_rfl) rfl #[.agg #[.int .i64 a0_0, .slice A0_1 l0_1.length c0_1, .slice A0_2 l0_2.length c0_2, .slice A0_3 l0_3.length c0_3, .int .i64 a0_4]] (by rfl) rfl rfl mT ?_
    with_reducible refine (laws_toTask.calls k a0_0 _ _ l0_1 _ _ l0_2 _ _ l0_3 a0_4 t296 t297 t300 t303 t306 _ ?side1 ?side2 ?side3 ?side4 ?side5 ?side6 A12.out).mono ?_
    (case side1 => exact cT (Kd.C_below HR0_1.out HB.out))
    (case side2 => exact HC0_1.out)
    (case side3 => exact cT (Kd.C_below HR0_2.out HB.out))
    (case side4 => exact HC0_2.out)
    (case side5 => exact cT (Kd.C_below HR0_3.out HB.out))
    (case side6 => exact HC0_3.out)
    rintro e w34 ⟨v298, v301, v304, rfl, ho0, ho1, ho2, hb⟩
    refine ⟨_, rfl, ?_⟩
    have HO299 := mA (Kd.R_lower (Kd.R_new' (Kd.R_new' (Kd.R_new' (Kd.R_new' ho0 (Kd.R_lt (rTR HO274))) (Kd.R_lt (rTR HO277))) (Kd.R_lt (rTR HO286))) (Kd.R_lt (rTR HO289))) (below_size (bT2 HB GE269 GE294)))
    have HO302 := mA (Kd.R_lower (Kd.R_new' (Kd.R_new' (Kd.R_new' (Kd.R_new' ho1 (Kd.R_lt (rTR HO274))) (Kd.R_lt (rTR HO277))) (Kd.R_lt (rTR HO286))) (Kd.R_lt (rTR HO289))) (below_size (bT2 HB GE269 GE294)))
    replace HO286 := mA (Kd.R_mono (Kd.R_told (Kd.R_told (Kd.R_old (rTR HO286) hb) (Kd.R_base ho0)) (Kd.R_base ho1)) (fun _ h_ => h_.1))
    replace HO289 := mA (Kd.R_mono (Kd.R_told (Kd.R_told (Kd.R_old (rTR HO289) hb) (Kd.R_base ho0)) (Kd.R_base ho1)) (fun _ h_ => h_.1))
    have HO305 := mA (Kd.R_lower (Kd.R_new' (Kd.R_new' ho2 (Kd.R_lt (rTR HO280))) (Kd.R_lt (rTR HO292))) (below_size (bT2 HB GE269 GE294)))
    replace HO292 := mA (Kd.R_elder' (rTR HO292) (Kd.R_base ho2) hb)
    replace BK269 := kB BK269 hb
    replace BK294 := kB BK294 hb
    replace HB := mA (below_step (bT2 HB GE269 GE294) hb)
    (try clear hb)
    (try clear hb2)
    (try clear hk)
    (try clear hi)
    (try clear ho0)
    (try clear ho1)
    (try clear ho2)
    obtain ⟨Ao35, co35, eo35⟩ := Kd.R_slice HO299.out
    (first | subst eo35 | (injection eo35 with f1_ f2_ f3_; have f4_ := f1_.symm; have f5_ := f3_.symm; clear f1_ f2_ f3_; subst f4_; subst f5_))
    obtain ⟨Ao36, co36, eo36⟩ := Kd.R_slice HO302.out
    (first | subst eo36 | (injection eo36 with f1_ f2_ f3_; have f4_ := f1_.symm; have f5_ := f3_.symm; clear f1_ f2_ f3_; subst f4_; subst f5_))
    obtain ⟨Ao37, co37, eo37⟩ := Kd.R_slice HO305.out
    (first | subst eo37 | (injection eo37 with f1_ f2_ f3_; have f4_ := f1_.symm; have f5_ := f3_.symm; clear f1_ f2_ f3_; subst f4_; subst f5_))
    refine hK.out _ _ ⟨(blk_cell BK294.out 0).trans rfl, (blk_cell BK294.out 1).trans rfl, (blk_cell BK294.out 2).trans rfl, (blk_cell BK294.out 3).trans rfl, (blk_cell BK294.out 4).trans rfl, (blk_cell BK269.out 0).trans rfl, (blk_cell BK269.out 1).trans rfl, (blk_cell BK269.out 2).trans rfl, (blk_cell BK269.out 3).trans rfl, (blk_cell BK269.out 4).trans rfl⟩ (fun hHeld => ?_)
    clear hK K
    refine norm_ (a' := ?_) ?_ ?_
    rotate_left
    ·
     show Act.put _ (some 24) _ = _
     simp only [Act.put, List.setIfInBounds_toArray, List.set_cons_zero, List.set_cons_succ, i64_w, i32_w]
     rfl
    refine one_ (i := 3) (N := some 25) #[true, true, true, true, false] rfl rfl (by kernel_rfl) (by decide) (fun K hK => ?_)
    refine goes_ Try.func26 (by kernel_rfl) rfl #[.agg #[.int .i64 t283, .slice Ao29 t284.length co29, .slice Ao30 t287.length co30, .slice Ao31 t290.length co31, .int .i64 t293], .agg #[.int .i64 t296, .slice Ao35 t297.length co35, .slice Ao36 t300.length co36, .slice Ao37 t303.length co37, .int .i64 t306]] (by rfl) rfl rfl mT ?_
    with_reducible refine (laws_eqTask.calls k t283 _ _ t284 _ _ t287 _ _ t290 t293 t296 _ _ t297 _ _ t300 _ _ t303 t306 true _ ?side1 ?side2 ?side3 ?side4 ?side5 ?side6 ?side7 ?side8 ?side9 ?side10 ?side11 ?side12 A13.out).mono ?_
    (case side1 => exact cT ((Kd.R_reads' HO286.out).2.2))
    (case side2 => exact (Kd.R_reads' HO286.out).2.1)
    (case side3 => exact cT ((Kd.R_reads' HO289.out).2.2))
    (case side4 => exact (Kd.R_reads' HO289.out).2.1)
    (case side5 => exact cT ((Kd.R_reads' HO292.out).2.2))
    (case side6 => exact (Kd.R_reads' HO292.out).2.1)
    (case side7 => exact cT ((Kd.R_reads' HO299.out).2.2))
    (case side8 => exact (Kd.R_reads' HO299.out).2.1)
    (case side9 => exact cT ((Kd.R_reads' HO302.out).2.2))
    (case side10 => exact (Kd.R_reads' HO302.out).2.1)
    (case side11 => exact cT ((Kd.R_reads' HO305.out).2.2))
    (case side12 => exact (Kd.R_reads' HO305.out).2.1)
    rintro e w38 ⟨rfl, hb⟩
    refine ⟨_, rfl, ?_⟩
    replace BK269 := kB BK269 hb
    replace BK294 := kB BK294 hb
    replace HB := mA (below_step (bT2 HB GE269 GE294) hb)
    (try clear hb)
    (try clear hb2)
    (try clear hk)
    (try clear hi)
    refine hK.out _ _ ⟨(blk_cell BK294.out 0).trans rfl, (blk_cell BK294.out 1).trans rfl, (blk_cell BK294.out 2).trans rfl, (blk_cell BK294.out 3).trans rfl, (blk_cell BK294.out 4).trans rfl, (blk_cell BK269.out 0).trans rfl, (blk_cell BK269.out 1).trans rfl, (blk_cell BK269.out 2).trans rfl, (blk_cell BK269.out 3).trans rfl, (blk_cell BK269.out 4).trans rfl⟩ (fun hHeld => ?_)
    clear hK K
    refine norm_ (a' := ?_) ?_ ?_
    rotate_left
    ·
     show Act.put _ (some 25) _ = _
     simp only [Act.put, List.setIfInBounds_toArray, List.set_cons_zero, List.set_cons_succ, i64_w, i32_w]
     rfl
    refine pureT (i := 4) (N := some 26) #[true, true, true, true, true] (by kernel_rfl) ?_
    refine done_ (by kernel_rfl) ?_
    try go_wp2
    go_ret
    exact ⟨eT, bT2 HB GE269 GE294⟩
   ·
    replace c14 := Bool.eq_false_iff.mpr c14
    subst c14
    rw [if_neg (show ¬ (false = true) by decide)] at H
    exact absurd ((Option.some.inj H).trans HT.out) (by simp)

end Go.Proofs.Ythciieopabndcaa.P
