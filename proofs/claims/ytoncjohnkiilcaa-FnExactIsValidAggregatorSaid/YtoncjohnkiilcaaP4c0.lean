/- Written by tools/seatprint.py over the translation. Lean checks it. -/
import Derived.Test.YtoncjohnkiilcaaP0
import Derived.Test.YtoncjohnkiilcaaP86c0
import Derived.Test.YtoncjohnkiilcaaP8ec0
import Derived.Test.YtoncjohnkiilcaaPc4c0
namespace Go.Proofs.Ytoncjohnkiilcaa.P
open Go.RowKit Go.Proofs.YtoncjohnkiilcaaW.PrintWords Go.Proofs.YtoncjohnkiilcaaW.PrintLast Go.Proofs.YtoncjohnkiilcaaW.PrintMore
attribute [local go_sem] max2_int min2_int max_two min_two max_three min_three max_four min_four
set_option linter.unusedVariables false
set_option linter.unusedSimpArgs false

/-! ### laws_FnExactIsValidAggregator: function 5 -/
def laws_FnExactIsValidAggregator.f (k : Nat) (l0_0 : List (S107)) (a0_1 : Int) (a0_2 : Bool) : Option (Bool) := (laws_szAggregator.f k l0_0 a0_1 a0_2 1048576).bind fun t268 => (if t268 < 0 then (some true) else ((laws_toAggregator.f k l0_0 a0_1 a0_2).bind fun bt269 => ((spec_IsValidAggregator.f k bt269.1 bt269.2.1 bt269.2.2).bind fun t274 => ((laws_toAggregator.f k l0_0 a0_1 a0_2).bind fun bt275 => ((impl_IsValidAggregator.f k bt275.1 bt275.2.1 bt275.2.2).bind fun t281 => (if (t281 != t274) = true then (some false) else ((laws_toAggregator.f k l0_0 a0_1 a0_2).bind fun bt282 => ((laws_eqAggregator.f k bt275.1 bt275.2.1 bt275.2.2 bt282.1 bt282.2.1 bt282.2.2).bind fun t287 => (if t287 = true then (some true) else (some false))))))))))
theorem laws_FnExactIsValidAggregator.mono : ∀ a0 a1 a2 k, LeO (laws_FnExactIsValidAggregator.f k a0 a1 a2) (laws_FnExactIsValidAggregator.f (k + 1) a0 a1 a2) := by
 intro a0 a1 a2 k
 unfold laws_FnExactIsValidAggregator.f
 repeat' first
   | (with_reducible exact impl_IsValidAggregator.mono _ _ _ _)
   | (with_reducible exact laws_eqAggregator.mono _ _ _ _ _ _ _)
   | (with_reducible exact laws_szAggregator.mono _ _ _ _ _)
   | (with_reducible exact laws_toAggregator.mono _ _ _ _)
   | (with_reducible exact spec_IsValidAggregator.mono _ _ _ _)
   | (with_reducible exact LeO.refl _)
   | (with_reducible exact LeO.none _)
   | (with_reducible refine LeO.ite ?_ ?_)
   | (with_reducible refine LeO.bind ?_ (fun _ => ?_))
   | exact impl_IsValidAggregator.mono _ _ _ _
   | exact laws_eqAggregator.mono _ _ _ _ _ _ _
   | exact laws_szAggregator.mono _ _ _ _ _
   | exact laws_toAggregator.mono _ _ _ _
   | exact spec_IsValidAggregator.mono _ _ _ _
   | exact LeO.none _
   | refine LeO.ite ?_ ?_
   | refine LeO.bind ?_ (fun _ => ?_)
set_option maxHeartbeats 8000000 in
set_option maxRecDepth 100000 in
theorem laws_FnExactIsValidAggregator.calls (k : Nat) (A0_0 : Option Addr) (c0_0 : Nat) (l0_0 : List (S107)) (a0_1 : Int) (a0_2 : Bool) (r : Bool) (w : World) (hr0_0 : Kd.C k107 w A0_0 l0_0.length l0_0) (hc0_0 : l0_0.length ≤ c0_0) (ht : r = true) (h : laws_FnExactIsValidAggregator.f k l0_0 a0_1 a0_2 = some r) :
  Calls Try.prog 5 #[.agg #[.slice A0_0 l0_0.length c0_0, .int .i64 a0_1, .bool a0_2]] w fun e w' => e = .returned (.bool r) ∧ Below w.heap.size w w' := by
 have hu35 := Try.underlying35
 have hu40 := Try.underlying40
 have HR0_0 := mA hr0_0
 have HC0_0 := mA hc0_0
 clear hr0_0 hc0_0
 have HB := mA (Below.refl w.heap.size w)
 have HT := mA ht
 clear ht
 have H : ((laws_szAggregator.f k l0_0 a0_1 a0_2 1048576).bind fun t268 => (if t268 < 0 then (some true) else ((laws_toAggregator.f k l0_0 a0_1 a0_2).bind fun bt269 => ((spec_IsValidAggregator.f k bt269.1 bt269.2.1 bt269.2.2).bind fun t274 => ((laws_toAggregator.f k l0_0 a0_1 a0_2).bind fun bt275 => ((impl_IsValidAggregator.f k bt275.1 bt275.2.1 bt275.2.2).bind fun t281 => (if (t281 != t274) = true then (some false) else ((laws_toAggregator.f k l0_0 a0_1 a0_2).bind fun bt282 => ((laws_eqAggregator.f k bt275.1 bt275.2.1 bt275.2.2 bt282.1 bt282.2.1 bt282.2.2).bind fun t287 => (if t287 = true then (some true) else (some false))))))))))) = some r := h
 clear h
 obtain ⟨t268, A2, H⟩ := Option.bind_eq_some_iff.mp H
 replace A2 := mA A2
 try dsimp only at H
 by_cases c3 : t268 < 0
 ·
  rw [if_pos c3] at H
  have c3b0 : decide (t268 < 0) = true := decide_eq_true c3
  clear c3
  obtain rfl := Option.some.inj H
  go_enter Try.func5, Try.ntmps5
  go_wp2_with (first | ((with_reducible refine gate_dst (N := 1) rfl ?_); refine boxT 1 #[.slice A0_0 l0_0.length c0_0, .int .i64 a0_1, .bool a0_2] 35 ?_; intro gb267 hg w4 hbox hb; have BK267 := mA (hbox); have GW267 := mA ((by rw [hg]; exact (below_size (bT HB)) : w.heap.size ≤ gb267)); have GE267 := GW267; replace HB := mA (below_step (bT HB) hb); clear hb hbox hg; obtain ⟨hcz5_0, hcz5_1, hcz5_2, hfz5_0, hfz5_1, hfz5_2⟩ := blk3 BK267.out) | ((with_reducible refine gate_callee (f := 20) rfl ?_); refine goesT (some 9) Try.func20 #[.agg #[.slice A0_0 l0_0.length c0_0, .int .i64 a0_1, .bool a0_2], .int .i64 1048576] ?_; (with_reducible refine (laws_szAggregator.calls k _ _ l0_0 a0_1 a0_2 1048576 t268 _ ?side1 ?side2 A2.out).mono ?_); (case side1 => exact cT (Kd.C_below HR0_0.out HB.out)); (case side2 => exact HC0_0.out); rintro e w6 ⟨rfl, hb⟩; refine ⟨_, rfl, ?_⟩; replace HB := mA (below_step (bT1 HB GE267) hb); (try clear hb)))
  go_ret
  exact ⟨eT, bT1 HB GE267⟩
 ·
  rw [if_neg c3] at H
  have c3b0 : decide (t268 < 0) = false := decide_eq_false c3
  clear c3
  obtain ⟨⟨t269, t272, t273⟩, A7, H⟩ := Option.bind_eq_some_iff.mp H
  replace A7 := mA A7
  try dsimp only at H
  obtain ⟨t274, A8, H⟩ := Option.bind_eq_some_iff.mp H
  replace A8 := mA A8
  try dsimp only at H
  obtain ⟨⟨t275, t278, t279⟩, A9, H⟩ := Option.bind_eq_some_iff.mp H
  replace A9 := mA A9
  try dsimp only at H
  obtain ⟨t281, A10, H⟩ := Option.bind_eq_some_iff.mp H
  replace A10 := mA A10
  try dsimp only at H
  by_cases c11 : (t281 != t274) = true
  ·
   rw [if_pos c11] at H
   have c11b0 : (t281 != t274) = true := c11
   (try (have c11b1 : decide (t281 = t274) = false := by simpa using c11))
   (try (have c11b2 : (t281 == t274) = false := by simpa using c11))
   (try (have c11b3 : ¬ (t281 = t274) := by simpa using c11))
   clear c11
   exact absurd ((Option.some.inj H).trans HT.out) (by simp)
  ·
   rw [if_neg c11] at H
   have c11b0 : (t281 != t274) = false := by simpa using c11
   (try (have c11b1 : decide (t281 = t274) = true := by simpa using c11))
   (try (have c11b2 : (t281 == t274) = true := by simpa using c11))
   clear c11
   obtain ⟨⟨t282, t285, t286⟩, A12, H⟩ := Option.bind_eq_some_iff.mp H
   replace A12 := mA A12
   try dsimp only at H
   obtain ⟨t287, A13, H⟩ := Option.bind_eq_some_iff.mp H
   replace A13 := mA A13
   replace H : (if t287 = true then (some true) else (some false)) = some r := H
   by_cases c14 : t287 = true
   ·
    subst c14
    rw [if_pos rfl] at H
    obtain rfl := Option.some.inj H
    go_enter Try.func5, Try.ntmps5
    try go_wp2_with (first | ((with_reducible refine gate_dst (N := 1) rfl ?_); refine boxT 1 #[.slice A0_0 l0_0.length c0_0, .int .i64 a0_1, .bool a0_2] 35 ?_; intro gb267 hg w15 hbox hb; have BK267 := mA (hbox); have GW267 := mA ((by rw [hg]; exact (below_size (bT HB)) : w.heap.size ≤ gb267)); have GE267 := GW267; replace HB := mA (below_step (bT HB) hb); clear hb hbox hg; obtain ⟨hcz16_0, hcz16_1, hcz16_2, hfz16_0, hfz16_1, hfz16_2⟩ := blk3 BK267.out) | ((with_reducible refine gate_callee (f := 20) rfl ?_); refine goesT (some 9) Try.func20 #[.agg #[.slice A0_0 l0_0.length c0_0, .int .i64 a0_1, .bool a0_2], .int .i64 1048576] ?_; (with_reducible refine (laws_szAggregator.calls k _ _ l0_0 a0_1 a0_2 1048576 t268 _ ?side1 ?side2 A2.out).mono ?_); (case side1 => exact cT (Kd.C_below HR0_0.out HB.out)); (case side2 => exact HC0_0.out); rintro e w17 ⟨rfl, hb⟩; refine ⟨_, rfl, ?_⟩; replace BK267 := kB BK267 hb; replace HB := mA (below_step (bT1 HB GE267) hb); (try clear hb); (try clear hk); obtain ⟨hcz18_0, hcz18_1, hcz18_2, hfz18_0, hfz18_1, hfz18_2⟩ := blk3 BK267.out) | ((with_reducible refine gate_callee (f := 22) rfl ?_); refine goesT (some 13) Try.func22 #[.agg #[.slice A0_0 l0_0.length c0_0, .int .i64 a0_1, .bool a0_2]] ?_; (with_reducible refine (laws_toAggregator.calls k _ _ l0_0 a0_1 a0_2 t269 t272 t273 _ ?side1 ?side2 A7.out).mono ?_); (case side1 => exact cT (Kd.C_below HR0_0.out HB.out)); (case side2 => exact HC0_0.out); rintro e w19 ⟨v270, rfl, ho0, hb⟩; refine ⟨_, rfl, ?_⟩; have HO271 := mA (Kd.S_lower ho0 (below_size (bT1 HB GE267))); replace BK267 := kB BK267 hb; replace HB := mA (below_step (bT1 HB GE267) hb); (try clear hb); (try clear hk); (try clear ho0); obtain ⟨Ao20, co20, eo20⟩ := Kd.S_slice HO271.out; subst eo20) | ((with_reducible refine gate_callee (f := 25) rfl ?_); refine goesT (some 14) Try.func25 #[.agg #[.slice Ao20 t269.length co20, .int .i64 t272, .bool t273]] ?_; (with_reducible refine (spec_IsValidAggregator.calls k _ _ t269 t272 t273 t274 _ ?side1 ?side2 A8.out).mono ?_); (case side1 => exact cT ((Kd.S_reads' HO271.out).2.2)); (case side2 => exact (Kd.S_reads' HO271.out).2.1); rintro e w21 ⟨rfl, hb⟩; refine ⟨_, rfl, ?_⟩; replace HO271 := rBS HO271 hb; replace BK267 := kB BK267 hb; replace HB := mA (below_step (bT1 HB GE267) hb); (try clear hb); (try clear hk); obtain ⟨hcz22_0, hcz22_1, hcz22_2, hfz22_0, hfz22_1, hfz22_2⟩ := blk3 BK267.out) | ((with_reducible refine gate_callee (f := 22) rfl ?_); refine goesT (some 16) Try.func22 #[.agg #[.slice A0_0 l0_0.length c0_0, .int .i64 a0_1, .bool a0_2]] ?_; (with_reducible refine (laws_toAggregator.calls k _ _ l0_0 a0_1 a0_2 t275 t278 t279 _ ?side1 ?side2 A9.out).mono ?_); (case side1 => exact cT (Kd.C_below HR0_0.out HB.out)); (case side2 => exact HC0_0.out); rintro e w23 ⟨v276, rfl, ho0, hb⟩; refine ⟨_, rfl, ?_⟩; have HO277 := mA (Kd.S_lower (Kd.S_new' ho0 (Kd.S_lt (rTS HO271))) (below_size (bT1 HB GE267))); replace HO271 := mA (Kd.S_elder' (rTS HO271) (Kd.S_base ho0) hb); replace BK267 := kB BK267 hb; replace HB := mA (below_step (bT1 HB GE267) hb); (try clear hb); (try clear hk); (try clear ho0)) | ((with_reducible refine gate_dst (N := 5) rfl ?_); refine boxT 5 #[.slice none 0 0, .int .i64 0, .bool false] 40 ?_; intro gb280 hg w24 hbox hb; replace HO271 := rBS HO271 hb; replace HO277 := rBS HO277 hb; have BK280 := mA (hbox); have GW280 := mA ((by rw [hg]; exact (below_size (bT1 HB GE267)) : w.heap.size ≤ gb280)); have GE280 := GW280; replace HB := mA (below_step (bT1 HB GE267) hb); have NB267_280 : Aside0 (gb267 ≠ gb280) := nL BK267 hg; have NB280_267 : Aside0 (gb280 ≠ gb267) := nG BK267 hg; replace BK267 := kB BK267 hb; clear hb hbox hg; obtain ⟨Ao25, co25, eo25⟩ := Kd.S_slice HO277.out; subst eo25; have hnb26 := NB280_267.out; have hnc26 := NB267_280.out; obtain ⟨hcz27_0, hcz27_1, hcz27_2, hfz27_0, hfz27_1, hfz27_2⟩ := blk3 BK280.out) | ((with_reducible refine gate_callee (f := 26) rfl ?_); refine goesT (some 18) Try.func26 #[.agg #[.slice Ao25 t275.length co25, .int .i64 t278, .bool t279]] ?_; (with_reducible refine (impl_IsValidAggregator.calls k _ _ t275 t278 t279 t281 _ ?side1 ?side2 A10.out).mono ?_); (case side1 => refine (Kd.S_reads' (e := 80) (base := w.heap.size) (ok := fun k_ => (True ∧ some k_ ≠ (.slice Ao20 t269.length co20 : Value).ownBlock)) (n := t275.length) (c := co25) ?_).2.2; exact (by (with_reducible repeat (first | apply Kd.S_alloc | apply Kd.S_drewN | apply Kd.S_drew)); exact (Kd.S_mono (Kd.S_far (p := ⟨gb280, 2, none⟩) (Kd.S_far (p := ⟨gb280, 1, none⟩) (Kd.S_far (p := ⟨gb280, 0, none⟩) (Kd.S_types HO277.out BK280.out (by decide)) (fun _ hk => hk.2) (.slice Ao25 t275.length co25)) (fun _ hk => hk.2) (.int .i64 t278)) (fun _ hk => hk.2) (.bool t279)) (fun _ h_ => h_.1)))); (case side2 => exact (Kd.S_reads' HO277.out).2.1); rintro e w28 ⟨rfl, hb⟩; refine ⟨_, rfl, ?_⟩; replace HO271 := mA (Kd.S_below (by (with_reducible repeat (first | apply Kd.S_alloc | apply Kd.S_drewN | apply Kd.S_drew)); exact (Kd.S_mono (Kd.S_far (p := ⟨gb280, 2, none⟩) (Kd.S_far (p := ⟨gb280, 1, none⟩) (Kd.S_far (p := ⟨gb280, 0, none⟩) (Kd.S_types HO271.out BK280.out (by decide)) (fun _ hk => hk.2) (.slice Ao25 t275.length co25)) (fun _ hk => hk.2) (.int .i64 t278)) (fun _ hk => hk.2) (.bool t279)) (fun _ h_ => h_.1))) hb); replace HO277 := mA (Kd.S_below (by (with_reducible repeat (first | apply Kd.S_alloc | apply Kd.S_drewN | apply Kd.S_drew)); exact (Kd.S_mono (Kd.S_far (p := ⟨gb280, 2, none⟩) (Kd.S_far (p := ⟨gb280, 1, none⟩) (Kd.S_far (p := ⟨gb280, 0, none⟩) (Kd.S_types HO277.out BK280.out (by decide)) (fun _ hk => hk.2) (.slice Ao25 t275.length co25)) (fun _ hk => hk.2) (.int .i64 t278)) (fun _ hk => hk.2) (.bool t279)) (fun _ h_ => h_.1))) hb); replace BK267 := mA (blk_below (g := gb267) (o := .cells #[.slice A0_0 l0_0.length c0_0, .int .i64 a0_1, .bool a0_2] 35 (0, 0)) (by (with_reducible repeat (first | refine blk_drewN ?_ _ | refine blk_drew ?_ | refine blk_alloc ?_ _)); refine blk_far ?_ NB267_280.out _; (with_reducible repeat (first | refine blk_drewN ?_ _ | refine blk_drew ?_ | refine blk_alloc ?_ _)); refine blk_far ?_ NB267_280.out _; (with_reducible repeat (first | refine blk_drewN ?_ _ | refine blk_drew ?_ | refine blk_alloc ?_ _)); refine blk_far ?_ NB267_280.out _; (with_reducible repeat (first | refine blk_drewN ?_ _ | refine blk_drew ?_ | refine blk_alloc ?_ _)); exact BK267.out) hb); replace BK280 := mA (blk_below (g := gb280) (o := .cells #[.slice Ao25 t275.length co25, .int .i64 t278, .bool t279] 40 (0, 0)) (by (with_reducible repeat (first | refine blk_drewN ?_ _ | refine blk_drew ?_ | refine blk_alloc ?_ _)); refine blk_put (cs := #[.slice Ao25 t275.length co25, .int .i64 t278, .bool false]) ?_ 2 _ rfl; (with_reducible repeat (first | refine blk_drewN ?_ _ | refine blk_drew ?_ | refine blk_alloc ?_ _)); refine blk_put (cs := #[.slice Ao25 t275.length co25, .int .i64 0, .bool false]) ?_ 1 _ rfl; (with_reducible repeat (first | refine blk_drewN ?_ _ | refine blk_drew ?_ | refine blk_alloc ?_ _)); refine blk_put (cs := #[.slice none 0 0, .int .i64 0, .bool false]) ?_ 0 _ rfl; (with_reducible repeat (first | refine blk_drewN ?_ _ | refine blk_drew ?_ | refine blk_alloc ?_ _)); exact BK280.out) hb); replace HB := mA (below_step (bT2 HB GE267 GE280) hb); (try clear hb); (try clear hk)))
    replace HO271 := mA (Kd.S_drew HO271.out)
    replace HO277 := mA (Kd.S_drew HO277.out)
    replace BK267 := mA (blk_drew BK267.out)
    replace BK280 := mA (blk_drew BK280.out)
    replace HB := mA (below_drew1 HB.out)
    refine start_ (n := 5) (S := fun w' => w'.cell? ⟨gb280, 0, none⟩ = some (.slice Ao25 t275.length co25) ∧ w'.cell? ⟨gb280, 1, none⟩ = some (.int .i64 t278) ∧ w'.cell? ⟨gb280, 2, none⟩ = some (.bool t279) ∧ w'.cell? ⟨gb267, 0, none⟩ = some (.slice A0_0 l0_0.length c0_0) ∧ w'.cell? ⟨gb267, 1, none⟩ = some (.int .i64 a0_1) ∧ w'.cell? ⟨gb267, 2, none⟩ = some (.bool a0_2)) (ds := []) #[false, false, false, false, false] (by kernel_rfl) rfl rfl ⟨(blk_cell BK280.out 0).trans rfl, (blk_cell BK280.out 1).trans rfl, (blk_cell BK280.out 2).trans rfl, (blk_cell BK267.out 0).trans rfl, (blk_cell BK267.out 1).trans rfl, (blk_cell BK267.out 2).trans rfl⟩ (fun hHeld => ?_)
    generalize w28.drew = w29 at HO271 HO277 BK267 BK280 HB hHeld ⊢
    refine take_ (i := 0) (N := some 22) (v := ?_) (a' := ?_) #[true, false, false, false, false] rfl rfl (by kernel_rfl) (fun _ _ _ h => h) (Or.inl ⟨by rfl, ?_⟩) hHeld ?_ ?_
    rotate_left
    ·
     rintro w' ⟨s0, s1, s2, s3, s4, s5⟩
     go_simp
     with_reducible rfl
    rotate_left
    ·
     simp only [Act.put, List.setIfInBounds_toArray, List.set_cons_zero, List.set_cons_succ, i64_w, i32_w]
     rfl
    refine take_ (i := 1) (N := some 23) (v := ?_) (a' := ?_) #[true, true, false, false, false] rfl rfl (by kernel_rfl) (fun _ _ _ h => h) (Or.inl ⟨by rfl, ?_⟩) hHeld ?_ ?_
    rotate_left
    ·
     rintro w' ⟨s0, s1, s2, s3, s4, s5⟩
     go_simp
     with_reducible rfl
    rotate_left
    ·
     simp only [Act.put, List.setIfInBounds_toArray, List.set_cons_zero, List.set_cons_succ, i64_w, i32_w]
     rfl
    refine one_ (i := 2) (N := some 24) #[true, true, true, false, false] rfl rfl (by kernel_rfl) (by decide) (fun K hK => ?_)
    refine goes_ Try.func22 (by kernel_rfl) rfl #[.agg #[.slice A0_0 l0_0.length c0_0, .int .i64 a0_1, .bool a0_2]] (by rfl) rfl rfl mT ?_
    with_reducible refine (laws_toAggregator.calls k _ _ l0_0 a0_1 a0_2 t282 t285 t286 _ ?side1 ?side2 A12.out).mono ?_
    (case side1 => exact cT (Kd.C_below HR0_0.out HB.out))
    (case side2 => exact HC0_0.out)
    rintro e w30 ⟨v283, rfl, ho0, hb⟩
    refine ⟨_, rfl, ?_⟩
    have HO284 := mA (Kd.S_lower (Kd.S_new' (Kd.S_new' ho0 (Kd.S_lt (rTS HO271))) (Kd.S_lt (rTS HO277))) (below_size (bT2 HB GE267 GE280)))
    replace HO277 := mA (Kd.S_elder' (rTS HO277) (Kd.S_base ho0) hb)
    replace BK267 := kB BK267 hb
    replace BK280 := kB BK280 hb
    replace HB := mA (below_step (bT2 HB GE267 GE280) hb)
    (try clear hb)
    (try clear hb2)
    (try clear hk)
    (try clear hi)
    (try clear ho0)
    obtain ⟨Ao31, co31, eo31⟩ := Kd.S_slice HO284.out
    (first | subst eo31 | (injection eo31 with f1_ f2_ f3_; have f4_ := f1_.symm; have f5_ := f3_.symm; clear f1_ f2_ f3_; subst f4_; subst f5_))
    refine hK.out _ _ ⟨(blk_cell BK280.out 0).trans rfl, (blk_cell BK280.out 1).trans rfl, (blk_cell BK280.out 2).trans rfl, (blk_cell BK267.out 0).trans rfl, (blk_cell BK267.out 1).trans rfl, (blk_cell BK267.out 2).trans rfl⟩ (fun hHeld => ?_)
    clear hK K
    refine norm_ (a' := ?_) ?_ ?_
    rotate_left
    ·
     show Act.put _ (some 24) _ = _
     simp only [Act.put, List.setIfInBounds_toArray, List.set_cons_zero, List.set_cons_succ, i64_w, i32_w]
     rfl
    refine one_ (i := 3) (N := some 25) #[true, true, true, true, false] rfl rfl (by kernel_rfl) (by decide) (fun K hK => ?_)
    refine goes_ Try.func24 (by kernel_rfl) rfl #[.agg #[.slice Ao25 t275.length co25, .int .i64 t278, .bool t279], .agg #[.slice Ao31 t282.length co31, .int .i64 t285, .bool t286]] (by rfl) rfl rfl mT ?_
    with_reducible refine (laws_eqAggregator.calls k _ _ t275 t278 t279 _ _ t282 t285 t286 true _ ?side1 ?side2 ?side3 ?side4 A13.out).mono ?_
    (case side1 => exact cT ((Kd.S_reads' HO277.out).2.2))
    (case side2 => exact (Kd.S_reads' HO277.out).2.1)
    (case side3 => exact cT ((Kd.S_reads' HO284.out).2.2))
    (case side4 => exact (Kd.S_reads' HO284.out).2.1)
    rintro e w32 ⟨rfl, hb⟩
    refine ⟨_, rfl, ?_⟩
    replace BK267 := kB BK267 hb
    replace BK280 := kB BK280 hb
    replace HB := mA (below_step (bT2 HB GE267 GE280) hb)
    (try clear hb)
    (try clear hb2)
    (try clear hk)
    (try clear hi)
    refine hK.out _ _ ⟨(blk_cell BK280.out 0).trans rfl, (blk_cell BK280.out 1).trans rfl, (blk_cell BK280.out 2).trans rfl, (blk_cell BK267.out 0).trans rfl, (blk_cell BK267.out 1).trans rfl, (blk_cell BK267.out 2).trans rfl⟩ (fun hHeld => ?_)
    clear hK K
    refine norm_ (a' := ?_) ?_ ?_
    rotate_left
    ·
     show Act.put _ (some 25) _ = _
     simp only [Act.put, List.setIfInBounds_toArray, List.set_cons_zero, List.set_cons_succ, i64_w, i32_w]
     rfl
    refine pureT (i := 4) (N := some 26) #[true, true, true, true, true] (by kernel_rfl) ?_
    refine done_ (by kernel_rfl) ?_
    try go_wp2
    go_ret
    exact ⟨eT, bT2 HB GE267 GE280⟩
   ·
    replace c14 := Bool.eq_false_iff.mpr c14
    subst c14
    rw [if_neg (show ¬ (false = true) by decide)] at H
    exact absurd ((Option.some.inj H).trans HT.out) (by simp)

end Go.Proofs.Ytoncjohnkiilcaa.P
