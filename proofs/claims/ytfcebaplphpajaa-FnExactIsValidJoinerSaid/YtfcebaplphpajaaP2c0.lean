/- Written by tools/seatprint.py over the translation. Lean checks it. -/
import Derived.Test.YtfcebaplphpajaaP0
import Derived.Test.YtfcebaplphpajaaP6bc0
import Derived.Test.YtfcebaplphpajaaP6fc0
import Derived.Test.YtfcebaplphpajaaP72c0
namespace Go.Proofs.Ytfcebaplphpajaa.P
open Go.RowKit Go.Proofs.YtfcebaplphpajaaW.PrintWords Go.Proofs.YtfcebaplphpajaaW.PrintLast Go.Proofs.YtfcebaplphpajaaW.PrintMore
attribute [local go_sem] max2_int min2_int max_two min_two max_three min_three max_four min_four
set_option linter.unusedVariables false
set_option linter.unusedSimpArgs false

/-! ### laws_FnExactIsValidJoiner: function 4 -/
def laws_FnExactIsValidJoiner.f (k : Nat) (l0_0 : List (S102)) (a0_1 : Int) (a0_2 : Int) : Option (Bool) := (laws_szJoiner.f k l0_0 a0_1 a0_2 1048576).bind fun t247 => (if t247 < 0 then (some true) else ((laws_toJoiner.f k l0_0 a0_1 a0_2).bind fun bt248 => ((spec_IsValidJoiner.f k bt248.1 bt248.2.1 bt248.2.2).bind fun t253 => ((laws_toJoiner.f k l0_0 a0_1 a0_2).bind fun bt254 => ((impl_IsValidJoiner.f k bt254.1 bt254.2.1 bt254.2.2).bind fun t260 => (if (t260 != t253) = true then (some false) else ((laws_toJoiner.f k l0_0 a0_1 a0_2).bind fun bt261 => ((laws_eqJoiner.f k bt254.1 bt254.2.1 bt254.2.2 bt261.1 bt261.2.1 bt261.2.2).bind fun t266 => (if t266 = true then (some true) else (some false))))))))))
theorem laws_FnExactIsValidJoiner.mono : ∀ a0 a1 a2 k, LeO (laws_FnExactIsValidJoiner.f k a0 a1 a2) (laws_FnExactIsValidJoiner.f (k + 1) a0 a1 a2) := by
 intro a0 a1 a2 k
 unfold laws_FnExactIsValidJoiner.f
 repeat' first
   | (with_reducible exact impl_IsValidJoiner.mono _ _ _ _)
   | (with_reducible exact laws_eqJoiner.mono _ _ _ _ _ _ _)
   | (with_reducible exact laws_szJoiner.mono _ _ _ _ _)
   | (with_reducible exact laws_toJoiner.mono _ _ _ _)
   | (with_reducible exact spec_IsValidJoiner.mono _ _ _ _)
   | (with_reducible exact LeO.refl _)
   | (with_reducible exact LeO.none _)
   | (with_reducible refine LeO.ite ?_ ?_)
   | (with_reducible refine LeO.bind ?_ (fun _ => ?_))
   | exact impl_IsValidJoiner.mono _ _ _ _
   | exact laws_eqJoiner.mono _ _ _ _ _ _ _
   | exact laws_szJoiner.mono _ _ _ _ _
   | exact laws_toJoiner.mono _ _ _ _
   | exact spec_IsValidJoiner.mono _ _ _ _
   | exact LeO.none _
   | refine LeO.ite ?_ ?_
   | refine LeO.bind ?_ (fun _ => ?_)
set_option maxHeartbeats 8000000 in
set_option maxRecDepth 100000 in
theorem laws_FnExactIsValidJoiner.calls (k : Nat) (A0_0 : Option Addr) (c0_0 : Nat) (l0_0 : List (S102)) (a0_1 : Int) (a0_2 : Int) (r : Bool) (w : World) (hr0_0 : Kd.C k102 w A0_0 l0_0.length l0_0) (hc0_0 : l0_0.length ≤ c0_0) (ht : r = true) (h : laws_FnExactIsValidJoiner.f k l0_0 a0_1 a0_2 = some r) :
  Calls Try.prog 4 #[.agg #[.slice A0_0 l0_0.length c0_0, .int .i64 a0_1, .int .i64 a0_2]] w fun e w' => e = .returned (.bool r) ∧ Below w.heap.size w w' := by
 have hu24 := Try.underlying24
 have hu29 := Try.underlying29
 have HR0_0 := mA hr0_0
 have HC0_0 := mA hc0_0
 clear hr0_0 hc0_0
 have HB := mA (Below.refl w.heap.size w)
 have HT := mA ht
 clear ht
 have H : ((laws_szJoiner.f k l0_0 a0_1 a0_2 1048576).bind fun t247 => (if t247 < 0 then (some true) else ((laws_toJoiner.f k l0_0 a0_1 a0_2).bind fun bt248 => ((spec_IsValidJoiner.f k bt248.1 bt248.2.1 bt248.2.2).bind fun t253 => ((laws_toJoiner.f k l0_0 a0_1 a0_2).bind fun bt254 => ((impl_IsValidJoiner.f k bt254.1 bt254.2.1 bt254.2.2).bind fun t260 => (if (t260 != t253) = true then (some false) else ((laws_toJoiner.f k l0_0 a0_1 a0_2).bind fun bt261 => ((laws_eqJoiner.f k bt254.1 bt254.2.1 bt254.2.2 bt261.1 bt261.2.1 bt261.2.2).bind fun t266 => (if t266 = true then (some true) else (some false))))))))))) = some r := h
 clear h
 obtain ⟨t247, A2, H⟩ := Option.bind_eq_some_iff.mp H
 replace A2 := mA A2
 try dsimp only at H
 by_cases c3 : t247 < 0
 ·
  rw [if_pos c3] at H
  have c3b0 : decide (t247 < 0) = true := decide_eq_true c3
  clear c3
  obtain rfl := Option.some.inj H
  go_enter Try.func4, Try.ntmps4
  go_wp2_with (first | ((with_reducible refine gate_dst (N := 1) rfl ?_); refine boxT 1 #[.slice A0_0 l0_0.length c0_0, .int .i64 a0_1, .int .i64 a0_2] 24 ?_; intro gb246 hg w4 hbox hb; have BK246 := mA (hbox); have GW246 := mA ((by rw [hg]; exact (below_size (bT HB)) : w.heap.size ≤ gb246)); have GE246 := GW246; replace HB := mA (below_step (bT HB) hb); clear hb hbox hg; obtain ⟨hcz5_0, hcz5_1, hcz5_2, hfz5_0, hfz5_1, hfz5_2⟩ := blk3 BK246.out) | ((with_reducible refine gate_callee (f := 10) rfl ?_); refine goesT (some 9) Try.func10 #[.agg #[.slice A0_0 l0_0.length c0_0, .int .i64 a0_1, .int .i64 a0_2], .int .i64 1048576] ?_; (with_reducible refine (laws_szJoiner.calls k _ _ l0_0 a0_1 a0_2 1048576 t247 _ ?side1 ?side2 A2.out).mono ?_); (case side1 => exact cT (Kd.C_below HR0_0.out HB.out)); (case side2 => exact HC0_0.out); rintro e w6 ⟨rfl, hb⟩; refine ⟨_, rfl, ?_⟩; replace HB := mA (below_step (bT1 HB GE246) hb); (try clear hb)))
  go_ret
  exact ⟨eT, bT1 HB GE246⟩
 ·
  rw [if_neg c3] at H
  have c3b0 : decide (t247 < 0) = false := decide_eq_false c3
  clear c3
  obtain ⟨⟨t248, t251, t252⟩, A7, H⟩ := Option.bind_eq_some_iff.mp H
  replace A7 := mA A7
  try dsimp only at H
  obtain ⟨t253, A8, H⟩ := Option.bind_eq_some_iff.mp H
  replace A8 := mA A8
  try dsimp only at H
  obtain ⟨⟨t254, t257, t258⟩, A9, H⟩ := Option.bind_eq_some_iff.mp H
  replace A9 := mA A9
  try dsimp only at H
  obtain ⟨t260, A10, H⟩ := Option.bind_eq_some_iff.mp H
  replace A10 := mA A10
  try dsimp only at H
  by_cases c11 : (t260 != t253) = true
  ·
   rw [if_pos c11] at H
   have c11b0 : (t260 != t253) = true := c11
   (try (have c11b1 : decide (t260 = t253) = false := by simpa using c11))
   (try (have c11b2 : (t260 == t253) = false := by simpa using c11))
   (try (have c11b3 : ¬ (t260 = t253) := by simpa using c11))
   clear c11
   exact absurd ((Option.some.inj H).trans HT.out) (by simp)
  ·
   rw [if_neg c11] at H
   have c11b0 : (t260 != t253) = false := by simpa using c11
   (try (have c11b1 : decide (t260 = t253) = true := by simpa using c11))
   (try (have c11b2 : (t260 == t253) = true := by simpa using c11))
   clear c11
   obtain ⟨⟨t261, t264, t265⟩, A12, H⟩ := Option.bind_eq_some_iff.mp H
   replace A12 := mA A12
   try dsimp only at H
   obtain ⟨t266, A13, H⟩ := Option.bind_eq_some_iff.mp H
   replace A13 := mA A13
   replace H : (if t266 = true then (some true) else (some false)) = some r := H
   by_cases c14 : t266 = true
   ·
    subst c14
    rw [if_pos rfl] at H
    obtain rfl := Option.some.inj H
    go_enter Try.func4, Try.ntmps4
    try go_wp2_with (first | ((with_reducible refine gate_dst (N := 1) rfl ?_); refine boxT 1 #[.slice A0_0 l0_0.length c0_0, .int .i64 a0_1, .int .i64 a0_2] 24 ?_; intro gb246 hg w15 hbox hb; have BK246 := mA (hbox); have GW246 := mA ((by rw [hg]; exact (below_size (bT HB)) : w.heap.size ≤ gb246)); have GE246 := GW246; replace HB := mA (below_step (bT HB) hb); clear hb hbox hg; obtain ⟨hcz16_0, hcz16_1, hcz16_2, hfz16_0, hfz16_1, hfz16_2⟩ := blk3 BK246.out) | ((with_reducible refine gate_callee (f := 10) rfl ?_); refine goesT (some 9) Try.func10 #[.agg #[.slice A0_0 l0_0.length c0_0, .int .i64 a0_1, .int .i64 a0_2], .int .i64 1048576] ?_; (with_reducible refine (laws_szJoiner.calls k _ _ l0_0 a0_1 a0_2 1048576 t247 _ ?side1 ?side2 A2.out).mono ?_); (case side1 => exact cT (Kd.C_below HR0_0.out HB.out)); (case side2 => exact HC0_0.out); rintro e w17 ⟨rfl, hb⟩; refine ⟨_, rfl, ?_⟩; replace BK246 := kB BK246 hb; replace HB := mA (below_step (bT1 HB GE246) hb); (try clear hb); (try clear hk); obtain ⟨hcz18_0, hcz18_1, hcz18_2, hfz18_0, hfz18_1, hfz18_2⟩ := blk3 BK246.out) | ((with_reducible refine gate_callee (f := 12) rfl ?_); refine goesT (some 13) Try.func12 #[.agg #[.slice A0_0 l0_0.length c0_0, .int .i64 a0_1, .int .i64 a0_2]] ?_; (with_reducible refine (laws_toJoiner.calls k _ _ l0_0 a0_1 a0_2 t248 t251 t252 _ ?side1 ?side2 A7.out).mono ?_); (case side1 => exact cT (Kd.C_below HR0_0.out HB.out)); (case side2 => exact HC0_0.out); rintro e w19 ⟨v249, rfl, ho0, hb⟩; refine ⟨_, rfl, ?_⟩; have HO250 := mA (Kd.S_lower ho0 (below_size (bT1 HB GE246))); replace BK246 := kB BK246 hb; replace HB := mA (below_step (bT1 HB GE246) hb); (try clear hb); (try clear hk); (try clear ho0); obtain ⟨Ao20, co20, eo20⟩ := Kd.S_slice HO250.out; subst eo20) | ((with_reducible refine gate_callee (f := 15) rfl ?_); refine goesT (some 14) Try.func15 #[.agg #[.slice Ao20 t248.length co20, .int .i64 t251, .int .i64 t252]] ?_; (with_reducible refine (spec_IsValidJoiner.calls k _ _ t248 t251 t252 t253 _ ?side1 ?side2 A8.out).mono ?_); (case side1 => exact cT ((Kd.S_reads' HO250.out).2.2)); (case side2 => exact (Kd.S_reads' HO250.out).2.1); rintro e w21 ⟨rfl, hb⟩; refine ⟨_, rfl, ?_⟩; replace HO250 := rBS HO250 hb; replace BK246 := kB BK246 hb; replace HB := mA (below_step (bT1 HB GE246) hb); (try clear hb); (try clear hk); obtain ⟨hcz22_0, hcz22_1, hcz22_2, hfz22_0, hfz22_1, hfz22_2⟩ := blk3 BK246.out) | ((with_reducible refine gate_callee (f := 12) rfl ?_); refine goesT (some 16) Try.func12 #[.agg #[.slice A0_0 l0_0.length c0_0, .int .i64 a0_1, .int .i64 a0_2]] ?_; (with_reducible refine (laws_toJoiner.calls k _ _ l0_0 a0_1 a0_2 t254 t257 t258 _ ?side1 ?side2 A9.out).mono ?_); (case side1 => exact cT (Kd.C_below HR0_0.out HB.out)); (case side2 => exact HC0_0.out); rintro e w23 ⟨v255, rfl, ho0, hb⟩; refine ⟨_, rfl, ?_⟩; have HO256 := mA (Kd.S_lower (Kd.S_new' ho0 (Kd.S_lt (rTS HO250))) (below_size (bT1 HB GE246))); replace HO250 := mA (Kd.S_elder' (rTS HO250) (Kd.S_base ho0) hb); replace BK246 := kB BK246 hb; replace HB := mA (below_step (bT1 HB GE246) hb); (try clear hb); (try clear hk); (try clear ho0)) | ((with_reducible refine gate_dst (N := 5) rfl ?_); refine boxT 5 #[.slice none 0 0, .int .i64 0, .int .i64 0] 29 ?_; intro gb259 hg w24 hbox hb; replace HO250 := rBS HO250 hb; replace HO256 := rBS HO256 hb; have BK259 := mA (hbox); have GW259 := mA ((by rw [hg]; exact (below_size (bT1 HB GE246)) : w.heap.size ≤ gb259)); have GE259 := GW259; replace HB := mA (below_step (bT1 HB GE246) hb); have NB246_259 : Aside0 (gb246 ≠ gb259) := nL BK246 hg; have NB259_246 : Aside0 (gb259 ≠ gb246) := nG BK246 hg; replace BK246 := kB BK246 hb; clear hb hbox hg; obtain ⟨Ao25, co25, eo25⟩ := Kd.S_slice HO256.out; subst eo25; have hnb26 := NB259_246.out; have hnc26 := NB246_259.out; obtain ⟨hcz27_0, hcz27_1, hcz27_2, hfz27_0, hfz27_1, hfz27_2⟩ := blk3 BK259.out) | ((with_reducible refine gate_callee (f := 16) rfl ?_); refine goesT (some 18) Try.func16 #[.agg #[.slice Ao25 t254.length co25, .int .i64 t257, .int .i64 t258]] ?_; (with_reducible refine (impl_IsValidJoiner.calls k _ _ t254 t257 t258 t260 _ ?side1 ?side2 A10.out).mono ?_); (case side1 => refine (Kd.S_reads' (e := 68) (base := w.heap.size) (ok := fun k_ => (True ∧ some k_ ≠ (.slice Ao20 t248.length co20 : Value).ownBlock)) (n := t254.length) (c := co25) ?_).2.2; exact (by (with_reducible repeat (first | apply Kd.S_alloc | apply Kd.S_drewN | apply Kd.S_drew)); exact (Kd.S_mono (Kd.S_far (p := ⟨gb259, 2, none⟩) (Kd.S_far (p := ⟨gb259, 1, none⟩) (Kd.S_far (p := ⟨gb259, 0, none⟩) (Kd.S_types HO256.out BK259.out (by decide)) (fun _ hk => hk.2) (.slice Ao25 t254.length co25)) (fun _ hk => hk.2) (.int .i64 t257)) (fun _ hk => hk.2) (.int .i64 t258)) (fun _ h_ => h_.1)))); (case side2 => exact (Kd.S_reads' HO256.out).2.1); rintro e w28 ⟨rfl, hb⟩; refine ⟨_, rfl, ?_⟩; replace HO250 := mA (Kd.S_below (by (with_reducible repeat (first | apply Kd.S_alloc | apply Kd.S_drewN | apply Kd.S_drew)); exact (Kd.S_mono (Kd.S_far (p := ⟨gb259, 2, none⟩) (Kd.S_far (p := ⟨gb259, 1, none⟩) (Kd.S_far (p := ⟨gb259, 0, none⟩) (Kd.S_types HO250.out BK259.out (by decide)) (fun _ hk => hk.2) (.slice Ao25 t254.length co25)) (fun _ hk => hk.2) (.int .i64 t257)) (fun _ hk => hk.2) (.int .i64 t258)) (fun _ h_ => h_.1))) hb); replace HO256 := mA (Kd.S_below (by (with_reducible repeat (first | apply Kd.S_alloc | apply Kd.S_drewN | apply Kd.S_drew)); exact (Kd.S_mono (Kd.S_far (p := ⟨gb259, 2, none⟩) (Kd.S_far (p := ⟨gb259, 1, none⟩) (Kd.S_far (p := ⟨gb259, 0, none⟩) (Kd.S_types HO256.out BK259.out (by decide)) (fun _ hk => hk.2) (.slice Ao25 t254.length co25)) (fun _ hk => hk.2) (.int .i64 t257)) (fun _ hk => hk.2) (.int .i64 t258)) (fun _ h_ => h_.1))) hb); replace BK246 := mA (blk_below (g := gb246) (o := .cells #[.slice A0_0 l0_0.length c0_0, .int .i64 a0_1, .int .i64 a0_2] 24 (0, 0)) (by (with_reducible repeat (first | refine blk_drewN ?_ _ | refine blk_drew ?_ | refine blk_alloc ?_ _)); refine blk_far ?_ NB246_259.out _; (with_reducible repeat (first | refine blk_drewN ?_ _ | refine blk_drew ?_ | refine blk_alloc ?_ _)); refine blk_far ?_ NB246_259.out _; (with_reducible repeat (first | refine blk_drewN ?_ _ | refine blk_drew ?_ | refine blk_alloc ?_ _)); refine blk_far ?_ NB246_259.out _; (with_reducible repeat (first | refine blk_drewN ?_ _ | refine blk_drew ?_ | refine blk_alloc ?_ _)); exact BK246.out) hb); replace BK259 := mA (blk_below (g := gb259) (o := .cells #[.slice Ao25 t254.length co25, .int .i64 t257, .int .i64 t258] 29 (0, 0)) (by (with_reducible repeat (first | refine blk_drewN ?_ _ | refine blk_drew ?_ | refine blk_alloc ?_ _)); refine blk_put (cs := #[.slice Ao25 t254.length co25, .int .i64 t257, .int .i64 0]) ?_ 2 _ rfl; (with_reducible repeat (first | refine blk_drewN ?_ _ | refine blk_drew ?_ | refine blk_alloc ?_ _)); refine blk_put (cs := #[.slice Ao25 t254.length co25, .int .i64 0, .int .i64 0]) ?_ 1 _ rfl; (with_reducible repeat (first | refine blk_drewN ?_ _ | refine blk_drew ?_ | refine blk_alloc ?_ _)); refine blk_put (cs := #[.slice none 0 0, .int .i64 0, .int .i64 0]) ?_ 0 _ rfl; (with_reducible repeat (first | refine blk_drewN ?_ _ | refine blk_drew ?_ | refine blk_alloc ?_ _)); exact BK259.out) hb); replace HB := mA (below_step (bT2 HB GE246 GE259) hb); (try clear hb); (try clear hk)))
    replace HO250 := mA (Kd.S_drew HO250.out)
    replace HO256 := mA (Kd.S_drew HO256.out)
    replace BK246 := mA (blk_drew BK246.out)
    replace BK259 := mA (blk_drew BK259.out)
    replace HB := mA (below_drew1 HB.out)
    refine start_ (n := 5) (S := fun w' => w'.cell? ⟨gb259, 0, none⟩ = some (.slice Ao25 t254.length co25) ∧ w'.cell? ⟨gb259, 1, none⟩ = some (.int .i64 t257) ∧ w'.cell? ⟨gb259, 2, none⟩ = some (.int .i64 t258) ∧ w'.cell? ⟨gb246, 0, none⟩ = some (.slice A0_0 l0_0.length c0_0) ∧ w'.cell? ⟨gb246, 1, none⟩ = some (.int .i64 a0_1) ∧ w'.cell? ⟨gb246, 2, none⟩ = some (.int .i64 a0_2)) (ds := []) #[false, false, false, false, false] (by kernel_rfl) rfl rfl ⟨(blk_cell BK259.out 0).trans rfl, (blk_cell BK259.out 1).trans rfl, (blk_cell BK259.out 2).trans rfl, (blk_cell BK246.out 0).trans rfl, (blk_cell BK246.out 1).trans rfl, (blk_cell BK246.out 2).trans rfl⟩ (fun hHeld => ?_)
    generalize w28.drew = w29 at HO250 HO256 BK246 BK259 HB hHeld ⊢
    refine take_ (i := 0) (N := some 22) (v := ?_) (a' := ?_) #[true, false, false, false, false] rfl rfl (by kernel_rfl) (fun _ _ _ h => h) (Or.inl ⟨by rfl, ?_⟩) hHeld ?_ ?_
    rotate_left
    ·
     rintro w' ⟨s0, s1, s2, s3, s4, s5⟩
     go_simp
     with_reducible rfl
    rotate_left
    ·
     simp only [Act.put, List.setIfInBounds_toArray, List.set_cons_zero, List.set_cons_succ, i64_w, i32_w]
     rfl
    refine take_ (i := 1) (N := some 23) (v := ?_) (a' := ?_) #[true, true, false, false, false] rfl rfl (by kernel_rfl) (fun _ _ _ h => h) (Or.inl ⟨by rfl, ?_⟩) hHeld ?_ ?_
    rotate_left
    ·
     rintro w' ⟨s0, s1, s2, s3, s4, s5⟩
     go_simp
     with_reducible rfl
    rotate_left
    ·
     simp only [Act.put, List.setIfInBounds_toArray, List.set_cons_zero, List.set_cons_succ, i64_w, i32_w]
     rfl
    refine one_ (i := 2) (N := some 24) #[true, true, true, false, false] rfl rfl (by kernel_rfl) (by decide) (fun K hK => ?_)
    refine goes_ Try.func12 (by kernel_rfl) rfl #[.agg #[.slice A0_0 l0_0.length c0_0, .int .i64 a0_1, .int .i64 a0_2]] (by rfl) rfl rfl mT ?_
    with_reducible refine (laws_toJoiner.calls k _ _ l0_0 a0_1 a0_2 t261 t264 t265 _ ?side1 ?side2 A12.out).mono ?_
    (case side1 => exact cT (Kd.C_below HR0_0.out HB.out))
    (case side2 => exact HC0_0.out)
    rintro e w30 ⟨v262, rfl, ho0, hb⟩
    refine ⟨_, rfl, ?_⟩
    have HO263 := mA (Kd.S_lower (Kd.S_new' (Kd.S_new' ho0 (Kd.S_lt (rTS HO250))) (Kd.S_lt (rTS HO256))) (below_size (bT2 HB GE246 GE259)))
    replace HO256 := mA (Kd.S_elder' (rTS HO256) (Kd.S_base ho0) hb)
    replace BK246 := kB BK246 hb
    replace BK259 := kB BK259 hb
    replace HB := mA (below_step (bT2 HB GE246 GE259) hb)
    (try clear hb)
    (try clear hb2)
    (try clear hk)
    (try clear hi)
    (try clear ho0)
    obtain ⟨Ao31, co31, eo31⟩ := Kd.S_slice HO263.out
    (first | subst eo31 | (injection eo31 with f1_ f2_ f3_; have f4_ := f1_.symm; have f5_ := f3_.symm; clear f1_ f2_ f3_; subst f4_; subst f5_))
    refine hK.out _ _ ⟨(blk_cell BK259.out 0).trans rfl, (blk_cell BK259.out 1).trans rfl, (blk_cell BK259.out 2).trans rfl, (blk_cell BK246.out 0).trans rfl, (blk_cell BK246.out 1).trans rfl, (blk_cell BK246.out 2).trans rfl⟩ (fun hHeld => ?_)
    clear hK K
    refine norm_ (a' := ?_) ?_ ?_
    rotate_left
    ·
     show Act.put _ (some 24) _ = _
     simp only [Act.put, List.setIfInBounds_toArray, List.set_cons_zero, List.set_cons_succ, i64_w, i32_w]
     rfl
    refine one_ (i := 3) (N := some 25) #[true, true, true, true, false] rfl rfl (by kernel_rfl) (by decide) (fun K hK => ?_)
    refine goes_ Try.func14 (by kernel_rfl) rfl #[.agg #[.slice Ao25 t254.length co25, .int .i64 t257, .int .i64 t258], .agg #[.slice Ao31 t261.length co31, .int .i64 t264, .int .i64 t265]] (by rfl) rfl rfl mT ?_
    with_reducible refine (laws_eqJoiner.calls k _ _ t254 t257 t258 _ _ t261 t264 t265 true _ ?side1 ?side2 ?side3 ?side4 A13.out).mono ?_
    (case side1 => exact cT ((Kd.S_reads' HO256.out).2.2))
    (case side2 => exact (Kd.S_reads' HO256.out).2.1)
    (case side3 => exact cT ((Kd.S_reads' HO263.out).2.2))
    (case side4 => exact (Kd.S_reads' HO263.out).2.1)
    rintro e w32 ⟨rfl, hb⟩
    refine ⟨_, rfl, ?_⟩
    replace BK246 := kB BK246 hb
    replace BK259 := kB BK259 hb
    replace HB := mA (below_step (bT2 HB GE246 GE259) hb)
    (try clear hb)
    (try clear hb2)
    (try clear hk)
    (try clear hi)
    refine hK.out _ _ ⟨(blk_cell BK259.out 0).trans rfl, (blk_cell BK259.out 1).trans rfl, (blk_cell BK259.out 2).trans rfl, (blk_cell BK246.out 0).trans rfl, (blk_cell BK246.out 1).trans rfl, (blk_cell BK246.out 2).trans rfl⟩ (fun hHeld => ?_)
    clear hK K
    refine norm_ (a' := ?_) ?_ ?_
    rotate_left
    ·
     show Act.put _ (some 25) _ = _
     simp only [Act.put, List.setIfInBounds_toArray, List.set_cons_zero, List.set_cons_succ, i64_w, i32_w]
     rfl
    refine pureT (i := 4) (N := some 26) #[true, true, true, true, true] (by kernel_rfl) ?_
    refine done_ (by kernel_rfl) ?_
    try go_wp2
    go_ret
    exact ⟨eT, bT2 HB GE246 GE259⟩
   ·
    replace c14 := Bool.eq_false_iff.mpr c14
    subst c14
    rw [if_neg (show ¬ (false = true) by decide)] at H
    exact absurd ((Option.some.inj H).trans HT.out) (by simp)

end Go.Proofs.Ytfcebaplphpajaa.P
