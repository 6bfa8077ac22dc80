/- Written by tools/seatprint.py over the translation. Lean checks it. -/
import Derived.Test.YtfcebaplphpajaaP0
import Derived.Test.YtfcebaplphpajaaP76c0
namespace Go.Proofs.Ytfcebaplphpajaa.P
open Go.RowKit Go.Proofs.YtfcebaplphpajaaW.PrintWords Go.Proofs.YtfcebaplphpajaaW.PrintLast Go.Proofs.YtfcebaplphpajaaW.PrintMore
attribute [local go_sem] max2_int min2_int max_two min_two max_three min_three max_four min_four
set_option linter.unusedVariables false
set_option linter.unusedSimpArgs false

/-! ### spec_IsValidTask: function 45 -/
def spec_IsValidTask.f (k : Nat) (a0_0 : Int) (l0_1 : List (S77)) (l0_2 : List (S77)) (l0_3 : List Bool) (a0_4 : Int) : Option (Bool) := (spec_IsValidJoinKind.f a0_0).bind fun t212 => (if t212 = true then ((spec_AreValidRows.f k l0_1).bind fun t213 => (if t213 = true then ((spec_AreValidRows.f k l0_2).bind fun t214 => (if t214 = true then (if (l0_3.length : Int) = (l0_1.length : Int) then ((spec_l1In.f a0_4 0 4).bind fun t215 => (some t215)) else (some false)) else (some false))) else (some false))) else (some false))
theorem spec_IsValidTask.mono : ∀ a0 a1 a2 a3 a4 k, LeO (spec_IsValidTask.f k a0 a1 a2 a3 a4) (spec_IsValidTask.f (k + 1) a0 a1 a2 a3 a4) := by
 intro a0 a1 a2 a3 a4 k
 unfold spec_IsValidTask.f
 repeat' first
   | (with_reducible exact spec_AreValidRows.mono _ _)
   | (with_reducible exact LeO.refl _)
   | (with_reducible exact LeO.none _)
   | (with_reducible refine LeO.ite ?_ ?_)
   | (with_reducible refine LeO.bind ?_ (fun _ => ?_))
   | exact spec_AreValidRows.mono _ _
   | exact LeO.none _
   | refine LeO.ite ?_ ?_
   | refine LeO.bind ?_ (fun _ => ?_)
set_option maxHeartbeats 8000000 in
set_option maxRecDepth 100000 in
theorem spec_IsValidTask.calls (k : Nat) (a0_0 : Int) (A0_1 : Option Addr) (c0_1 : Nat) (l0_1 : List (S77)) (A0_2 : Option Addr) (c0_2 : Nat) (l0_2 : List (S77)) (A0_3 : Option Addr) (c0_3 : Nat) (l0_3 : List Bool) (a0_4 : Int) (r : Bool) (w : World) (hr0_1 : Kd.C k77 w A0_1 l0_1.length l0_1) (hc0_1 : l0_1.length ≤ c0_1) (hr0_2 : Kd.C k77 w A0_2 l0_2.length l0_2) (hc0_2 : l0_2.length ≤ c0_2) (hr0_3 : Kd.C Kd.bool w A0_3 l0_3.length l0_3) (hc0_3 : l0_3.length ≤ c0_3) (h : spec_IsValidTask.f k a0_0 l0_1 l0_2 l0_3 a0_4 = some r) :
  Calls Try.prog 45 #[.agg #[.int .i64 a0_0, .slice A0_1 l0_1.length c0_1, .slice A0_2 l0_2.length c0_2, .slice A0_3 l0_3.length c0_3, .int .i64 a0_4]] w fun e w' => e = .returned (.bool r) ∧ Below w.heap.size w w' := by
 have hu68 := Try.underlying68
 have HR0_1 := mA hr0_1
 have HC0_1 := mA hc0_1
 clear hr0_1 hc0_1
 have HR0_2 := mA hr0_2
 have HC0_2 := mA hc0_2
 clear hr0_2 hc0_2
 have HR0_3 := mA hr0_3
 have HC0_3 := mA hc0_3
 clear hr0_3 hc0_3
 have HB := mA (Below.refl w.heap.size w)
 have H : ((spec_IsValidJoinKind.f a0_0).bind fun t212 => (if t212 = true then ((spec_AreValidRows.f k l0_1).bind fun t213 => (if t213 = true then ((spec_AreValidRows.f k l0_2).bind fun t214 => (if t214 = true then (if (l0_3.length : Int) = (l0_1.length : Int) then ((spec_l1In.f a0_4 0 4).bind fun t215 => (some t215)) else (some false)) else (some false))) else (some false))) else (some false))) = some r := h
 clear h
 obtain ⟨t212, A2, H⟩ := Option.bind_eq_some_iff.mp H
 replace A2 := mA A2
 try dsimp only at H
 by_cases c3 : t212 = true
 ·
  subst c3
  rw [if_pos rfl] at H
  obtain ⟨t213, A4, H⟩ := Option.bind_eq_some_iff.mp H
  replace A4 := mA A4
  try dsimp only at H
  by_cases c5 : t213 = true
  ·
   subst c5
   rw [if_pos rfl] at H
   obtain ⟨t214, A6, H⟩ := Option.bind_eq_some_iff.mp H
   replace A6 := mA A6
   try dsimp only at H
   by_cases c7 : t214 = true
   ·
    subst c7
    rw [if_pos rfl] at H
    by_cases c8 : (l0_3.length : Int) = (l0_1.length : Int)
    ·
     rw [if_pos c8] at H
     have c8b0 : ((l0_3.length : Int) == (l0_1.length : Int)) = true := beq_iff_eq.mpr c8
     have c8b1 : ((l0_3.length : Int) != (l0_1.length : Int)) = false := bne_eq_false_iff_eq.mpr c8
     have c8b2 : (l0_3.length == l0_1.length) = true := by first | simpa using c8 | (simp at c8 ⊢; omega)
     clear c8
     obtain ⟨t215, A9, H⟩ := Option.bind_eq_some_iff.mp H
     replace A9 := mA A9
     replace H : (some t215) = some r := H
     obtain rfl := Option.some.inj H
     go_enter Try.func45, Try.ntmps45
     go_wp2_with (first | ((with_reducible refine gate_dst (N := 1) rfl ?_); (try (refine gate_guard (by rfl) ?_; dsimp only)); refine boxT 1 #[.int .i64 a0_0, .slice A0_1 l0_1.length c0_1, .slice A0_2 l0_2.length c0_2, .slice A0_3 l0_3.length c0_3, .int .i64 a0_4] 68 ?_; intro gb211 hg w10 hbox hb; have BK211 := mA (hbox); have GW211 := mA ((by rw [hg]; exact (below_size (bT HB)) : w.heap.size ≤ gb211)); have GE211 := GW211; replace HB := mA (below_step (bT HB) hb); clear hb hbox hg; obtain ⟨hcz11_0, hcz11_1, hcz11_2, hcz11_3, hcz11_4, hfz11_0, hfz11_1, hfz11_2, hfz11_3, hfz11_4⟩ := blk5 BK211.out) | ((with_reducible refine gate_callee (f := 84) rfl ?_); refine goesT (some 5) Try.func84 #[.int .i64 a0_0] ?_; (with_reducible refine (spec_IsValidJoinKind.calls a0_0 true _ A2.out).mono ?_); rintro e w' ⟨rfl, ⟨nd, rfl⟩⟩; refine ⟨_, rfl, ?_⟩) | (go_at_call 85; (with_reducible refine (spec_AreValidRows.calls k _ _ l0_1 true _ ?side1 ?side2 A4.out).mono ?_); (case side1 => exact cT (Kd.C_below HR0_1.out (bT1 HB GE211))); (case side2 => exact HC0_1.out); rintro e w12 ⟨rfl, hb⟩; replace BK211 := kB BK211 hb; replace HB := mA (below_step (bT1 HB GE211) hb); (try clear hb); obtain ⟨hcz13_0, hcz13_1, hcz13_2, hcz13_3, hcz13_4, hfz13_0, hfz13_1, hfz13_2, hfz13_3, hfz13_4⟩ := blk5 BK211.out) | (go_at_call 85; (with_reducible refine (spec_AreValidRows.calls k _ _ l0_2 true _ ?side1 ?side2 A6.out).mono ?_); (case side1 => exact cT (Kd.C_below HR0_2.out HB.out)); (case side2 => exact HC0_2.out); rintro e w14 ⟨rfl, hb⟩; replace BK211 := kB BK211 hb; replace HB := mA (below_step (bT1 HB GE211) hb); (try clear hb); obtain ⟨hcz15_0, hcz15_1, hcz15_2, hcz15_3, hcz15_4, hfz15_0, hfz15_1, hfz15_2, hfz15_3, hfz15_4⟩ := blk5 BK211.out) | (go_at_call 46; (with_reducible refine (spec_l1In.calls a0_4 0 4 t215 _ A9.out).mono ?_); rintro e w' ⟨rfl, ⟨nd, rfl⟩⟩))
     go_ret
     exact ⟨eT, bT1 HB GE211⟩
    ·
     rw [if_neg c8] at H
     have c8b0 : ((l0_3.length : Int) == (l0_1.length : Int)) = false := beq_eq_false_iff_ne.mpr c8
     have c8b1 : ((l0_3.length : Int) != (l0_1.length : Int)) = true := bne_iff_ne.mpr c8
     have c8b2 : (l0_3.length == l0_1.length) = false := by first | simpa using c8 | (simp at c8 ⊢; omega)
     obtain rfl := Option.some.inj H
     go_enter Try.func45, Try.ntmps45
     go_wp2_with (first | ((with_reducible refine gate_dst (N := 1) rfl ?_); (try (refine gate_guard (by rfl) ?_; dsimp only)); refine boxT 1 #[.int .i64 a0_0, .slice A0_1 l0_1.length c0_1, .slice A0_2 l0_2.length c0_2, .slice A0_3 l0_3.length c0_3, .int .i64 a0_4] 68 ?_; intro gb211 hg w16 hbox hb; have BK211 := mA (hbox); have GW211 := mA ((by rw [hg]; exact (below_size (bT HB)) : w.heap.size ≤ gb211)); have GE211 := GW211; replace HB := mA (below_step (bT HB) hb); clear hb hbox hg; obtain ⟨hcz17_0, hcz17_1, hcz17_2, hcz17_3, hcz17_4, hfz17_0, hfz17_1, hfz17_2, hfz17_3, hfz17_4⟩ := blk5 BK211.out) | ((with_reducible refine gate_callee (f := 84) rfl ?_); refine goesT (some 5) Try.func84 #[.int .i64 a0_0] ?_; (with_reducible refine (spec_IsValidJoinKind.calls a0_0 true _ A2.out).mono ?_); rintro e w' ⟨rfl, ⟨nd, rfl⟩⟩; refine ⟨_, rfl, ?_⟩) | (go_at_call 85; (with_reducible refine (spec_AreValidRows.calls k _ _ l0_1 true _ ?side1 ?side2 A4.out).mono ?_); (case side1 => exact cT (Kd.C_below HR0_1.out (bT1 HB GE211))); (case side2 => exact HC0_1.out); rintro e w18 ⟨rfl, hb⟩; replace BK211 := kB BK211 hb; replace HB := mA (below_step (bT1 HB GE211) hb); (try clear hb); obtain ⟨hcz19_0, hcz19_1, hcz19_2, hcz19_3, hcz19_4, hfz19_0, hfz19_1, hfz19_2, hfz19_3, hfz19_4⟩ := blk5 BK211.out) | (go_at_call 85; (with_reducible refine (spec_AreValidRows.calls k _ _ l0_2 true _ ?side1 ?side2 A6.out).mono ?_); (case side1 => exact cT (Kd.C_below HR0_2.out HB.out)); (case side2 => exact HC0_2.out); rintro e w20 ⟨rfl, hb⟩; replace BK211 := kB BK211 hb; replace HB := mA (below_step (bT1 HB GE211) hb); (try clear hb); obtain ⟨hcz21_0, hcz21_1, hcz21_2, hcz21_3, hcz21_4, hfz21_0, hfz21_1, hfz21_2, hfz21_3, hfz21_4⟩ := blk5 BK211.out))
     go_ret
     exact ⟨eT, bT1 HB GE211⟩
   ·
    replace c7 := Bool.eq_false_iff.mpr c7
    subst c7
    rw [if_neg (show ¬ (false = true) by decide)] at H
    obtain rfl := Option.some.inj H
    go_enter Try.func45, Try.ntmps45
    go_wp2_with (first | ((with_reducible refine gate_dst (N := 1) rfl ?_); (try (refine gate_guard (by rfl) ?_; dsimp only)); refine boxT 1 #[.int .i64 a0_0, .slice A0_1 l0_1.length c0_1, .slice A0_2 l0_2.length c0_2, .slice A0_3 l0_3.length c0_3, .int .i64 a0_4] 68 ?_; intro gb211 hg w22 hbox hb; have BK211 := mA (hbox); have GW211 := mA ((by rw [hg]; exact (below_size (bT HB)) : w.heap.size ≤ gb211)); have GE211 := GW211; replace HB := mA (below_step (bT HB) hb); clear hb hbox hg; obtain ⟨hcz23_0, hcz23_1, hcz23_2, hcz23_3, hcz23_4, hfz23_0, hfz23_1, hfz23_2, hfz23_3, hfz23_4⟩ := blk5 BK211.out) | ((with_reducible refine gate_callee (f := 84) rfl ?_); refine goesT (some 5) Try.func84 #[.int .i64 a0_0] ?_; (with_reducible refine (spec_IsValidJoinKind.calls a0_0 true _ A2.out).mono ?_); rintro e w' ⟨rfl, ⟨nd, rfl⟩⟩; refine ⟨_, rfl, ?_⟩) | (go_at_call 85; (with_reducible refine (spec_AreValidRows.calls k _ _ l0_1 true _ ?side1 ?side2 A4.out).mono ?_); (case side1 => exact cT (Kd.C_below HR0_1.out (bT1 HB GE211))); (case side2 => exact HC0_1.out); rintro e w24 ⟨rfl, hb⟩; replace BK211 := kB BK211 hb; replace HB := mA (below_step (bT1 HB GE211) hb); (try clear hb); obtain ⟨hcz25_0, hcz25_1, hcz25_2, hcz25_3, hcz25_4, hfz25_0, hfz25_1, hfz25_2, hfz25_3, hfz25_4⟩ := blk5 BK211.out) | (go_at_call 85; (with_reducible refine (spec_AreValidRows.calls k _ _ l0_2 false _ ?side1 ?side2 A6.out).mono ?_); (case side1 => exact cT (Kd.C_below HR0_2.out HB.out)); (case side2 => exact HC0_2.out); rintro e w26 ⟨rfl, hb⟩; replace HB := mA (below_step (bT1 HB GE211) hb); (try clear hb)))
    go_ret
    exact ⟨eT, bT1 HB GE211⟩
  ·
   replace c5 := Bool.eq_false_iff.mpr c5
   subst c5
   rw [if_neg (show ¬ (false = true) by decide)] at H
   obtain rfl := Option.some.inj H
   go_enter Try.func45, Try.ntmps45
   go_wp2_with (first | ((with_reducible refine gate_dst (N := 1) rfl ?_); (try (refine gate_guard (by rfl) ?_; dsimp only)); refine boxT 1 #[.int .i64 a0_0, .slice A0_1 l0_1.length c0_1, .slice A0_2 l0_2.length c0_2, .slice A0_3 l0_3.length c0_3, .int .i64 a0_4] 68 ?_; intro gb211 hg w27 hbox hb; have BK211 := mA (hbox); have GW211 := mA ((by rw [hg]; exact (below_size (bT HB)) : w.heap.size ≤ gb211)); have GE211 := GW211; replace HB := mA (below_step (bT HB) hb); clear hb hbox hg; obtain ⟨hcz28_0, hcz28_1, hcz28_2, hcz28_3, hcz28_4, hfz28_0, hfz28_1, hfz28_2, hfz28_3, hfz28_4⟩ := blk5 BK211.out) | ((with_reducible refine gate_callee (f := 84) rfl ?_); refine goesT (some 5) Try.func84 #[.int .i64 a0_0] ?_; (with_reducible refine (spec_IsValidJoinKind.calls a0_0 true _ A2.out).mono ?_); rintro e w' ⟨rfl, ⟨nd, rfl⟩⟩; refine ⟨_, rfl, ?_⟩) | (go_at_call 85; (with_reducible refine (spec_AreValidRows.calls k _ _ l0_1 false _ ?side1 ?side2 A4.out).mono ?_); (case side1 => exact cT (Kd.C_below HR0_1.out (bT1 HB GE211))); (case side2 => exact HC0_1.out); rintro e w29 ⟨rfl, hb⟩; replace HB := mA (below_step (bT1 HB GE211) hb); (try clear hb)))
   go_ret
   exact ⟨eT, bT1 HB GE211⟩
 ·
  replace c3 := Bool.eq_false_iff.mpr c3
  subst c3
  rw [if_neg (show ¬ (false = true) by decide)] at H
  obtain rfl := Option.some.inj H
  go_enter Try.func45, Try.ntmps45
  go_wp2_with (first | ((with_reducible refine gate_dst (N := 1) rfl ?_); (try (refine gate_guard (by rfl) ?_; dsimp only)); refine boxT 1 #[.int .i64 a0_0, .slice A0_1 l0_1.length c0_1, .slice A0_2 l0_2.length c0_2, .slice A0_3 l0_3.length c0_3, .int .i64 a0_4] 68 ?_; intro gb211 hg w30 hbox hb; have BK211 := mA (hbox); have GW211 := mA ((by rw [hg]; exact (below_size (bT HB)) : w.heap.size ≤ gb211)); have GE211 := GW211; replace HB := mA (below_step (bT HB) hb); clear hb hbox hg; obtain ⟨hcz31_0, hcz31_1, hcz31_2, hcz31_3, hcz31_4, hfz31_0, hfz31_1, hfz31_2, hfz31_3, hfz31_4⟩ := blk5 BK211.out) | ((with_reducible refine gate_callee (f := 84) rfl ?_); refine goesT (some 5) Try.func84 #[.int .i64 a0_0] ?_; (with_reducible refine (spec_IsValidJoinKind.calls a0_0 false _ A2.out).mono ?_); rintro e w' ⟨rfl, ⟨nd, rfl⟩⟩; refine ⟨_, rfl, ?_⟩))
  go_ret
  exact ⟨eT, bT1 HB GE211⟩

/-! ### spec_IsValidJoiner: function 15 -/
def spec_IsValidJoiner.l0 : Nat → Int → Int → Int → List (S68) → Int → Int → Option (Bool)
 | 0, _, _, _, _, _, _ => none
 | k + 1, x3, x4, x5, x217000, x217001, x217002 => if x5 < (x217000.length : Int) then (if 0 ≤ x5 then ((spec_IsValidTask.f k ((rd_T68 x217000 x5).f0) ((rd_T68 x217000 x5).f1) ((rd_T68 x217000 x5).f2) ((rd_T68 x217000 x5).f3) ((rd_T68 x217000 x5).f4)).bind fun t218 => (if t218 = true then (if 0 < (x217000.length : Int) then (if ((rd_T68 x217000 x5).f0) = ((rd_T68 x217000 0).f0) then (spec_IsValidJoiner.l0 k (wrap64 (x3 + (((rd_T68 x217000 x5).f1).length : Int))) (wrap64 (x4 + (((rd_T68 x217000 x5).f2).length : Int))) (wrap64 (x5 + 1)) x217000 x217001 x217002) else (some false)) else (none)) else (some false))) else (none)) else (if x3 ≤ 24 then (if x4 ≤ 24 then (if (x217000.length : Int) ≤ 40 then ((spec_l1In.f x217001 0 100000).bind fun t223 => (if t223 = true then ((spec_l1In.f x217002 0 1000).bind fun t224 => (some t224)) else (some false))) else (some false)) else (some false)) else (some false))
def spec_IsValidJoiner.f (k : Nat) (l0_0 : List (S68)) (a0_1 : Int) (a0_2 : Int) : Option (Bool) := spec_IsValidJoiner.l0 k 0 0 0 l0_0 a0_1 a0_2
theorem spec_IsValidJoiner.mono_l : ∀ k, (∀ y0 y1 y2 y3 y4 y5, LeO (spec_IsValidJoiner.l0 k y0 y1 y2 y3 y4 y5) (spec_IsValidJoiner.l0 (k + 1) y0 y1 y2 y3 y4 y5))
 | 0 => fun _ _ _ _ _ _ r h => by simp [spec_IsValidJoiner.l0] at h
 | k + 1 => by
  have ih0 := spec_IsValidJoiner.mono_l k
  ·
   intro y0 y1 y2 y3 y4 y5
   unfold spec_IsValidJoiner.l0
   repeat' first
   | (with_reducible exact ih0 _ _ _ _ _ _)
   | (with_reducible exact spec_IsValidTask.mono _ _ _ _ _ _)
   | (with_reducible exact LeO.refl _)
   | (with_reducible exact LeO.none _)
   | (with_reducible refine LeO.ite ?_ ?_)
   | (with_reducible refine LeO.bind ?_ (fun _ => ?_))
   | exact ih0 _ _ _ _ _ _
   | exact spec_IsValidTask.mono _ _ _ _ _ _
   | exact LeO.none _
   | refine LeO.ite ?_ ?_
   | refine LeO.bind ?_ (fun _ => ?_)
theorem spec_IsValidJoiner.mono : ∀ a0 a1 a2 k, LeO (spec_IsValidJoiner.f k a0 a1 a2) (spec_IsValidJoiner.f (k + 1) a0 a1 a2) := by
 intro a0 a1 a2 k
 have ih0 := spec_IsValidJoiner.mono_l k
 unfold spec_IsValidJoiner.f
 repeat' first
   | (with_reducible exact ih0 _ _ _ _ _ _)
   | (with_reducible exact spec_IsValidTask.mono _ _ _ _ _ _)
   | (with_reducible exact LeO.refl _)
   | (with_reducible exact LeO.none _)
   | (with_reducible refine LeO.ite ?_ ?_)
   | (with_reducible refine LeO.bind ?_ (fun _ => ?_))
   | exact ih0 _ _ _ _ _ _
   | exact spec_IsValidTask.mono _ _ _ _ _ _
   | exact LeO.none _
   | refine LeO.ite ?_ ?_
   | refine LeO.bind ?_ (fun _ => ?_)
def spec_IsValidJoiner.T6 : Bool × List (List Nat × List Nat) := (true, [([], []), ([0], [0]), ([], []), ([1, 2], [1, 2]), ([3], [3]), ([4], [4]), ([5], [5]), ([6, 5], [6]), ([7], [7]), ([8, 7], [7, 8]), ([7], [7]), ([9, 10, 7], [7, 9, 10]), ([11, 7], [7, 11]), ([12, 7], [7, 12]), ([7], [7]), ([14, 7], [7, 14]), ([15, 7], [7, 15]), ([16, 7], [7, 16]), ([17, 7], [7, 17]), ([13, 18, 7], [7, 13, 18]), ([7, 19], [7, 19])])
def spec_IsValidJoiner.B6 : List Nat := [0, 1, 0, 7, 15, 31, 63, 127, 255, 511, 255, 2047, 4095, 8191, 255, 16639, 49407, 114943, 246015, 524287, 1048575]
theorem spec_IsValidJoiner.tab6 : rtab .any (opsOf Try.f15 6) = spec_IsValidJoiner.T6 := by kernel_rfl
theorem spec_IsValidJoiner.bits6 : waitsOk spec_IsValidJoiner.T6.2 spec_IsValidJoiner.B6 = true := by kernel_rfl
set_option maxHeartbeats 8000000 in
set_option maxRecDepth 100000 in
theorem spec_IsValidJoiner.calls (k : Nat) (A0_0 : Option Addr) (c0_0 : Nat) (l0_0 : List (S68)) (a0_1 : Int) (a0_2 : Int) (r : Bool) (w : World) (hr0_0 : Kd.C k68 w A0_0 l0_0.length l0_0) (hc0_0 : l0_0.length ≤ c0_0) (h : spec_IsValidJoiner.f k l0_0 a0_1 a0_2 = some r) :
  Calls Try.prog 15 #[.agg #[.slice A0_0 l0_0.length c0_0, .int .i64 a0_1, .int .i64 a0_2]] w fun e w' => e = .returned (.bool r) ∧ Below w.heap.size w w' := by
 have hu29 := Try.underlying29
 have hu68 := Try.underlying68
 have HR0_0 := mA hr0_0
 have HC0_0 := mA hc0_0
 clear hr0_0 hc0_0
 have HB := mA (Below.refl w.heap.size w)
 have H : (spec_IsValidJoiner.l0 k 0 0 0 l0_0 a0_1 a0_2) = some r := h
 clear h
 have H' := mA H
 clear H
 go_enter Try.func15, Try.ntmps15
 go_wp2_with (first | ((with_reducible refine gate_dst (N := 1) rfl ?_); (try (refine gate_guard (by rfl) ?_; dsimp only)); refine boxT 1 #[.slice A0_0 l0_0.length c0_0, .int .i64 a0_1, .int .i64 a0_2] 29 ?_; intro gb216 hg w2 hbox hb; have BK216 := mA (hbox); have GW216 := mA ((by rw [hg]; exact (below_size (bT HB)) : w.heap.size ≤ gb216)); have GE216 := GW216; replace HB := mA (below_step (bT HB) hb); clear hb hbox hg))
 go_loopg [3, 4, 5] k (fun kq v3 v4 v5 w' => ∃ (x3_1 : Int) (x4_1 : Int) (x5_1 : Int), v3 = .int .i64 x3_1 ∧ v4 = .int .i64 x4_1 ∧ v5 = .int .i64 x5_1 ∧ Aside0 (spec_IsValidJoiner.l0 kq x3_1 x4_1 x5_1 l0_0 a0_1 a0_2 = some r) ∧ Aside0 (kq ≤ k) ∧ Aside0 (w'.heap[gb216]? = some (.cells #[(.slice A0_0 l0_0.length c0_0), .int .i64 a0_1, .int .i64 a0_2] 29 (0, 0))) ∧ Aside0 (Below w.heap.size w w'))
 case atStart => exact ⟨(0), (0), (0), sT, sT, sT, H', ⟨Nat.le_refl _⟩, ⟨kT BK216⟩, ⟨bT1 HB GE216⟩⟩
 case round =>
  clear H'
  try clear c1
  try clear p2
  obtain ⟨x3_1, x4_1, x5_1, rfl, rfl, rfl, HA, HK1, BK216, HB⟩ := hrel
  cases gk with
  | zero => exact absurd HA.out (by simp [spec_IsValidJoiner.l0])
  | succ k1 =>
   have H := HA.out
   clear HA
   simp only [spec_IsValidJoiner.l0] at H
   by_cases c3 : x5_1 < (l0_0.length : Int)
   ·
    rw [if_pos c3] at H
    have c3b0 : decide (x5_1 < (l0_0.length : Int)) = true := decide_eq_true c3
    clear c3
    by_cases c4 : 0 ≤ x5_1
    ·
     rw [if_pos c4] at H
     have c4b0 : decide (0 ≤ x5_1) = true := decide_eq_true c4
     clear c4
     obtain ⟨t218, A5, H⟩ := Option.bind_eq_some_iff.mp H
     replace A5 := mA A5
     try dsimp only at H
     by_cases c6 : t218 = true
     ·
      subst c6
      rw [if_pos rfl] at H
      by_cases c7 : 0 < (l0_0.length : Int)
      ·
       rw [if_pos c7] at H
       have c7b0 : decide (0 < (l0_0.length : Int)) = true := decide_eq_true c7
       have c7b1 : decide (0 < l0_0.length) = true := decide_eq_true (by omega)
       clear c7
       by_cases c8 : ((rd_T68 l0_0 x5_1).f0) = ((rd_T68 l0_0 0).f0)
       ·
        rw [if_pos c8] at H
        have c8b0 : (((rd_T68 l0_0 x5_1).f0) == ((rd_T68 l0_0 0).f0)) = true := beq_iff_eq.mpr c8
        have c8b1 : (((rd_T68 l0_0 x5_1).f0) != ((rd_T68 l0_0 0).f0)) = false := bne_eq_false_iff_eq.mpr c8
        clear c8
        have H' := mA H
        clear H
        have hcz9_0 : wr.cell? ⟨gb216, 0, none⟩ = some (.slice A0_0 l0_0.length c0_0) := (blk_cell BK216.out 0).trans rfl
        have hcz9_1 : wr.cell? ⟨gb216, 1, none⟩ = some (.int .i64 a0_1) := (blk_cell BK216.out 1).trans rfl
        have hcz9_2 : wr.cell? ⟨gb216, 2, none⟩ = some (.int .i64 a0_2) := (blk_cell BK216.out 2).trans rfl
        have hfz9_0 := blk_frozen BK216.out 0
        have hfz9_1 := blk_frozen BK216.out 1
        have hfz9_2 := blk_frozen BK216.out 2
        try go_wp2
        replace BK216 := mA (blk_drew BK216.out)
        replace HB := mA (below_drew1 HB.out)
        have p217 : 0 ≤ (x5_1 : Int) := of_decide_eq_true aT
        have q217 : x5_1 < (l0_0.length : Int) := of_decide_eq_true aT
        obtain ⟨ad217, A217_1, c217_1, A217_2, c217_2, A217_3, c217_3, e217, hx217_0, hx217_1, hx217_2, hx217_3, hx217_4, hl217_1, hi217_1, hl217_2, hi217_2, hl217_3, hi217_3⟩ := at_T68 HR0_0.out x5_1 p217 q217
        have hw217_4 := hx217_4
        have hw217_3 := hx217_3
        have hw217_2 := hx217_2
        have hw217_1 := hx217_1
        have hw217_0 := hx217_0
        cases e217
        replace hx217_0 := (HB.out.cell (World.block_lt_of_cell? w _ hx217_0)).trans hx217_0
        replace hx217_1 := (HB.out.cell (World.block_lt_of_cell? w _ hx217_1)).trans hx217_1
        replace hx217_2 := (HB.out.cell (World.block_lt_of_cell? w _ hx217_2)).trans hx217_2
        replace hx217_3 := (HB.out.cell (World.block_lt_of_cell? w _ hx217_3)).trans hx217_3
        replace hx217_4 := (HB.out.cell (World.block_lt_of_cell? w _ hx217_4)).trans hx217_4
        have HR217_1 := mA hi217_1
        have HC217_1 := mA hl217_1
        clear hi217_1 hl217_1
        have HR217_2 := mA hi217_2
        have HC217_2 := mA hl217_2
        clear hi217_2 hl217_2
        have HR217_3 := mA hi217_3
        have HC217_3 := mA hl217_3
        clear hi217_3 hl217_3
        replace p217 := eq_true p217
        replace q217 := eq_true q217
        have p219 : 0 ≤ (x5_1 : Int) := of_decide_eq_true aT
        have q219 : x5_1 < (l0_0.length : Int) := of_decide_eq_true aT
        obtain ⟨ad219, A219_1, c219_1, A219_2, c219_2, A219_3, c219_3, e219, hx219_0, hx219_1, hx219_2, hx219_3, hx219_4, hl219_1, hi219_1, hl219_2, hi219_2, hl219_3, hi219_3⟩ := at_T68 HR0_0.out x5_1 p219 q219
        have hw219_4 := hx219_4
        have hw219_3 := hx219_3
        have hw219_2 := hx219_2
        have hw219_1 := hx219_1
        have hw219_0 := hx219_0
        obtain rfl : ad217 = ad219 := (by injection e219)
        replace hx219_0 := (HB.out.cell (World.block_lt_of_cell? w _ hx219_0)).trans hx219_0
        replace hx219_1 := (HB.out.cell (World.block_lt_of_cell? w _ hx219_1)).trans hx219_1
        replace hx219_2 := (HB.out.cell (World.block_lt_of_cell? w _ hx219_2)).trans hx219_2
        replace hx219_3 := (HB.out.cell (World.block_lt_of_cell? w _ hx219_3)).trans hx219_3
        replace hx219_4 := (HB.out.cell (World.block_lt_of_cell? w _ hx219_4)).trans hx219_4
        have HR219_1 := mA hi219_1
        have HC219_1 := mA hl219_1
        clear hi219_1 hl219_1
        have HR219_2 := mA hi219_2
        have HC219_2 := mA hl219_2
        clear hi219_2 hl219_2
        have HR219_3 := mA hi219_3
        have HC219_3 := mA hl219_3
        clear hi219_3 hl219_3
        replace p219 := eq_true p219
        replace q219 := eq_true q219
        have p220 : 0 ≤ (0 : Int) := (by omega)
        have q220 : 0 < (l0_0.length : Int) := of_decide_eq_true aT
        obtain ⟨ad220, A220_1, c220_1, A220_2, c220_2, A220_3, c220_3, e220, hx220_0, hx220_1, hx220_2, hx220_3, hx220_4, hl220_1, hi220_1, hl220_2, hi220_2, hl220_3, hi220_3⟩ := at_T68 HR0_0.out 0 p220 q220
        have hw220_4 := hx220_4
        (try rw [show ((0 : Int)).toNat = 0 from rfl] at hw220_4)
        (try rw [show 0 * 5 = 0 from rfl] at hw220_4)
        (try rw [Addr.add_zero'] at hw220_4)
        have hw220_3 := hx220_3
        (try rw [show ((0 : Int)).toNat = 0 from rfl] at hw220_3)
        (try rw [show 0 * 5 = 0 from rfl] at hw220_3)
        (try rw [Addr.add_zero'] at hw220_3)
        have hw220_2 := hx220_2
        (try rw [show ((0 : Int)).toNat = 0 from rfl] at hw220_2)
        (try rw [show 0 * 5 = 0 from rfl] at hw220_2)
        (try rw [Addr.add_zero'] at hw220_2)
        have hw220_1 := hx220_1
        (try rw [show ((0 : Int)).toNat = 0 from rfl] at hw220_1)
        (try rw [show 0 * 5 = 0 from rfl] at hw220_1)
        (try rw [Addr.add_zero'] at hw220_1)
        have hw220_0 := hx220_0
        (try rw [show ((0 : Int)).toNat = 0 from rfl] at hw220_0)
        (try rw [show 0 * 5 = 0 from rfl] at hw220_0)
        (try rw [Addr.add_zero'] at hw220_0)
        obtain rfl : ad217 = ad220 := (by injection e220)
        have qi220 : (0 < l0_0.length) = True := eq_true (by omega)
        (try rw [show ((0 : Int)).toNat = 0 from rfl] at hx220_0)
        (try rw [show 0 * 5 = 0 from rfl] at hx220_0)
        (try rw [Addr.add_zero'] at hx220_0)
        (try rw [show ((0 : Int)).toNat = 0 from rfl] at hx220_1)
        (try rw [show 0 * 5 = 0 from rfl] at hx220_1)
        (try rw [Addr.add_zero'] at hx220_1)
        (try rw [show ((0 : Int)).toNat = 0 from rfl] at hx220_2)
        (try rw [show 0 * 5 = 0 from rfl] at hx220_2)
        (try rw [Addr.add_zero'] at hx220_2)
        (try rw [show ((0 : Int)).toNat = 0 from rfl] at hx220_3)
        (try rw [show 0 * 5 = 0 from rfl] at hx220_3)
        (try rw [Addr.add_zero'] at hx220_3)
        (try rw [show ((0 : Int)).toNat = 0 from rfl] at hx220_4)
        (try rw [show 0 * 5 = 0 from rfl] at hx220_4)
        (try rw [Addr.add_zero'] at hx220_4)
        replace hx220_0 := (HB.out.cell (World.block_lt_of_cell? w _ hx220_0)).trans hx220_0
        replace hx220_1 := (HB.out.cell (World.block_lt_of_cell? w _ hx220_1)).trans hx220_1
        replace hx220_2 := (HB.out.cell (World.block_lt_of_cell? w _ hx220_2)).trans hx220_2
        replace hx220_3 := (HB.out.cell (World.block_lt_of_cell? w _ hx220_3)).trans hx220_3
        replace hx220_4 := (HB.out.cell (World.block_lt_of_cell? w _ hx220_4)).trans hx220_4
        have HR220_1 := mA hi220_1
        have HC220_1 := mA hl220_1
        clear hi220_1 hl220_1
        have HR220_2 := mA hi220_2
        have HC220_2 := mA hl220_2
        clear hi220_2 hl220_2
        have HR220_3 := mA hi220_3
        have HC220_3 := mA hl220_3
        clear hi220_3 hl220_3
        replace p220 := eq_true p220
        replace q220 := eq_true q220
        refine start_ (n := 21) (S := fun w' => w'.cell? ⟨gb216, 0, none⟩ = some (.slice (some ad217) l0_0.length c0_0) ∧ w'.cell? ⟨gb216, 1, none⟩ = some (.int .i64 a0_1) ∧ w'.cell? ⟨gb216, 2, none⟩ = some (.int .i64 a0_2) ∧ w'.cell? (ad217.add ((x5_1).toNat * 5)) = some (.int .i64 ((rd_T68 l0_0 x5_1).f0)) ∧ w'.cell? ⟨(ad217.add ((x5_1).toNat * 5)).block, (ad217.add ((x5_1).toNat * 5)).off + 1, none⟩ = some (.slice A217_1 ((rd_T68 l0_0 x5_1).f1).length c217_1) ∧ w'.cell? ⟨(ad217.add ((x5_1).toNat * 5)).block, (ad217.add ((x5_1).toNat * 5)).off + 2, none⟩ = some (.slice A217_2 ((rd_T68 l0_0 x5_1).f2).length c217_2) ∧ w'.cell? ⟨(ad217.add ((x5_1).toNat * 5)).block, (ad217.add ((x5_1).toNat * 5)).off + 3, none⟩ = some (.slice A217_3 ((rd_T68 l0_0 x5_1).f3).length c217_3) ∧ w'.cell? ⟨(ad217.add ((x5_1).toNat * 5)).block, (ad217.add ((x5_1).toNat * 5)).off + 4, none⟩ = some (.int .i64 ((rd_T68 l0_0 x5_1).f4)) ∧ w'.cell? (ad217.add ((x5_1).toNat * 5)) = some (.int .i64 ((rd_T68 l0_0 x5_1).f0)) ∧ w'.cell? ⟨(ad217.add ((x5_1).toNat * 5)).block, (ad217.add ((x5_1).toNat * 5)).off + 1, none⟩ = some (.slice A219_1 ((rd_T68 l0_0 x5_1).f1).length c219_1) ∧ w'.cell? ⟨(ad217.add ((x5_1).toNat * 5)).block, (ad217.add ((x5_1).toNat * 5)).off + 2, none⟩ = some (.slice A219_2 ((rd_T68 l0_0 x5_1).f2).length c219_2) ∧ w'.cell? ⟨(ad217.add ((x5_1).toNat * 5)).block, (ad217.add ((x5_1).toNat * 5)).off + 3, none⟩ = some (.slice A219_3 ((rd_T68 l0_0 x5_1).f3).length c219_3) ∧ w'.cell? ⟨(ad217.add ((x5_1).toNat * 5)).block, (ad217.add ((x5_1).toNat * 5)).off + 4, none⟩ = some (.int .i64 ((rd_T68 l0_0 x5_1).f4)) ∧ w'.cell? ad217 = some (.int .i64 ((rd_T68 l0_0 0).f0)) ∧ w'.cell? ⟨ad217.block, ad217.off + 1, none⟩ = some (.slice A220_1 ((rd_T68 l0_0 0).f1).length c220_1) ∧ w'.cell? ⟨ad217.block, ad217.off + 2, none⟩ = some (.slice A220_2 ((rd_T68 l0_0 0).f2).length c220_2) ∧ w'.cell? ⟨ad217.block, ad217.off + 3, none⟩ = some (.slice A220_3 ((rd_T68 l0_0 0).f3).length c220_3) ∧ w'.cell? ⟨ad217.block, ad217.off + 4, none⟩ = some (.int .i64 ((rd_T68 l0_0 0).f4))) (ds := []) #[false, false, false, false, false, false, false, false, false, false, false, false, false, false, false, false, false, false, false, false, false] (by kernel_rfl) rfl rfl ⟨(blk_cell BK216.out 0).trans rfl, (blk_cell BK216.out 1).trans rfl, (blk_cell BK216.out 2).trans rfl, ((HB.out.cell (World.block_lt_of_cell? w _ hw217_0)).trans hw217_0), ((HB.out.cell (World.block_lt_of_cell? w _ hw217_1)).trans hw217_1), ((HB.out.cell (World.block_lt_of_cell? w _ hw217_2)).trans hw217_2), ((HB.out.cell (World.block_lt_of_cell? w _ hw217_3)).trans hw217_3), ((HB.out.cell (World.block_lt_of_cell? w _ hw217_4)).trans hw217_4), ((HB.out.cell (World.block_lt_of_cell? w _ hw219_0)).trans hw219_0), ((HB.out.cell (World.block_lt_of_cell? w _ hw219_1)).trans hw219_1), ((HB.out.cell (World.block_lt_of_cell? w _ hw219_2)).trans hw219_2), ((HB.out.cell (World.block_lt_of_cell? w _ hw219_3)).trans hw219_3), ((HB.out.cell (World.block_lt_of_cell? w _ hw219_4)).trans hw219_4), ((HB.out.cell (World.block_lt_of_cell? w _ hw220_0)).trans hw220_0), ((HB.out.cell (World.block_lt_of_cell? w _ hw220_1)).trans hw220_1), ((HB.out.cell (World.block_lt_of_cell? w _ hw220_2)).trans hw220_2), ((HB.out.cell (World.block_lt_of_cell? w _ hw220_3)).trans hw220_3), ((HB.out.cell (World.block_lt_of_cell? w _ hw220_4)).trans hw220_4)⟩ (fun hHeld => ?_); refine with_tabW spec_IsValidJoiner.tab6 spec_IsValidJoiner.bits6 (fun HT_ HW_ => ?_)
        generalize wr.drew = w10 at BK216 HB HR217_1 HR217_2 HR217_3 HR219_1 HR219_2 HR219_3 HR220_1 HR220_2 HR220_3 hx217_0 hx217_1 hx217_2 hx217_3 hx217_4 hx219_0 hx219_1 hx219_2 hx219_3 hx219_4 hx220_0 hx220_1 hx220_2 hx220_3 hx220_4 hHeld ⊢
        refine pureT (i := 0) (N := some 13) #[true, false, false, false, false, false, false, false, false, false, false, false, false, false, false, false, false, false, false, false, false] (any_of HT_.out (by kernel_rfl)) ?_
        refine pureT (i := 2) (N := some 15) #[true, false, true, false, false, false, false, false, false, false, false, false, false, false, false, false, false, false, false, false, false] (any_of HT_.out (by kernel_rfl)) ?_
        refine take_ (i := 1) (N := some 14) (v := ?_) (a' := ?_) #[true, true, true, false, false, false, false, false, false, false, false, false, false, false, false, false, false, false, false, false, false] rfl rfl (take_ofW HT_.out HW_.out (by kernel_rfl)) (fun _ _ _ h => h) (Or.inl ⟨by rfl, ?_⟩) hHeld ?_ ?_
        rotate_left
        ·
         rintro w' ⟨s0, s1, s2, s3, s4, s5, s6, s7, s8, s9, s10, s11, s12, s13, s14, s15, s16, s17⟩
         go_simp
         with_reducible rfl
        rotate_left
        ·
         simp only [Act.put, List.setIfInBounds_toArray, List.set_cons_zero, List.set_cons_succ, i64_w, i32_w]
         rfl
        refine pureT (i := 3) (N := some 16) #[true, true, true, true, false, false, false, false, false, false, false, false, false, false, false, false, false, false, false, false, false] (any_of HT_.out (by kernel_rfl)) ?_
        refine take_ (i := 4) (N := some 17) (v := ?_) (a' := ?_) #[true, true, true, true, true, false, false, false, false, false, false, false, false, false, false, false, false, false, false, false, false] rfl rfl (take_ofW HT_.out HW_.out (by kernel_rfl)) (fun _ _ _ h => h) (Or.inl ⟨by rfl, ?_⟩) hHeld ?_ ?_
        rotate_left
        ·
         rintro w' ⟨s0, s1, s2, s3, s4, s5, s6, s7, s8, s9, s10, s11, s12, s13, s14, s15, s16, s17⟩
         go_simp
         with_reducible rfl
        rotate_left
        ·
         simp only [Act.put, List.setIfInBounds_toArray, List.set_cons_zero, List.set_cons_succ, i64_w, i32_w]
         rfl
        refine one_ (i := 5) (N := some 18) #[true, true, true, true, true, true, false, false, false, false, false, false, false, false, false, false, false, false, false, false, false] rfl rfl (one_of HT_.out (by kernel_rfl)) (by decide) (fun K hK => ?_)
        refine goes_ Try.func45 (by kernel_rfl) rfl #[.agg #[.int .i64 ((rd_T68 l0_0 x5_1).f0), .slice A217_1 ((rd_T68 l0_0 x5_1).f1).length c217_1, .slice A217_2 ((rd_T68 l0_0 x5_1).f2).length c217_2, .slice A217_3 ((rd_T68 l0_0 x5_1).f3).length c217_3, .int .i64 ((rd_T68 l0_0 x5_1).f4)]] (by rfl) rfl rfl mT ?_
        with_reducible refine (spec_IsValidTask.calls k1 ((rd_T68 l0_0 x5_1).f0) _ _ ((rd_T68 l0_0 x5_1).f1) _ _ ((rd_T68 l0_0 x5_1).f2) _ _ ((rd_T68 l0_0 x5_1).f3) ((rd_T68 l0_0 x5_1).f4) true _ ?side1 ?side2 ?side3 ?side4 ?side5 ?side6 A5.out).mono ?_
        (case side1 => exact cT (Kd.C_below HR217_1.out HB.out))
        (case side2 => exact HC217_1.out)
        (case side3 => exact cT (Kd.C_below HR217_2.out HB.out))
        (case side4 => exact HC217_2.out)
        (case side5 => exact cT (Kd.C_below HR217_3.out HB.out))
        (case side6 => exact HC217_3.out)
        rintro e w11 ⟨rfl, hb⟩
        refine ⟨_, rfl, ?_⟩
        replace BK216 := kB BK216 hb
        replace HB := mA (below_step (bT1 HB GE216) hb)
        (try clear hb)
        (try clear hb2)
        (try clear hk)
        (try clear hi)
        refine hK.out _ _ ⟨(blk_cell BK216.out 0).trans rfl, (blk_cell BK216.out 1).trans rfl, (blk_cell BK216.out 2).trans rfl, ((HB.out.cell (World.block_lt_of_cell? w _ hw217_0)).trans hw217_0), ((HB.out.cell (World.block_lt_of_cell? w _ hw217_1)).trans hw217_1), ((HB.out.cell (World.block_lt_of_cell? w _ hw217_2)).trans hw217_2), ((HB.out.cell (World.block_lt_of_cell? w _ hw217_3)).trans hw217_3), ((HB.out.cell (World.block_lt_of_cell? w _ hw217_4)).trans hw217_4), ((HB.out.cell (World.block_lt_of_cell? w _ hw219_0)).trans hw219_0), ((HB.out.cell (World.block_lt_of_cell? w _ hw219_1)).trans hw219_1), ((HB.out.cell (World.block_lt_of_cell? w _ hw219_2)).trans hw219_2), ((HB.out.cell (World.block_lt_of_cell? w _ hw219_3)).trans hw219_3), ((HB.out.cell (World.block_lt_of_cell? w _ hw219_4)).trans hw219_4), ((HB.out.cell (World.block_lt_of_cell? w _ hw220_0)).trans hw220_0), ((HB.out.cell (World.block_lt_of_cell? w _ hw220_1)).trans hw220_1), ((HB.out.cell (World.block_lt_of_cell? w _ hw220_2)).trans hw220_2), ((HB.out.cell (World.block_lt_of_cell? w _ hw220_3)).trans hw220_3), ((HB.out.cell (World.block_lt_of_cell? w _ hw220_4)).trans hw220_4)⟩ (fun hHeld => ?_)
        clear hK K
        refine norm_ (a' := ?_) ?_ ?_
        rotate_left
        ·
         show Act.put _ (some 18) _ = _
         simp only [Act.put, List.setIfInBounds_toArray, List.set_cons_zero, List.set_cons_succ, i64_w, i32_w]
         rfl
        refine pureT (i := 6) (N := some 19) #[true, true, true, true, true, true, true, false, false, false, false, false, false, false, false, false, false, false, false, false, false] (any_of HT_.out (by kernel_rfl)) ?_
        refine pureT (i := 7) (N := some 20) #[true, true, true, true, true, true, true, true, false, false, false, false, false, false, false, false, false, false, false, false, false] (any_of HT_.out (by kernel_rfl)) ?_
        refine pureT (i := 8) (N := some 21) #[true, true, true, true, true, true, true, true, true, false, false, false, false, false, false, false, false, false, false, false, false] (any_of HT_.out (by kernel_rfl)) ?_
        refine pureT (i := 10) (N := some 23) #[true, true, true, true, true, true, true, true, true, false, true, false, false, false, false, false, false, false, false, false, false] (any_of HT_.out (by kernel_rfl)) ?_
        refine pureT (i := 14) (N := some 27) #[true, true, true, true, true, true, true, true, true, false, true, false, false, false, true, false, false, false, false, false, false] (any_of HT_.out (by kernel_rfl)) ?_
        refine take_ (i := 9) (N := some 22) (v := ?_) (a' := ?_) #[true, true, true, true, true, true, true, true, true, true, true, false, false, false, true, false, false, false, false, false, false] rfl rfl (take_ofW HT_.out HW_.out (by kernel_rfl)) (fun _ _ _ h => h) (Or.inl ⟨by rfl, ?_⟩) hHeld ?_ ?_
        rotate_left
        ·
         rintro w' ⟨s0, s1, s2, s3, s4, s5, s6, s7, s8, s9, s10, s11, s12, s13, s14, s15, s16, s17⟩
         go_simp
         with_reducible rfl
        rotate_left
        ·
         simp only [Act.put, List.setIfInBounds_toArray, List.set_cons_zero, List.set_cons_succ, i64_w, i32_w]
         rfl
        refine pureT (i := 11) (N := some 24) #[true, true, true, true, true, true, true, true, true, true, true, true, false, false, true, false, false, false, false, false, false] (any_of HT_.out (by kernel_rfl)) ?_
        refine pureT (i := 12) (N := some 25) #[true, true, true, true, true, true, true, true, true, true, true, true, true, false, true, false, false, false, false, false, false] (any_of HT_.out (by kernel_rfl)) ?_
        refine take_ (i := 13) (N := some 26) (v := ?_) (a' := ?_) #[true, true, true, true, true, true, true, true, true, true, true, true, true, true, true, false, false, false, false, false, false] rfl rfl (take_ofW HT_.out HW_.out (by kernel_rfl)) (fun _ _ _ h => h) (Or.inl ⟨by rfl, ?_⟩) hHeld ?_ ?_
        rotate_left
        ·
         rintro w' ⟨s0, s1, s2, s3, s4, s5, s6, s7, s8, s9, s10, s11, s12, s13, s14, s15, s16, s17⟩
         go_simp
         with_reducible rfl
        rotate_left
        ·
         simp only [Act.put, List.setIfInBounds_toArray, List.set_cons_zero, List.set_cons_succ, i64_w, i32_w]
         rfl
        refine take_ (i := 15) (N := some 28) (v := ?_) (a' := ?_) #[true, true, true, true, true, true, true, true, true, true, true, true, true, true, true, true, false, false, false, false, false] rfl rfl (take_ofW HT_.out HW_.out (by kernel_rfl)) (fun _ _ _ h => h) (Or.inl ⟨by rfl, ?_⟩) hHeld ?_ ?_
        rotate_left
        ·
         rintro w' ⟨s0, s1, s2, s3, s4, s5, s6, s7, s8, s9, s10, s11, s12, s13, s14, s15, s16, s17⟩
         go_simp
         with_reducible rfl
        rotate_left
        ·
         simp only [Act.put, List.setIfInBounds_toArray, List.set_cons_zero, List.set_cons_succ, i64_w, i32_w]
         rfl
        refine pureT (i := 16) (N := some 29) #[true, true, true, true, true, true, true, true, true, true, true, true, true, true, true, true, true, false, false, false, false] (any_of HT_.out (by kernel_rfl)) ?_
        refine pureT (i := 17) (N := some 30) #[true, true, true, true, true, true, true, true, true, true, true, true, true, true, true, true, true, true, false, false, false] (any_of HT_.out (by kernel_rfl)) ?_
        refine take_ (i := 18) (N := some 31) (v := ?_) (a' := ?_) #[true, true, true, true, true, true, true, true, true, true, true, true, true, true, true, true, true, true, true, false, false] rfl rfl (take_ofW HT_.out HW_.out (by kernel_rfl)) (fun _ _ _ h => h) (Or.inl ⟨by rfl, ?_⟩) hHeld ?_ ?_
        rotate_left
        ·
         rintro w' ⟨s0, s1, s2, s3, s4, s5, s6, s7, s8, s9, s10, s11, s12, s13, s14, s15, s16, s17⟩
         go_simp
         with_reducible rfl
        rotate_left
        ·
         simp only [Act.put, List.setIfInBounds_toArray, List.set_cons_zero, List.set_cons_succ, i64_w, i32_w]
         rfl
        refine pureT (i := 19) (N := some 32) #[true, true, true, true, true, true, true, true, true, true, true, true, true, true, true, true, true, true, true, true, false] (any_of HT_.out (by kernel_rfl)) ?_
        refine pureT (i := 20) (N := some 33) #[true, true, true, true, true, true, true, true, true, true, true, true, true, true, true, true, true, true, true, true, true] (any_of HT_.out (by kernel_rfl)) ?_
        refine done_ (done_of HT_.out (by kernel_rfl)) ?_
        have hcz12_0 : w11.cell? ⟨gb216, 0, none⟩ = some (.slice (some ad217) l0_0.length c0_0) := (blk_cell BK216.out 0).trans rfl
        have hcz12_1 : w11.cell? ⟨gb216, 1, none⟩ = some (.int .i64 a0_1) := (blk_cell BK216.out 1).trans rfl
        have hcz12_2 : w11.cell? ⟨gb216, 2, none⟩ = some (.int .i64 a0_2) := (blk_cell BK216.out 2).trans rfl
        have hfz12_0 := blk_frozen BK216.out 0
        have hfz12_1 := blk_frozen BK216.out 1
        have hfz12_2 := blk_frozen BK216.out 2
        have p221 : 0 ≤ (x5_1 : Int) := of_decide_eq_true aT
        have q221 : x5_1 < (l0_0.length : Int) := of_decide_eq_true aT
        obtain ⟨ad221, A221_1, c221_1, A221_2, c221_2, A221_3, c221_3, e221, hx221_0, hx221_1, hx221_2, hx221_3, hx221_4, hl221_1, hi221_1, hl221_2, hi221_2, hl221_3, hi221_3⟩ := at_T68 HR0_0.out x5_1 p221 q221
        obtain rfl : ad217 = ad221 := (by injection e221)
        replace hx221_0 := (HB.out.cell (World.block_lt_of_cell? w _ hx221_0)).trans hx221_0
        replace hx221_1 := (HB.out.cell (World.block_lt_of_cell? w _ hx221_1)).trans hx221_1
        replace hx221_2 := (HB.out.cell (World.block_lt_of_cell? w _ hx221_2)).trans hx221_2
        replace hx221_3 := (HB.out.cell (World.block_lt_of_cell? w _ hx221_3)).trans hx221_3
        replace hx221_4 := (HB.out.cell (World.block_lt_of_cell? w _ hx221_4)).trans hx221_4
        have HR221_1 := mA hi221_1
        have HC221_1 := mA hl221_1
        clear hi221_1 hl221_1
        have HR221_2 := mA hi221_2
        have HC221_2 := mA hl221_2
        clear hi221_2 hl221_2
        have HR221_3 := mA hi221_3
        have HC221_3 := mA hl221_3
        clear hi221_3 hl221_3
        replace p221 := eq_true p221
        replace q221 := eq_true q221
        first | (have ea_ := Option.some.inj (hx219_1.symm.trans hx221_1)) | (have ea_ := Option.some.inj (((HB.out.cell (World.block_lt_of_cell? w _ hw219_1)).trans hw219_1).symm.trans hx221_1))
        injection ea_ with ea_ en_ ec_
        subst ea_
        subst ec_
        clear en_
        first | (have ea_ := Option.some.inj (hx219_2.symm.trans hx221_2)) | (have ea_ := Option.some.inj (((HB.out.cell (World.block_lt_of_cell? w _ hw219_2)).trans hw219_2).symm.trans hx221_2))
        injection ea_ with ea_ en_ ec_
        subst ea_
        subst ec_
        clear en_
        first | (have ea_ := Option.some.inj (hx219_3.symm.trans hx221_3)) | (have ea_ := Option.some.inj (((HB.out.cell (World.block_lt_of_cell? w _ hw219_3)).trans hw219_3).symm.trans hx221_3))
        injection ea_ with ea_ en_ ec_
        subst ea_
        subst ec_
        clear en_
        have p222 : 0 ≤ (x5_1 : Int) := of_decide_eq_true aT
        have q222 : x5_1 < (l0_0.length : Int) := of_decide_eq_true aT
        obtain ⟨ad222, A222_1, c222_1, A222_2, c222_2, A222_3, c222_3, e222, hx222_0, hx222_1, hx222_2, hx222_3, hx222_4, hl222_1, hi222_1, hl222_2, hi222_2, hl222_3, hi222_3⟩ := at_T68 HR0_0.out x5_1 p222 q222
        obtain rfl : ad217 = ad222 := (by injection e222)
        replace hx222_0 := (HB.out.cell (World.block_lt_of_cell? w _ hx222_0)).trans hx222_0
        replace hx222_1 := (HB.out.cell (World.block_lt_of_cell? w _ hx222_1)).trans hx222_1
        replace hx222_2 := (HB.out.cell (World.block_lt_of_cell? w _ hx222_2)).trans hx222_2
        replace hx222_3 := (HB.out.cell (World.block_lt_of_cell? w _ hx222_3)).trans hx222_3
        replace hx222_4 := (HB.out.cell (World.block_lt_of_cell? w _ hx222_4)).trans hx222_4
        have HR222_1 := mA hi222_1
        have HC222_1 := mA hl222_1
        clear hi222_1 hl222_1
        have HR222_2 := mA hi222_2
        have HC222_2 := mA hl222_2
        clear hi222_2 hl222_2
        have HR222_3 := mA hi222_3
        have HC222_3 := mA hl222_3
        clear hi222_3 hl222_3
        replace p222 := eq_true p222
        replace q222 := eq_true q222
        first | (have ea_ := Option.some.inj (hx219_1.symm.trans hx222_1)) | (have ea_ := Option.some.inj (((HB.out.cell (World.block_lt_of_cell? w _ hw219_1)).trans hw219_1).symm.trans hx222_1))
        injection ea_ with ea_ en_ ec_
        subst ea_
        subst ec_
        clear en_
        first | (have ea_ := Option.some.inj (hx219_2.symm.trans hx222_2)) | (have ea_ := Option.some.inj (((HB.out.cell (World.block_lt_of_cell? w _ hw219_2)).trans hw219_2).symm.trans hx222_2))
        injection ea_ with ea_ en_ ec_
        subst ea_
        subst ec_
        clear en_
        first | (have ea_ := Option.some.inj (hx219_3.symm.trans hx222_3)) | (have ea_ := Option.some.inj (((HB.out.cell (World.block_lt_of_cell? w _ hw219_3)).trans hw219_3).symm.trans hx222_3))
        injection ea_ with ea_ en_ ec_
        subst ea_
        subst ec_
        clear en_
        try go_wp2
        go_roundg k1
        case measure => have := HK1.out; omega
        case rel => exact ⟨(wrap64 (x3_1 + (((rd_T68 l0_0 x5_1).f1).length : Int))), (wrap64 (x4_1 + (((rd_T68 l0_0 x5_1).f2).length : Int))), (wrap64 (x5_1 + 1)), sT, sT, sT, H', ⟨by have := HK1.out; omega⟩, ⟨kT BK216⟩, ⟨bT1 HB GE216⟩⟩
       ·
        rw [if_neg c8] at H
        have c8b0 : (((rd_T68 l0_0 x5_1).f0) == ((rd_T68 l0_0 0).f0)) = false := beq_eq_false_iff_ne.mpr c8
        have c8b1 : (((rd_T68 l0_0 x5_1).f0) != ((rd_T68 l0_0 0).f0)) = true := bne_iff_ne.mpr c8
        obtain rfl := Option.some.inj H
        have hcz13_0 : wr.cell? ⟨gb216, 0, none⟩ = some (.slice A0_0 l0_0.length c0_0) := (blk_cell BK216.out 0).trans rfl
        have hcz13_1 : wr.cell? ⟨gb216, 1, none⟩ = some (.int .i64 a0_1) := (blk_cell BK216.out 1).trans rfl
        have hcz13_2 : wr.cell? ⟨gb216, 2, none⟩ = some (.int .i64 a0_2) := (blk_cell BK216.out 2).trans rfl
        have hfz13_0 := blk_frozen BK216.out 0
        have hfz13_1 := blk_frozen BK216.out 1
        have hfz13_2 := blk_frozen BK216.out 2
        try go_wp2
        replace BK216 := mA (blk_drew BK216.out)
        replace HB := mA (below_drew1 HB.out)
        have p217 : 0 ≤ (x5_1 : Int) := of_decide_eq_true aT
        have q217 : x5_1 < (l0_0.length : Int) := of_decide_eq_true aT
        obtain ⟨ad217, A217_1, c217_1, A217_2, c217_2, A217_3, c217_3, e217, hx217_0, hx217_1, hx217_2, hx217_3, hx217_4, hl217_1, hi217_1, hl217_2, hi217_2, hl217_3, hi217_3⟩ := at_T68 HR0_0.out x5_1 p217 q217
        have hw217_4 := hx217_4
        have hw217_3 := hx217_3
        have hw217_2 := hx217_2
        have hw217_1 := hx217_1
        have hw217_0 := hx217_0
        cases e217
        replace hx217_0 := (HB.out.cell (World.block_lt_of_cell? w _ hx217_0)).trans hx217_0
        replace hx217_1 := (HB.out.cell (World.block_lt_of_cell? w _ hx217_1)).trans hx217_1
        replace hx217_2 := (HB.out.cell (World.block_lt_of_cell? w _ hx217_2)).trans hx217_2
        replace hx217_3 := (HB.out.cell (World.block_lt_of_cell? w _ hx217_3)).trans hx217_3
        replace hx217_4 := (HB.out.cell (World.block_lt_of_cell? w _ hx217_4)).trans hx217_4
        have HR217_1 := mA hi217_1
        have HC217_1 := mA hl217_1
        clear hi217_1 hl217_1
        have HR217_2 := mA hi217_2
        have HC217_2 := mA hl217_2
        clear hi217_2 hl217_2
        have HR217_3 := mA hi217_3
        have HC217_3 := mA hl217_3
        clear hi217_3 hl217_3
        replace p217 := eq_true p217
        replace q217 := eq_true q217
        have p219 : 0 ≤ (x5_1 : Int) := of_decide_eq_true aT
        have q219 : x5_1 < (l0_0.length : Int) := of_decide_eq_true aT
        obtain ⟨ad219, A219_1, c219_1, A219_2, c219_2, A219_3, c219_3, e219, hx219_0, hx219_1, hx219_2, hx219_3, hx219_4, hl219_1, hi219_1, hl219_2, hi219_2, hl219_3, hi219_3⟩ := at_T68 HR0_0.out x5_1 p219 q219
        have hw219_4 := hx219_4
        have hw219_3 := hx219_3
        have hw219_2 := hx219_2
        have hw219_1 := hx219_1
        have hw219_0 := hx219_0
        obtain rfl : ad217 = ad219 := (by injection e219)
        replace hx219_0 := (HB.out.cell (World.block_lt_of_cell? w _ hx219_0)).trans hx219_0
        replace hx219_1 := (HB.out.cell (World.block_lt_of_cell? w _ hx219_1)).trans hx219_1
        replace hx219_2 := (HB.out.cell (World.block_lt_of_cell? w _ hx219_2)).trans hx219_2
        replace hx219_3 := (HB.out.cell (World.block_lt_of_cell? w _ hx219_3)).trans hx219_3
        replace hx219_4 := (HB.out.cell (World.block_lt_of_cell? w _ hx219_4)).trans hx219_4
        have HR219_1 := mA hi219_1
        have HC219_1 := mA hl219_1
        clear hi219_1 hl219_1
        have HR219_2 := mA hi219_2
        have HC219_2 := mA hl219_2
        clear hi219_2 hl219_2
        have HR219_3 := mA hi219_3
        have HC219_3 := mA hl219_3
        clear hi219_3 hl219_3
        replace p219 := eq_true p219
        replace q219 := eq_true q219
        have p220 : 0 ≤ (0 : Int) := (by omega)
        have q220 : 0 < (l0_0.length : Int) := of_decide_eq_true aT
        obtain ⟨ad220, A220_1, c220_1, A220_2, c220_2, A220_3, c220_3, e220, hx220_0, hx220_1, hx220_2, hx220_3, hx220_4, hl220_1, hi220_1, hl220_2, hi220_2, hl220_3, hi220_3⟩ := at_T68 HR0_0.out 0 p220 q220
        have hw220_4 := hx220_4
        (try rw [show ((0 : Int)).toNat = 0 from rfl] at hw220_4)
        (try rw [show 0 * 5 = 0 from rfl] at hw220_4)
        (try rw [Addr.add_zero'] at hw220_4)
        have hw220_3 := hx220_3
        (try rw [show ((0 : Int)).toNat = 0 from rfl] at hw220_3)
        (try rw [show 0 * 5 = 0 from rfl] at hw220_3)
        (try rw [Addr.add_zero'] at hw220_3)
        have hw220_2 := hx220_2
        (try rw [show ((0 : Int)).toNat = 0 from rfl] at hw220_2)
        (try rw [show 0 * 5 = 0 from rfl] at hw220_2)
        (try rw [Addr.add_zero'] at hw220_2)
        have hw220_1 := hx220_1
        (try rw [show ((0 : Int)).toNat = 0 from rfl] at hw220_1)
        (try rw [show 0 * 5 = 0 from rfl] at hw220_1)
        (try rw [Addr.add_zero'] at hw220_1)
        have hw220_0 := hx220_0
        (try rw [show ((0 : Int)).toNat = 0 from rfl] at hw220_0)
        (try rw [show 0 * 5 = 0 from rfl] at hw220_0)
        (try rw [Addr.add_zero'] at hw220_0)
        obtain rfl : ad217 = ad220 := (by injection e220)
        have qi220 : (0 < l0_0.length) = True := eq_true (by omega)
        (try rw [show ((0 : Int)).toNat = 0 from rfl] at hx220_0)
        (try rw [show 0 * 5 = 0 from rfl] at hx220_0)
        (try rw [Addr.add_zero'] at hx220_0)
        (try rw [show ((0 : Int)).toNat = 0 from rfl] at hx220_1)
        (try rw [show 0 * 5 = 0 from rfl] at hx220_1)
        (try rw [Addr.add_zero'] at hx220_1)
        (try rw [show ((0 : Int)).toNat = 0 from rfl] at hx220_2)
        (try rw [show 0 * 5 = 0 from rfl] at hx220_2)
        (try rw [Addr.add_zero'] at hx220_2)
        (try rw [show ((0 : Int)).toNat = 0 from rfl] at hx220_3)
        (try rw [show 0 * 5 = 0 from rfl] at hx220_3)
        (try rw [Addr.add_zero'] at hx220_3)
        (try rw [show ((0 : Int)).toNat = 0 from rfl] at hx220_4)
        (try rw [show 0 * 5 = 0 from rfl] at hx220_4)
        (try rw [Addr.add_zero'] at hx220_4)
        replace hx220_0 := (HB.out.cell (World.block_lt_of_cell? w _ hx220_0)).trans hx220_0
        replace hx220_1 := (HB.out.cell (World.block_lt_of_cell? w _ hx220_1)).trans hx220_1
        replace hx220_2 := (HB.out.cell (World.block_lt_of_cell? w _ hx220_2)).trans hx220_2
        replace hx220_3 := (HB.out.cell (World.block_lt_of_cell? w _ hx220_3)).trans hx220_3
        replace hx220_4 := (HB.out.cell (World.block_lt_of_cell? w _ hx220_4)).trans hx220_4
        have HR220_1 := mA hi220_1
        have HC220_1 := mA hl220_1
        clear hi220_1 hl220_1
        have HR220_2 := mA hi220_2
        have HC220_2 := mA hl220_2
        clear hi220_2 hl220_2
        have HR220_3 := mA hi220_3
        have HC220_3 := mA hl220_3
        clear hi220_3 hl220_3
        replace p220 := eq_true p220
        replace q220 := eq_true q220
        refine start_ (n := 21) (S := fun w' => w'.cell? ⟨gb216, 0, none⟩ = some (.slice (some ad217) l0_0.length c0_0) ∧ w'.cell? ⟨gb216, 1, none⟩ = some (.int .i64 a0_1) ∧ w'.cell? ⟨gb216, 2, none⟩ = some (.int .i64 a0_2) ∧ w'.cell? (ad217.add ((x5_1).toNat * 5)) = some (.int .i64 ((rd_T68 l0_0 x5_1).f0)) ∧ w'.cell? ⟨(ad217.add ((x5_1).toNat * 5)).block, (ad217.add ((x5_1).toNat * 5)).off + 1, none⟩ = some (.slice A217_1 ((rd_T68 l0_0 x5_1).f1).length c217_1) ∧ w'.cell? ⟨(ad217.add ((x5_1).toNat * 5)).block, (ad217.add ((x5_1).toNat * 5)).off + 2, none⟩ = some (.slice A217_2 ((rd_T68 l0_0 x5_1).f2).length c217_2) ∧ w'.cell? ⟨(ad217.add ((x5_1).toNat * 5)).block, (ad217.add ((x5_1).toNat * 5)).off + 3, none⟩ = some (.slice A217_3 ((rd_T68 l0_0 x5_1).f3).length c217_3) ∧ w'.cell? ⟨(ad217.add ((x5_1).toNat * 5)).block, (ad217.add ((x5_1).toNat * 5)).off + 4, none⟩ = some (.int .i64 ((rd_T68 l0_0 x5_1).f4)) ∧ w'.cell? (ad217.add ((x5_1).toNat * 5)) = some (.int .i64 ((rd_T68 l0_0 x5_1).f0)) ∧ w'.cell? ⟨(ad217.add ((x5_1).toNat * 5)).block, (ad217.add ((x5_1).toNat * 5)).off + 1, none⟩ = some (.slice A219_1 ((rd_T68 l0_0 x5_1).f1).length c219_1) ∧ w'.cell? ⟨(ad217.add ((x5_1).toNat * 5)).block, (ad217.add ((x5_1).toNat * 5)).off + 2, none⟩ = some (.slice A219_2 ((rd_T68 l0_0 x5_1).f2).length c219_2) ∧ w'.cell? ⟨(ad217.add ((x5_1).toNat * 5)).block, (ad217.add ((x5_1).toNat * 5)).off + 3, none⟩ = some (.slice A219_3 ((rd_T68 l0_0 x5_1).f3).length c219_3) ∧ w'.cell? ⟨(ad217.add ((x5_1).toNat * 5)).block, (ad217.add ((x5_1).toNat * 5)).off + 4, none⟩ = some (.int .i64 ((rd_T68 l0_0 x5_1).f4)) ∧ w'.cell? ad217 = some (.int .i64 ((rd_T68 l0_0 0).f0)) ∧ w'.cell? ⟨ad217.block, ad217.off + 1, none⟩ = some (.slice A220_1 ((rd_T68 l0_0 0).f1).length c220_1) ∧ w'.cell? ⟨ad217.block, ad217.off + 2, none⟩ = some (.slice A220_2 ((rd_T68 l0_0 0).f2).length c220_2) ∧ w'.cell? ⟨ad217.block, ad217.off + 3, none⟩ = some (.slice A220_3 ((rd_T68 l0_0 0).f3).length c220_3) ∧ w'.cell? ⟨ad217.block, ad217.off + 4, none⟩ = some (.int .i64 ((rd_T68 l0_0 0).f4))) (ds := []) #[false, false, false, false, false, false, false, false, false, false, false, false, false, false, false, false, false, false, false, false, false] (by kernel_rfl) rfl rfl ⟨(blk_cell BK216.out 0).trans rfl, (blk_cell BK216.out 1).trans rfl, (blk_cell BK216.out 2).trans rfl, ((HB.out.cell (World.block_lt_of_cell? w _ hw217_0)).trans hw217_0), ((HB.out.cell (World.block_lt_of_cell? w _ hw217_1)).trans hw217_1), ((HB.out.cell (World.block_lt_of_cell? w _ hw217_2)).trans hw217_2), ((HB.out.cell (World.block_lt_of_cell? w _ hw217_3)).trans hw217_3), ((HB.out.cell (World.block_lt_of_cell? w _ hw217_4)).trans hw217_4), ((HB.out.cell (World.block_lt_of_cell? w _ hw219_0)).trans hw219_0), ((HB.out.cell (World.block_lt_of_cell? w _ hw219_1)).trans hw219_1), ((HB.out.cell (World.block_lt_of_cell? w _ hw219_2)).trans hw219_2), ((HB.out.cell (World.block_lt_of_cell? w _ hw219_3)).trans hw219_3), ((HB.out.cell (World.block_lt_of_cell? w _ hw219_4)).trans hw219_4), ((HB.out.cell (World.block_lt_of_cell? w _ hw220_0)).trans hw220_0), ((HB.out.cell (World.block_lt_of_cell? w _ hw220_1)).trans hw220_1), ((HB.out.cell (World.block_lt_of_cell? w _ hw220_2)).trans hw220_2), ((HB.out.cell (World.block_lt_of_cell? w _ hw220_3)).trans hw220_3), ((HB.out.cell (World.block_lt_of_cell? w _ hw220_4)).trans hw220_4)⟩ (fun hHeld => ?_); refine with_tabW spec_IsValidJoiner.tab6 spec_IsValidJoiner.bits6 (fun HT_ HW_ => ?_)
        generalize wr.drew = w14 at BK216 HB HR217_1 HR217_2 HR217_3 HR219_1 HR219_2 HR219_3 HR220_1 HR220_2 HR220_3 hx217_0 hx217_1 hx217_2 hx217_3 hx217_4 hx219_0 hx219_1 hx219_2 hx219_3 hx219_4 hx220_0 hx220_1 hx220_2 hx220_3 hx220_4 hHeld ⊢
        refine pureT (i := 0) (N := some 13) #[true, false, false, false, false, false, false, false, false, false, false, false, false, false, false, false, false, false, false, false, false] (any_of HT_.out (by kernel_rfl)) ?_
        refine pureT (i := 2) (N := some 15) #[true, false, true, false, false, false, false, false, false, false, false, false, false, false, false, false, false, false, false, false, false] (any_of HT_.out (by kernel_rfl)) ?_
        refine take_ (i := 1) (N := some 14) (v := ?_) (a' := ?_) #[true, true, true, false, false, false, false, false, false, false, false, false, false, false, false, false, false, false, false, false, false] rfl rfl (take_ofW HT_.out HW_.out (by kernel_rfl)) (fun _ _ _ h => h) (Or.inl ⟨by rfl, ?_⟩) hHeld ?_ ?_
        rotate_left
        ·
         rintro w' ⟨s0, s1, s2, s3, s4, s5, s6, s7, s8, s9, s10, s11, s12, s13, s14, s15, s16, s17⟩
         go_simp
         with_reducible rfl
        rotate_left
        ·
         simp only [Act.put, List.setIfInBounds_toArray, List.set_cons_zero, List.set_cons_succ, i64_w, i32_w]
         rfl
        refine pureT (i := 3) (N := some 16) #[true, true, true, true, false, false, false, false, false, false, false, false, false, false, false, false, false, false, false, false, false] (any_of HT_.out (by kernel_rfl)) ?_
        refine take_ (i := 4) (N := some 17) (v := ?_) (a' := ?_) #[true, true, true, true, true, false, false, false, false, false, false, false, false, false, false, false, false, false, false, false, false] rfl rfl (take_ofW HT_.out HW_.out (by kernel_rfl)) (fun _ _ _ h => h) (Or.inl ⟨by rfl, ?_⟩) hHeld ?_ ?_
        rotate_left
        ·
         rintro w' ⟨s0, s1, s2, s3, s4, s5, s6, s7, s8, s9, s10, s11, s12, s13, s14, s15, s16, s17⟩
         go_simp
         with_reducible rfl
        rotate_left
        ·
         simp only [Act.put, List.setIfInBounds_toArray, List.set_cons_zero, List.set_cons_succ, i64_w, i32_w]
         rfl
        refine one_ (i := 5) (N := some 18) #[true, true, true, true, true, true, false, false, false, false, false, false, false, false, false, false, false, false, false, false, false] rfl rfl (one_of HT_.out (by kernel_rfl)) (by decide) (fun K hK => ?_)
        refine goes_ Try.func45 (by kernel_rfl) rfl #[.agg #[.int .i64 ((rd_T68 l0_0 x5_1).f0), .slice A217_1 ((rd_T68 l0_0 x5_1).f1).length c217_1, .slice A217_2 ((rd_T68 l0_0 x5_1).f2).length c217_2, .slice A217_3 ((rd_T68 l0_0 x5_1).f3).length c217_3, .int .i64 ((rd_T68 l0_0 x5_1).f4)]] (by rfl) rfl rfl mT ?_
        with_reducible refine (spec_IsValidTask.calls k1 ((rd_T68 l0_0 x5_1).f0) _ _ ((rd_T68 l0_0 x5_1).f1) _ _ ((rd_T68 l0_0 x5_1).f2) _ _ ((rd_T68 l0_0 x5_1).f3) ((rd_T68 l0_0 x5_1).f4) true _ ?side1 ?side2 ?side3 ?side4 ?side5 ?side6 A5.out).mono ?_
        (case side1 => exact cT (Kd.C_below HR217_1.out HB.out))
        (case side2 => exact HC217_1.out)
        (case side3 => exact cT (Kd.C_below HR217_2.out HB.out))
        (case side4 => exact HC217_2.out)
        (case side5 => exact cT (Kd.C_below HR217_3.out HB.out))
        (case side6 => exact HC217_3.out)
        rintro e w15 ⟨rfl, hb⟩
        refine ⟨_, rfl, ?_⟩
        replace BK216 := kB BK216 hb
        replace HB := mA (below_step (bT1 HB GE216) hb)
        (try clear hb)
        (try clear hb2)
        (try clear hk)
        (try clear hi)
        refine hK.out _ _ ⟨(blk_cell BK216.out 0).trans rfl, (blk_cell BK216.out 1).trans rfl, (blk_cell BK216.out 2).trans rfl, ((HB.out.cell (World.block_lt_of_cell? w _ hw217_0)).trans hw217_0), ((HB.out.cell (World.block_lt_of_cell? w _ hw217_1)).trans hw217_1), ((HB.out.cell (World.block_lt_of_cell? w _ hw217_2)).trans hw217_2), ((HB.out.cell (World.block_lt_of_cell? w _ hw217_3)).trans hw217_3), ((HB.out.cell (World.block_lt_of_cell? w _ hw217_4)).trans hw217_4), ((HB.out.cell (World.block_lt_of_cell? w _ hw219_0)).trans hw219_0), ((HB.out.cell (World.block_lt_of_cell? w _ hw219_1)).trans hw219_1), ((HB.out.cell (World.block_lt_of_cell? w _ hw219_2)).trans hw219_2), ((HB.out.cell (World.block_lt_of_cell? w _ hw219_3)).trans hw219_3), ((HB.out.cell (World.block_lt_of_cell? w _ hw219_4)).trans hw219_4), ((HB.out.cell (World.block_lt_of_cell? w _ hw220_0)).trans hw220_0), ((HB.out.cell (World.block_lt_of_cell? w _ hw220_1)).trans hw220_1), ((HB.out.cell (World.block_lt_of_cell? w _ hw220_2)).trans hw220_2), ((HB.out.cell (World.block_lt_of_cell? w _ hw220_3)).trans hw220_3), ((HB.out.cell (World.block_lt_of_cell? w _ hw220_4)).trans hw220_4)⟩ (fun hHeld => ?_)
        clear hK K
        refine norm_ (a' := ?_) ?_ ?_
        rotate_left
        ·
         show Act.put _ (some 18) _ = _
         simp only [Act.put, List.setIfInBounds_toArray, List.set_cons_zero, List.set_cons_succ, i64_w, i32_w]
         rfl
        refine pureT (i := 6) (N := some 19) #[true, true, true, true, true, true, true, false, false, false, false, false, false, false, false, false, false, false, false, false, false] (any_of HT_.out (by kernel_rfl)) ?_
        refine pureT (i := 7) (N := some 20) #[true, true, true, true, true, true, true, true, false, false, false, false, false, false, false, false, false, false, false, false, false] (any_of HT_.out (by kernel_rfl)) ?_
        refine pureT (i := 8) (N := some 21) #[true, true, true, true, true, true, true, true, true, false, false, false, false, false, false, false, false, false, false, false, false] (any_of HT_.out (by kernel_rfl)) ?_
        refine pureT (i := 10) (N := some 23) #[true, true, true, true, true, true, true, true, true, false, true, false, false, false, false, false, false, false, false, false, false] (any_of HT_.out (by kernel_rfl)) ?_
        refine pureT (i := 14) (N := some 27) #[true, true, true, true, true, true, true, true, true, false, true, false, false, false, true, false, false, false, false, false, false] (any_of HT_.out (by kernel_rfl)) ?_
        refine take_ (i := 9) (N := some 22) (v := ?_) (a' := ?_) #[true, true, true, true, true, true, true, true, true, true, true, false, false, false, true, false, false, false, false, false, false] rfl rfl (take_ofW HT_.out HW_.out (by kernel_rfl)) (fun _ _ _ h => h) (Or.inl ⟨by rfl, ?_⟩) hHeld ?_ ?_
        rotate_left
        ·
         rintro w' ⟨s0, s1, s2, s3, s4, s5, s6, s7, s8, s9, s10, s11, s12, s13, s14, s15, s16, s17⟩
         go_simp
         with_reducible rfl
        rotate_left
        ·
         simp only [Act.put, List.setIfInBounds_toArray, List.set_cons_zero, List.set_cons_succ, i64_w, i32_w]
         rfl
        refine pureT (i := 11) (N := some 24) #[true, true, true, true, true, true, true, true, true, true, true, true, false, false, true, false, false, false, false, false, false] (any_of HT_.out (by kernel_rfl)) ?_
        refine pureT (i := 12) (N := some 25) #[true, true, true, true, true, true, true, true, true, true, true, true, true, false, true, false, false, false, false, false, false] (any_of HT_.out (by kernel_rfl)) ?_
        refine take_ (i := 13) (N := some 26) (v := ?_) (a' := ?_) #[true, true, true, true, true, true, true, true, true, true, true, true, true, true, true, false, false, false, false, false, false] rfl rfl (take_ofW HT_.out HW_.out (by kernel_rfl)) (fun _ _ _ h => h) (Or.inl ⟨by rfl, ?_⟩) hHeld ?_ ?_
        rotate_left
        ·
         rintro w' ⟨s0, s1, s2, s3, s4, s5, s6, s7, s8, s9, s10, s11, s12, s13, s14, s15, s16, s17⟩
         go_simp
         with_reducible rfl
        rotate_left
        ·
         simp only [Act.put, List.setIfInBounds_toArray, List.set_cons_zero, List.set_cons_succ, i64_w, i32_w]
         rfl
        refine take_ (i := 15) (N := some 28) (v := ?_) (a' := ?_) #[true, true, true, true, true, true, true, true, true, true, true, true, true, true, true, true, false, false, false, false, false] rfl rfl (take_ofW HT_.out HW_.out (by kernel_rfl)) (fun _ _ _ h => h) (Or.inl ⟨by rfl, ?_⟩) hHeld ?_ ?_
        rotate_left
        ·
         rintro w' ⟨s0, s1, s2, s3, s4, s5, s6, s7, s8, s9, s10, s11, s12, s13, s14, s15, s16, s17⟩
         go_simp
         with_reducible rfl
        rotate_left
        ·
         simp only [Act.put, List.setIfInBounds_toArray, List.set_cons_zero, List.set_cons_succ, i64_w, i32_w]
         rfl
        refine pureT (i := 16) (N := some 29) #[true, true, true, true, true, true, true, true, true, true, true, true, true, true, true, true, true, false, false, false, false] (any_of HT_.out (by kernel_rfl)) ?_
        refine pureT (i := 17) (N := some 30) #[true, true, true, true, true, true, true, true, true, true, true, true, true, true, true, true, true, true, false, false, false] (any_of HT_.out (by kernel_rfl)) ?_
        refine take_ (i := 18) (N := some 31) (v := ?_) (a' := ?_) #[true, true, true, true, true, true, true, true, true, true, true, true, true, true, true, true, true, true, true, false, false] rfl rfl (take_ofW HT_.out HW_.out (by kernel_rfl)) (fun _ _ _ h => h) (Or.inl ⟨by rfl, ?_⟩) hHeld ?_ ?_
        rotate_left
        ·
         rintro w' ⟨s0, s1, s2, s3, s4, s5, s6, s7, s8, s9, s10, s11, s12, s13, s14, s15, s16, s17⟩
         go_simp
         with_reducible rfl
        rotate_left
        ·
         simp only [Act.put, List.setIfInBounds_toArray, List.set_cons_zero, List.set_cons_succ, i64_w, i32_w]
         rfl
        refine pureT (i := 19) (N := some 32) #[true, true, true, true, true, true, true, true, true, true, true, true, true, true, true, true, true, true, true, true, false] (any_of HT_.out (by kernel_rfl)) ?_
        refine pureT (i := 20) (N := some 33) #[true, true, true, true, true, true, true, true, true, true, true, true, true, true, true, true, true, true, true, true, true] (any_of HT_.out (by kernel_rfl)) ?_
        refine done_ (done_of HT_.out (by kernel_rfl)) ?_
        try go_wp2
        go_ret
        exact ⟨eT, bT1 HB GE216⟩
      ·
       rw [if_neg c7] at H
       exact absurd H (by simp)
     ·
      replace c6 := Bool.eq_false_iff.mpr c6
      subst c6
      rw [if_neg (show ¬ (false = true) by decide)] at H
      obtain rfl := Option.some.inj H
      have hcz16_0 : wr.cell? ⟨gb216, 0, none⟩ = some (.slice A0_0 l0_0.length c0_0) := (blk_cell BK216.out 0).trans rfl
      have hcz16_1 : wr.cell? ⟨gb216, 1, none⟩ = some (.int .i64 a0_1) := (blk_cell BK216.out 1).trans rfl
      have hcz16_2 : wr.cell? ⟨gb216, 2, none⟩ = some (.int .i64 a0_2) := (blk_cell BK216.out 2).trans rfl
      have hfz16_0 := blk_frozen BK216.out 0
      have hfz16_1 := blk_frozen BK216.out 1
      have hfz16_2 := blk_frozen BK216.out 2
      try go_wp2
      replace BK216 := mA (blk_drew BK216.out)
      replace HB := mA (below_drew1 HB.out)
      have p217 : 0 ≤ (x5_1 : Int) := of_decide_eq_true aT
      have q217 : x5_1 < (l0_0.length : Int) := of_decide_eq_true aT
      obtain ⟨ad217, A217_1, c217_1, A217_2, c217_2, A217_3, c217_3, e217, hx217_0, hx217_1, hx217_2, hx217_3, hx217_4, hl217_1, hi217_1, hl217_2, hi217_2, hl217_3, hi217_3⟩ := at_T68 HR0_0.out x5_1 p217 q217
      have hw217_4 := hx217_4
      have hw217_3 := hx217_3
      have hw217_2 := hx217_2
      have hw217_1 := hx217_1
      have hw217_0 := hx217_0
      cases e217
      replace hx217_0 := (HB.out.cell (World.block_lt_of_cell? w _ hx217_0)).trans hx217_0
      replace hx217_1 := (HB.out.cell (World.block_lt_of_cell? w _ hx217_1)).trans hx217_1
      replace hx217_2 := (HB.out.cell (World.block_lt_of_cell? w _ hx217_2)).trans hx217_2
      replace hx217_3 := (HB.out.cell (World.block_lt_of_cell? w _ hx217_3)).trans hx217_3
      replace hx217_4 := (HB.out.cell (World.block_lt_of_cell? w _ hx217_4)).trans hx217_4
      have HR217_1 := mA hi217_1
      have HC217_1 := mA hl217_1
      clear hi217_1 hl217_1
      have HR217_2 := mA hi217_2
      have HC217_2 := mA hl217_2
      clear hi217_2 hl217_2
      have HR217_3 := mA hi217_3
      have HC217_3 := mA hl217_3
      clear hi217_3 hl217_3
      replace p217 := eq_true p217
      replace q217 := eq_true q217
      refine start_ (n := 21) (S := fun w' => w'.cell? ⟨gb216, 0, none⟩ = some (.slice (some ad217) l0_0.length c0_0) ∧ w'.cell? ⟨gb216, 1, none⟩ = some (.int .i64 a0_1) ∧ w'.cell? ⟨gb216, 2, none⟩ = some (.int .i64 a0_2) ∧ w'.cell? (ad217.add ((x5_1).toNat * 5)) = some (.int .i64 ((rd_T68 l0_0 x5_1).f0)) ∧ w'.cell? ⟨(ad217.add ((x5_1).toNat * 5)).block, (ad217.add ((x5_1).toNat * 5)).off + 1, none⟩ = some (.slice A217_1 ((rd_T68 l0_0 x5_1).f1).length c217_1) ∧ w'.cell? ⟨(ad217.add ((x5_1).toNat * 5)).block, (ad217.add ((x5_1).toNat * 5)).off + 2, none⟩ = some (.slice A217_2 ((rd_T68 l0_0 x5_1).f2).length c217_2) ∧ w'.cell? ⟨(ad217.add ((x5_1).toNat * 5)).block, (ad217.add ((x5_1).toNat * 5)).off + 3, none⟩ = some (.slice A217_3 ((rd_T68 l0_0 x5_1).f3).length c217_3) ∧ w'.cell? ⟨(ad217.add ((x5_1).toNat * 5)).block, (ad217.add ((x5_1).toNat * 5)).off + 4, none⟩ = some (.int .i64 ((rd_T68 l0_0 x5_1).f4))) (ds := []) #[false, false, false, false, false, false, false, false, false, false, false, false, false, false, false, false, false, false, false, false, false] (by kernel_rfl) rfl rfl ⟨(blk_cell BK216.out 0).trans rfl, (blk_cell BK216.out 1).trans rfl, (blk_cell BK216.out 2).trans rfl, ((HB.out.cell (World.block_lt_of_cell? w _ hw217_0)).trans hw217_0), ((HB.out.cell (World.block_lt_of_cell? w _ hw217_1)).trans hw217_1), ((HB.out.cell (World.block_lt_of_cell? w _ hw217_2)).trans hw217_2), ((HB.out.cell (World.block_lt_of_cell? w _ hw217_3)).trans hw217_3), ((HB.out.cell (World.block_lt_of_cell? w _ hw217_4)).trans hw217_4)⟩ (fun hHeld => ?_); refine with_tabW spec_IsValidJoiner.tab6 spec_IsValidJoiner.bits6 (fun HT_ HW_ => ?_)
      generalize wr.drew = w17 at BK216 HB HR217_1 HR217_2 HR217_3 hx217_0 hx217_1 hx217_2 hx217_3 hx217_4 hHeld ⊢
      refine pureT (i := 0) (N := some 13) #[true, false, false, false, false, false, false, false, false, false, false, false, false, false, false, false, false, false, false, false, false] (any_of HT_.out (by kernel_rfl)) ?_
      refine pureT (i := 2) (N := some 15) #[true, false, true, false, false, false, false, false, false, false, false, false, false, false, false, false, false, false, false, false, false] (any_of HT_.out (by kernel_rfl)) ?_
      refine take_ (i := 1) (N := some 14) (v := ?_) (a' := ?_) #[true, true, true, false, false, false, false, false, false, false, false, false, false, false, false, false, false, false, false, false, false] rfl rfl (take_ofW HT_.out HW_.out (by kernel_rfl)) (fun _ _ _ h => h) (Or.inl ⟨by rfl, ?_⟩) hHeld ?_ ?_
      rotate_left
      ·
       rintro w' ⟨s0, s1, s2, s3, s4, s5, s6, s7⟩
       go_simp
       with_reducible rfl
      rotate_left
      ·
       simp only [Act.put, List.setIfInBounds_toArray, List.set_cons_zero, List.set_cons_succ, i64_w, i32_w]
       rfl
      refine pureT (i := 3) (N := some 16) #[true, true, true, true, false, false, false, false, false, false, false, false, false, false, false, false, false, false, false, false, false] (any_of HT_.out (by kernel_rfl)) ?_
      refine take_ (i := 4) (N := some 17) (v := ?_) (a' := ?_) #[true, true, true, true, true, false, false, false, false, false, false, false, false, false, false, false, false, false, false, false, false] rfl rfl (take_ofW HT_.out HW_.out (by kernel_rfl)) (fun _ _ _ h => h) (Or.inl ⟨by rfl, ?_⟩) hHeld ?_ ?_
      rotate_left
      ·
       rintro w' ⟨s0, s1, s2, s3, s4, s5, s6, s7⟩
       go_simp
       with_reducible rfl
      rotate_left
      ·
       simp only [Act.put, List.setIfInBounds_toArray, List.set_cons_zero, List.set_cons_succ, i64_w, i32_w]
       rfl
      refine one_ (i := 5) (N := some 18) #[true, true, true, true, true, true, false, false, false, false, false, false, false, false, false, false, false, false, false, false, false] rfl rfl (one_of HT_.out (by kernel_rfl)) (by decide) (fun K hK => ?_)
      refine goes_ Try.func45 (by kernel_rfl) rfl #[.agg #[.int .i64 ((rd_T68 l0_0 x5_1).f0), .slice A217_1 ((rd_T68 l0_0 x5_1).f1).length c217_1, .slice A217_2 ((rd_T68 l0_0 x5_1).f2).length c217_2, .slice A217_3 ((rd_T68 l0_0 x5_1).f3).length c217_3, .int .i64 ((rd_T68 l0_0 x5_1).f4)]] (by rfl) rfl rfl mT ?_
      with_reducible refine (spec_IsValidTask.calls k1 ((rd_T68 l0_0 x5_1).f0) _ _ ((rd_T68 l0_0 x5_1).f1) _ _ ((rd_T68 l0_0 x5_1).f2) _ _ ((rd_T68 l0_0 x5_1).f3) ((rd_T68 l0_0 x5_1).f4) false _ ?side1 ?side2 ?side3 ?side4 ?side5 ?side6 A5.out).mono ?_
      (case side1 => exact cT (Kd.C_below HR217_1.out HB.out))
      (case side2 => exact HC217_1.out)
      (case side3 => exact cT (Kd.C_below HR217_2.out HB.out))
      (case side4 => exact HC217_2.out)
      (case side5 => exact cT (Kd.C_below HR217_3.out HB.out))
      (case side6 => exact HC217_3.out)
      rintro e w18 ⟨rfl, hb⟩
      refine ⟨_, rfl, ?_⟩
      replace BK216 := kB BK216 hb
      replace HB := mA (below_step (bT1 HB GE216) hb)
      (try clear hb)
      (try clear hb2)
      (try clear hk)
      (try clear hi)
      refine hK.out _ _ ⟨(blk_cell BK216.out 0).trans rfl, (blk_cell BK216.out 1).trans rfl, (blk_cell BK216.out 2).trans rfl, ((HB.out.cell (World.block_lt_of_cell? w _ hw217_0)).trans hw217_0), ((HB.out.cell (World.block_lt_of_cell? w _ hw217_1)).trans hw217_1), ((HB.out.cell (World.block_lt_of_cell? w _ hw217_2)).trans hw217_2), ((HB.out.cell (World.block_lt_of_cell? w _ hw217_3)).trans hw217_3), ((HB.out.cell (World.block_lt_of_cell? w _ hw217_4)).trans hw217_4)⟩ (fun hHeld => ?_)
      clear hK K
      refine norm_ (a' := ?_) ?_ ?_
      rotate_left
      ·
       show Act.put _ (some 18) _ = _
       simp only [Act.put, List.setIfInBounds_toArray, List.set_cons_zero, List.set_cons_succ, i64_w, i32_w]
       rfl
      refine pureT (i := 6) (N := some 19) #[true, true, true, true, true, true, true, false, false, false, false, false, false, false, false, false, false, false, false, false, false] (any_of HT_.out (by kernel_rfl)) ?_
      refine pureT (i := 7) (N := some 20) #[true, true, true, true, true, true, true, true, false, false, false, false, false, false, false, false, false, false, false, false, false] (any_of HT_.out (by kernel_rfl)) ?_
      refine pure_ (i := 8) (N := some 21) (v := undef) (a' := ?_) #[true, true, true, true, true, true, true, true, true, false, false, false, false, false, false, false, false, false, false, false, false] rfl rfl (any_of HT_.out (by kernel_rfl)) (fun _ _ _ h => h) (Or.inr ⟨by rfl, rfl⟩) ?_ ?_
      rotate_left
      ·
       simp only [Act.put, List.setIfInBounds_toArray, List.set_cons_zero, List.set_cons_succ, i64_w, i32_w]
       rfl
      refine pure_ (i := 9) (N := some 22) (v := undef) (a' := ?_) #[true, true, true, true, true, true, true, true, true, true, false, false, false, false, false, false, false, false, false, false, false] rfl rfl (any_of HT_.out (by kernel_rfl)) (fun _ _ _ h => h) (Or.inr ⟨by rfl, rfl⟩) ?_ ?_
      rotate_left
      ·
       simp only [Act.put, List.setIfInBounds_toArray, List.set_cons_zero, List.set_cons_succ, i64_w, i32_w]
       rfl
      refine pure_ (i := 10) (N := some 23) (v := undef) (a' := ?_) #[true, true, true, true, true, true, true, true, true, true, true, false, false, false, false, false, false, false, false, false, false] rfl rfl (any_of HT_.out (by kernel_rfl)) (fun _ _ _ h => h) (Or.inr ⟨by rfl, rfl⟩) ?_ ?_
      rotate_left
      ·
       simp only [Act.put, List.setIfInBounds_toArray, List.set_cons_zero, List.set_cons_succ, i64_w, i32_w]
       rfl
      refine pure_ (i := 11) (N := some 24) (v := undef) (a' := ?_) #[true, true, true, true, true, true, true, true, true, true, true, true, false, false, false, false, false, false, false, false, false] rfl rfl (any_of HT_.out (by kernel_rfl)) (fun _ _ _ h => h) (Or.inr ⟨by rfl, rfl⟩) ?_ ?_
      rotate_left
      ·
       simp only [Act.put, List.setIfInBounds_toArray, List.set_cons_zero, List.set_cons_succ, i64_w, i32_w]
       rfl
      refine pure_ (i := 12) (N := some 25) (v := undef) (a' := ?_) #[true, true, true, true, true, true, true, true, true, true, true, true, true, false, false, false, false, false, false, false, false] rfl rfl (any_of HT_.out (by kernel_rfl)) (fun _ _ _ h => h) (Or.inr ⟨by rfl, rfl⟩) ?_ ?_
      rotate_left
      ·
       simp only [Act.put, List.setIfInBounds_toArray, List.set_cons_zero, List.set_cons_succ, i64_w, i32_w]
       rfl
      refine pure_ (i := 13) (N := some 26) (v := undef) (a' := ?_) #[true, true, true, true, true, true, true, true, true, true, true, true, true, true, false, false, false, false, false, false, false] rfl rfl (any_of HT_.out (by kernel_rfl)) (fun _ _ _ h => h) (Or.inr ⟨by rfl, rfl⟩) ?_ ?_
      rotate_left
      ·
       simp only [Act.put, List.setIfInBounds_toArray, List.set_cons_zero, List.set_cons_succ, i64_w, i32_w]
       rfl
      refine pure_ (i := 14) (N := some 27) (v := undef) (a' := ?_) #[true, true, true, true, true, true, true, true, true, true, true, true, true, true, true, false, false, false, false, false, false] rfl rfl (any_of HT_.out (by kernel_rfl)) (fun _ _ _ h => h) (Or.inr ⟨by rfl, rfl⟩) ?_ ?_
      rotate_left
      ·
       simp only [Act.put, List.setIfInBounds_toArray, List.set_cons_zero, List.set_cons_succ, i64_w, i32_w]
       rfl
      refine pure_ (i := 15) (N := some 28) (v := undef) (a' := ?_) #[true, true, true, true, true, true, true, true, true, true, true, true, true, true, true, true, false, false, false, false, false] rfl rfl (any_of HT_.out (by kernel_rfl)) (fun _ _ _ h => h) (Or.inr ⟨by rfl, rfl⟩) ?_ ?_
      rotate_left
      ·
       simp only [Act.put, List.setIfInBounds_toArray, List.set_cons_zero, List.set_cons_succ, i64_w, i32_w]
       rfl
      refine pure_ (i := 16) (N := some 29) (v := undef) (a' := ?_) #[true, true, true, true, true, true, true, true, true, true, true, true, true, true, true, true, true, false, false, false, false] rfl rfl (any_of HT_.out (by kernel_rfl)) (fun _ _ _ h => h) (Or.inr ⟨by rfl, rfl⟩) ?_ ?_
      rotate_left
      ·
       simp only [Act.put, List.setIfInBounds_toArray, List.set_cons_zero, List.set_cons_succ, i64_w, i32_w]
       rfl
      refine pure_ (i := 17) (N := some 30) (v := undef) (a' := ?_) #[true, true, true, true, true, true, true, true, true, true, true, true, true, true, true, true, true, true, false, false, false] rfl rfl (any_of HT_.out (by kernel_rfl)) (fun _ _ _ h => h) (Or.inr ⟨by rfl, rfl⟩) ?_ ?_
      rotate_left
      ·
       simp only [Act.put, List.setIfInBounds_toArray, List.set_cons_zero, List.set_cons_succ, i64_w, i32_w]
       rfl
      refine pure_ (i := 18) (N := some 31) (v := undef) (a' := ?_) #[true, true, true, true, true, true, true, true, true, true, true, true, true, true, true, true, true, true, true, false, false] rfl rfl (any_of HT_.out (by kernel_rfl)) (fun _ _ _ h => h) (Or.inr ⟨by rfl, rfl⟩) ?_ ?_
      rotate_left
      ·
       simp only [Act.put, List.setIfInBounds_toArray, List.set_cons_zero, List.set_cons_succ, i64_w, i32_w]
       rfl
      refine pure_ (i := 19) (N := some 32) (v := undef) (a' := ?_) #[true, true, true, true, true, true, true, true, true, true, true, true, true, true, true, true, true, true, true, true, false] rfl rfl (any_of HT_.out (by kernel_rfl)) (fun _ _ _ h => h) (Or.inr ⟨by rfl, rfl⟩) ?_ ?_
      rotate_left
      ·
       simp only [Act.put, List.setIfInBounds_toArray, List.set_cons_zero, List.set_cons_succ, i64_w, i32_w]
       rfl
      refine pureT (i := 20) (N := some 33) #[true, true, true, true, true, true, true, true, true, true, true, true, true, true, true, true, true, true, true, true, true] (any_of HT_.out (by kernel_rfl)) ?_
      refine done_ (done_of HT_.out (by kernel_rfl)) ?_
      try go_wp2
      go_ret
      exact ⟨eT, bT1 HB GE216⟩
    ·
     rw [if_neg c4] at H
     exact absurd H (by simp)
   ·
    rw [if_neg c3] at H
    have c3b0 : decide (x5_1 < (l0_0.length : Int)) = false := decide_eq_false c3
    clear c3
    by_cases c19 : x3_1 ≤ 24
    ·
     rw [if_pos c19] at H
     have c19b0 : decide (x3_1 ≤ 24) = true := decide_eq_true c19
     clear c19
     by_cases c20 : x4_1 ≤ 24
     ·
      rw [if_pos c20] at H
      have c20b0 : decide (x4_1 ≤ 24) = true := decide_eq_true c20
      clear c20
      by_cases c21 : (l0_0.length : Int) ≤ 40
      ·
       rw [if_pos c21] at H
       have c21b0 : decide ((l0_0.length : Int) ≤ 40) = true := decide_eq_true c21
       have c21b1 : decide (l0_0.length ≤ 40) = true := decide_eq_true (by omega)
       clear c21
       obtain ⟨t223, A22, H⟩ := Option.bind_eq_some_iff.mp H
       replace A22 := mA A22
       try dsimp only at H
       by_cases c23 : t223 = true
       ·
        subst c23
        rw [if_pos rfl] at H
        obtain ⟨t224, A24, H⟩ := Option.bind_eq_some_iff.mp H
        replace A24 := mA A24
        replace H : (some t224) = some r := H
        obtain rfl := Option.some.inj H
        have hcz25_0 : wr.cell? ⟨gb216, 0, none⟩ = some (.slice A0_0 l0_0.length c0_0) := (blk_cell BK216.out 0).trans rfl
        have hcz25_1 : wr.cell? ⟨gb216, 1, none⟩ = some (.int .i64 a0_1) := (blk_cell BK216.out 1).trans rfl
        have hcz25_2 : wr.cell? ⟨gb216, 2, none⟩ = some (.int .i64 a0_2) := (blk_cell BK216.out 2).trans rfl
        have hfz25_0 := blk_frozen BK216.out 0
        have hfz25_1 := blk_frozen BK216.out 1
        have hfz25_2 := blk_frozen BK216.out 2
        go_wp2_with (first | (go_at_call 46; (with_reducible refine (spec_l1In.calls a0_1 0 100000 true _ A22.out).mono ?_); rintro e w' ⟨rfl, ⟨nd, rfl⟩⟩) | (go_at_call 46; (with_reducible refine (spec_l1In.calls a0_2 0 1000 t224 _ A24.out).mono ?_); rintro e w' ⟨rfl, ⟨nd, rfl⟩⟩))
        go_ret
        exact ⟨eT, bT1 HB GE216⟩
       ·
        replace c23 := Bool.eq_false_iff.mpr c23
        subst c23
        rw [if_neg (show ¬ (false = true) by decide)] at H
        obtain rfl := Option.some.inj H
        have hcz26_0 : wr.cell? ⟨gb216, 0, none⟩ = some (.slice A0_0 l0_0.length c0_0) := (blk_cell BK216.out 0).trans rfl
        have hcz26_1 : wr.cell? ⟨gb216, 1, none⟩ = some (.int .i64 a0_1) := (blk_cell BK216.out 1).trans rfl
        have hcz26_2 : wr.cell? ⟨gb216, 2, none⟩ = some (.int .i64 a0_2) := (blk_cell BK216.out 2).trans rfl
        have hfz26_0 := blk_frozen BK216.out 0
        have hfz26_1 := blk_frozen BK216.out 1
        have hfz26_2 := blk_frozen BK216.out 2
        go_wp2_with (first | (go_at_call 46; (with_reducible refine (spec_l1In.calls a0_1 0 100000 false _ A22.out).mono ?_); rintro e w' ⟨rfl, ⟨nd, rfl⟩⟩))
        go_ret
        exact ⟨eT, bT1 HB GE216⟩
      ·
       rw [if_neg c21] at H
       have c21b0 : decide ((l0_0.length : Int) ≤ 40) = false := decide_eq_false c21
       have c21b1 : decide (l0_0.length ≤ 40) = false := decide_eq_false (by omega)
       clear c21
       obtain rfl := Option.some.inj H
       have hcz27_0 : wr.cell? ⟨gb216, 0, none⟩ = some (.slice A0_0 l0_0.length c0_0) := (blk_cell BK216.out 0).trans rfl
       have hcz27_1 : wr.cell? ⟨gb216, 1, none⟩ = some (.int .i64 a0_1) := (blk_cell BK216.out 1).trans rfl
       have hcz27_2 : wr.cell? ⟨gb216, 2, none⟩ = some (.int .i64 a0_2) := (blk_cell BK216.out 2).trans rfl
       have hfz27_0 := blk_frozen BK216.out 0
       have hfz27_1 := blk_frozen BK216.out 1
       have hfz27_2 := blk_frozen BK216.out 2
       go_wp2
       go_ret
       exact ⟨eT, bT1 HB GE216⟩
     ·
      rw [if_neg c20] at H
      have c20b0 : decide (x4_1 ≤ 24) = false := decide_eq_false c20
      clear c20
      obtain rfl := Option.some.inj H
      have hcz28_0 : wr.cell? ⟨gb216, 0, none⟩ = some (.slice A0_0 l0_0.length c0_0) := (blk_cell BK216.out 0).trans rfl
      have hcz28_1 : wr.cell? ⟨gb216, 1, none⟩ = some (.int .i64 a0_1) := (blk_cell BK216.out 1).trans rfl
      have hcz28_2 : wr.cell? ⟨gb216, 2, none⟩ = some (.int .i64 a0_2) := (blk_cell BK216.out 2).trans rfl
      have hfz28_0 := blk_frozen BK216.out 0
      have hfz28_1 := blk_frozen BK216.out 1
      have hfz28_2 := blk_frozen BK216.out 2
      go_wp2
      go_ret
      exact ⟨eT, bT1 HB GE216⟩
    ·
     rw [if_neg c19] at H
     have c19b0 : decide (x3_1 ≤ 24) = false := decide_eq_false c19
     clear c19
     obtain rfl := Option.some.inj H
     have hcz29_0 : wr.cell? ⟨gb216, 0, none⟩ = some (.slice A0_0 l0_0.length c0_0) := (blk_cell BK216.out 0).trans rfl
     have hcz29_1 : wr.cell? ⟨gb216, 1, none⟩ = some (.int .i64 a0_1) := (blk_cell BK216.out 1).trans rfl
     have hcz29_2 : wr.cell? ⟨gb216, 2, none⟩ = some (.int .i64 a0_2) := (blk_cell BK216.out 2).trans rfl
     have hfz29_0 := blk_frozen BK216.out 0
     have hfz29_1 := blk_frozen BK216.out 1
     have hfz29_2 := blk_frozen BK216.out 2
     go_wp2
     go_ret
     exact ⟨eT, bT1 HB GE216⟩

/-! ### impl_IsValidTask: function 48 -/
def impl_IsValidTask.f (k : Nat) (a0_0 : Int) (l0_1 : List (S77)) (l0_2 : List (S77)) (l0_3 : List Bool) (a0_4 : Int) : Option (Bool) := (impl_IsValidJoinKind.f a0_0).bind fun t235 => (if t235 = true then ((impl_AreValidRows.f k l0_1).bind fun t236 => (if t236 = true then ((impl_AreValidRows.f k l0_2).bind fun t237 => (if t237 = true then (if (l0_3.length : Int) = (l0_1.length : Int) then ((impl_within.f a0_4 0 4).bind fun t238 => (some t238)) else (some false)) else (some false))) else (some false))) else (some false))
theorem impl_IsValidTask.mono : ∀ a0 a1 a2 a3 a4 k, LeO (impl_IsValidTask.f k a0 a1 a2 a3 a4) (impl_IsValidTask.f (k + 1) a0 a1 a2 a3 a4) := by
 intro a0 a1 a2 a3 a4 k
 unfold impl_IsValidTask.f
 repeat' first
   | (with_reducible exact impl_AreValidRows.mono _ _)
   | (with_reducible exact LeO.refl _)
   | (with_reducible exact LeO.none _)
   | (with_reducible refine LeO.ite ?_ ?_)
   | (with_reducible refine LeO.bind ?_ (fun _ => ?_))
   | exact impl_AreValidRows.mono _ _
   | exact LeO.none _
   | refine LeO.ite ?_ ?_
   | refine LeO.bind ?_ (fun _ => ?_)
set_option maxHeartbeats 8000000 in
set_option maxRecDepth 100000 in
theorem impl_IsValidTask.calls (k : Nat) (a0_0 : Int) (A0_1 : Option Addr) (c0_1 : Nat) (l0_1 : List (S77)) (A0_2 : Option Addr) (c0_2 : Nat) (l0_2 : List (S77)) (A0_3 : Option Addr) (c0_3 : Nat) (l0_3 : List Bool) (a0_4 : Int) (r : Bool) (w : World) (hr0_1 : Kd.C k77 w A0_1 l0_1.length l0_1) (hc0_1 : l0_1.length ≤ c0_1) (hr0_2 : Kd.C k77 w A0_2 l0_2.length l0_2) (hc0_2 : l0_2.length ≤ c0_2) (hr0_3 : Kd.C Kd.bool w A0_3 l0_3.length l0_3) (hc0_3 : l0_3.length ≤ c0_3) (h : impl_IsValidTask.f k a0_0 l0_1 l0_2 l0_3 a0_4 = some r) :
  Calls Try.prog 48 #[.agg #[.int .i64 a0_0, .slice A0_1 l0_1.length c0_1, .slice A0_2 l0_2.length c0_2, .slice A0_3 l0_3.length c0_3, .int .i64 a0_4]] w fun e w' => e = .returned (.bool r) ∧ Below w.heap.size w w' := by
 have hu68 := Try.underlying68
 have HR0_1 := mA hr0_1
 have HC0_1 := mA hc0_1
 clear hr0_1 hc0_1
 have HR0_2 := mA hr0_2
 have HC0_2 := mA hc0_2
 clear hr0_2 hc0_2
 have HR0_3 := mA hr0_3
 have HC0_3 := mA hc0_3
 clear hr0_3 hc0_3
 have HB := mA (Below.refl w.heap.size w)
 have H : ((impl_IsValidJoinKind.f a0_0).bind fun t235 => (if t235 = true then ((impl_AreValidRows.f k l0_1).bind fun t236 => (if t236 = true then ((impl_AreValidRows.f k l0_2).bind fun t237 => (if t237 = true then (if (l0_3.length : Int) = (l0_1.length : Int) then ((impl_within.f a0_4 0 4).bind fun t238 => (some t238)) else (some false)) else (some false))) else (some false))) else (some false))) = some r := h
 clear h
 obtain ⟨t235, A2, H⟩ := Option.bind_eq_some_iff.mp H
 replace A2 := mA A2
 try dsimp only at H
 by_cases c3 : t235 = true
 ·
  subst c3
  rw [if_pos rfl] at H
  obtain ⟨t236, A4, H⟩ := Option.bind_eq_some_iff.mp H
  replace A4 := mA A4
  try dsimp only at H
  by_cases c5 : t236 = true
  ·
   subst c5
   rw [if_pos rfl] at H
   obtain ⟨t237, A6, H⟩ := Option.bind_eq_some_iff.mp H
   replace A6 := mA A6
   try dsimp only at H
   by_cases c7 : t237 = true
   ·
    subst c7
    rw [if_pos rfl] at H
    by_cases c8 : (l0_3.length : Int) = (l0_1.length : Int)
    ·
     rw [if_pos c8] at H
     have c8b0 : ((l0_3.length : Int) == (l0_1.length : Int)) = true := beq_iff_eq.mpr c8
     have c8b1 : ((l0_3.length : Int) != (l0_1.length : Int)) = false := bne_eq_false_iff_eq.mpr c8
     have c8b2 : (l0_3.length == l0_1.length) = true := by first | simpa using c8 | (simp at c8 ⊢; omega)
     clear c8
     obtain ⟨t238, A9, H⟩ := Option.bind_eq_some_iff.mp H
     replace A9 := mA A9
     replace H : (some t238) = some r := H
     obtain rfl := Option.some.inj H
     go_enter Try.func48, Try.ntmps48
     go_wp2_with (first | ((with_reducible refine gate_dst (N := 1) rfl ?_); (try (refine gate_guard (by rfl) ?_; dsimp only)); refine boxT 1 #[.int .i64 a0_0, .slice A0_1 l0_1.length c0_1, .slice A0_2 l0_2.length c0_2, .slice A0_3 l0_3.length c0_3, .int .i64 a0_4] 68 ?_; intro gb234 hg w10 hbox hb; have BK234 := mA (hbox); have GW234 := mA ((by rw [hg]; exact (below_size (bT HB)) : w.heap.size ≤ gb234)); have GE234 := GW234; replace HB := mA (below_step (bT HB) hb); clear hb hbox hg; obtain ⟨hcz11_0, hcz11_1, hcz11_2, hcz11_3, hcz11_4, hfz11_0, hfz11_1, hfz11_2, hfz11_3, hfz11_4⟩ := blk5 BK234.out) | ((with_reducible refine gate_callee (f := 86) rfl ?_); refine goesT (some 5) Try.func86 #[.int .i64 a0_0] ?_; (with_reducible refine (impl_IsValidJoinKind.calls a0_0 true _ A2.out).mono ?_); rintro e w' ⟨rfl, ⟨nd, rfl⟩⟩; refine ⟨_, rfl, ?_⟩) | (go_at_call 87; (with_reducible refine (impl_AreValidRows.calls k _ _ l0_1 true _ ?side1 ?side2 A4.out).mono ?_); (case side1 => exact cT (Kd.C_below HR0_1.out (bT1 HB GE234))); (case side2 => exact HC0_1.out); rintro e w12 ⟨rfl, hb⟩; replace BK234 := kB BK234 hb; replace HB := mA (below_step (bT1 HB GE234) hb); (try clear hb); obtain ⟨hcz13_0, hcz13_1, hcz13_2, hcz13_3, hcz13_4, hfz13_0, hfz13_1, hfz13_2, hfz13_3, hfz13_4⟩ := blk5 BK234.out) | (go_at_call 87; (with_reducible refine (impl_AreValidRows.calls k _ _ l0_2 true _ ?side1 ?side2 A6.out).mono ?_); (case side1 => exact cT (Kd.C_below HR0_2.out HB.out)); (case side2 => exact HC0_2.out); rintro e w14 ⟨rfl, hb⟩; replace BK234 := kB BK234 hb; replace HB := mA (below_step (bT1 HB GE234) hb); (try clear hb); obtain ⟨hcz15_0, hcz15_1, hcz15_2, hcz15_3, hcz15_4, hfz15_0, hfz15_1, hfz15_2, hfz15_3, hfz15_4⟩ := blk5 BK234.out) | (go_at_call 47; (with_reducible refine (impl_within.calls a0_4 0 4 t238 _ A9.out).mono ?_); rintro e w' ⟨rfl, ⟨nd, rfl⟩⟩))
     go_ret
     exact ⟨eT, bT1 HB GE234⟩
    ·
     rw [if_neg c8] at H
     have c8b0 : ((l0_3.length : Int) == (l0_1.length : Int)) = false := beq_eq_false_iff_ne.mpr c8
     have c8b1 : ((l0_3.length : Int) != (l0_1.length : Int)) = true := bne_iff_ne.mpr c8
     have c8b2 : (l0_3.length == l0_1.length) = false := by first | simpa using c8 | (simp at c8 ⊢; omega)
     obtain rfl := Option.some.inj H
     go_enter Try.func48, Try.ntmps48
     go_wp2_with (first | ((with_reducible refine gate_dst (N := 1) rfl ?_); (try (refine gate_guard (by rfl) ?_; dsimp only)); refine boxT 1 #[.int .i64 a0_0, .slice A0_1 l0_1.length c0_1, .slice A0_2 l0_2.length c0_2, .slice A0_3 l0_3.length c0_3, .int .i64 a0_4] 68 ?_; intro gb234 hg w16 hbox hb; have BK234 := mA (hbox); have GW234 := mA ((by rw [hg]; exact (below_size (bT HB)) : w.heap.size ≤ gb234)); have GE234 := GW234; replace HB := mA (below_step (bT HB) hb); clear hb hbox hg; obtain ⟨hcz17_0, hcz17_1, hcz17_2, hcz17_3, hcz17_4, hfz17_0, hfz17_1, hfz17_2, hfz17_3, hfz17_4⟩ := blk5 BK234.out) | ((with_reducible refine gate_callee (f := 86) rfl ?_); refine goesT (some 5) Try.func86 #[.int .i64 a0_0] ?_; (with_reducible refine (impl_IsValidJoinKind.calls a0_0 true _ A2.out).mono ?_); rintro e w' ⟨rfl, ⟨nd, rfl⟩⟩; refine ⟨_, rfl, ?_⟩) | (go_at_call 87; (with_reducible refine (impl_AreValidRows.calls k _ _ l0_1 true _ ?side1 ?side2 A4.out).mono ?_); (case side1 => exact cT (Kd.C_below HR0_1.out (bT1 HB GE234))); (case side2 => exact HC0_1.out); rintro e w18 ⟨rfl, hb⟩; replace BK234 := kB BK234 hb; replace HB := mA (below_step (bT1 HB GE234) hb); (try clear hb); obtain ⟨hcz19_0, hcz19_1, hcz19_2, hcz19_3, hcz19_4, hfz19_0, hfz19_1, hfz19_2, hfz19_3, hfz19_4⟩ := blk5 BK234.out) | (go_at_call 87; (with_reducible refine (impl_AreValidRows.calls k _ _ l0_2 true _ ?side1 ?side2 A6.out).mono ?_); (case side1 => exact cT (Kd.C_below HR0_2.out HB.out)); (case side2 => exact HC0_2.out); rintro e w20 ⟨rfl, hb⟩; replace BK234 := kB BK234 hb; replace HB := mA (below_step (bT1 HB GE234) hb); (try clear hb); obtain ⟨hcz21_0, hcz21_1, hcz21_2, hcz21_3, hcz21_4, hfz21_0, hfz21_1, hfz21_2, hfz21_3, hfz21_4⟩ := blk5 BK234.out))
     go_ret
     exact ⟨eT, bT1 HB GE234⟩
   ·
    replace c7 := Bool.eq_false_iff.mpr c7
    subst c7
    rw [if_neg (show ¬ (false = true) by decide)] at H
    obtain rfl := Option.some.inj H
    go_enter Try.func48, Try.ntmps48
    go_wp2_with (first | ((with_reducible refine gate_dst (N := 1) rfl ?_); (try (refine gate_guard (by rfl) ?_; dsimp only)); refine boxT 1 #[.int .i64 a0_0, .slice A0_1 l0_1.length c0_1, .slice A0_2 l0_2.length c0_2, .slice A0_3 l0_3.length c0_3, .int .i64 a0_4] 68 ?_; intro gb234 hg w22 hbox hb; have BK234 := mA (hbox); have GW234 := mA ((by rw [hg]; exact (below_size (bT HB)) : w.heap.size ≤ gb234)); have GE234 := GW234; replace HB := mA (below_step (bT HB) hb); clear hb hbox hg; obtain ⟨hcz23_0, hcz23_1, hcz23_2, hcz23_3, hcz23_4, hfz23_0, hfz23_1, hfz23_2, hfz23_3, hfz23_4⟩ := blk5 BK234.out) | ((with_reducible refine gate_callee (f := 86) rfl ?_); refine goesT (some 5) Try.func86 #[.int .i64 a0_0] ?_; (with_reducible refine (impl_IsValidJoinKind.calls a0_0 true _ A2.out).mono ?_); rintro e w' ⟨rfl, ⟨nd, rfl⟩⟩; refine ⟨_, rfl, ?_⟩) | (go_at_call 87; (with_reducible refine (impl_AreValidRows.calls k _ _ l0_1 true _ ?side1 ?side2 A4.out).mono ?_); (case side1 => exact cT (Kd.C_below HR0_1.out (bT1 HB GE234))); (case side2 => exact HC0_1.out); rintro e w24 ⟨rfl, hb⟩; replace BK234 := kB BK234 hb; replace HB := mA (below_step (bT1 HB GE234) hb); (try clear hb); obtain ⟨hcz25_0, hcz25_1, hcz25_2, hcz25_3, hcz25_4, hfz25_0, hfz25_1, hfz25_2, hfz25_3, hfz25_4⟩ := blk5 BK234.out) | (go_at_call 87; (with_reducible refine (impl_AreValidRows.calls k _ _ l0_2 false _ ?side1 ?side2 A6.out).mono ?_); (case side1 => exact cT (Kd.C_below HR0_2.out HB.out)); (case side2 => exact HC0_2.out); rintro e w26 ⟨rfl, hb⟩; replace HB := mA (below_step (bT1 HB GE234) hb); (try clear hb)))
    go_ret
    exact ⟨eT, bT1 HB GE234⟩
  ·
   replace c5 := Bool.eq_false_iff.mpr c5
   subst c5
   rw [if_neg (show ¬ (false = true) by decide)] at H
   obtain rfl := Option.some.inj H
   go_enter Try.func48, Try.ntmps48
   go_wp2_with (first | ((with_reducible refine gate_dst (N := 1) rfl ?_); (try (refine gate_guard (by rfl) ?_; dsimp only)); refine boxT 1 #[.int .i64 a0_0, .slice A0_1 l0_1.length c0_1, .slice A0_2 l0_2.length c0_2, .slice A0_3 l0_3.length c0_3, .int .i64 a0_4] 68 ?_; intro gb234 hg w27 hbox hb; have BK234 := mA (hbox); have GW234 := mA ((by rw [hg]; exact (below_size (bT HB)) : w.heap.size ≤ gb234)); have GE234 := GW234; replace HB := mA (below_step (bT HB) hb); clear hb hbox hg; obtain ⟨hcz28_0, hcz28_1, hcz28_2, hcz28_3, hcz28_4, hfz28_0, hfz28_1, hfz28_2, hfz28_3, hfz28_4⟩ := blk5 BK234.out) | ((with_reducible refine gate_callee (f := 86) rfl ?_); refine goesT (some 5) Try.func86 #[.int .i64 a0_0] ?_; (with_reducible refine (impl_IsValidJoinKind.calls a0_0 true _ A2.out).mono ?_); rintro e w' ⟨rfl, ⟨nd, rfl⟩⟩; refine ⟨_, rfl, ?_⟩) | (go_at_call 87; (with_reducible refine (impl_AreValidRows.calls k _ _ l0_1 false _ ?side1 ?side2 A4.out).mono ?_); (case side1 => exact cT (Kd.C_below HR0_1.out (bT1 HB GE234))); (case side2 => exact HC0_1.out); rintro e w29 ⟨rfl, hb⟩; replace HB := mA (below_step (bT1 HB GE234) hb); (try clear hb)))
   go_ret
   exact ⟨eT, bT1 HB GE234⟩
 ·
  replace c3 := Bool.eq_false_iff.mpr c3
  subst c3
  rw [if_neg (show ¬ (false = true) by decide)] at H
  obtain rfl := Option.some.inj H
  go_enter Try.func48, Try.ntmps48
  go_wp2_with (first | ((with_reducible refine gate_dst (N := 1) rfl ?_); (try (refine gate_guard (by rfl) ?_; dsimp only)); refine boxT 1 #[.int .i64 a0_0, .slice A0_1 l0_1.length c0_1, .slice A0_2 l0_2.length c0_2, .slice A0_3 l0_3.length c0_3, .int .i64 a0_4] 68 ?_; intro gb234 hg w30 hbox hb; have BK234 := mA (hbox); have GW234 := mA ((by rw [hg]; exact (below_size (bT HB)) : w.heap.size ≤ gb234)); have GE234 := GW234; replace HB := mA (below_step (bT HB) hb); clear hb hbox hg; obtain ⟨hcz31_0, hcz31_1, hcz31_2, hcz31_3, hcz31_4, hfz31_0, hfz31_1, hfz31_2, hfz31_3, hfz31_4⟩ := blk5 BK234.out) | ((with_reducible refine gate_callee (f := 86) rfl ?_); refine goesT (some 5) Try.func86 #[.int .i64 a0_0] ?_; (with_reducible refine (impl_IsValidJoinKind.calls a0_0 false _ A2.out).mono ?_); rintro e w' ⟨rfl, ⟨nd, rfl⟩⟩; refine ⟨_, rfl, ?_⟩))
  go_ret
  exact ⟨eT, bT1 HB GE234⟩

/-! ### impl_IsValidJoiner: function 16 -/
mutual
def impl_IsValidJoiner.j0 : Nat → Bool → List (S68) → Int → Int → Option (Bool)
 | 0, _, _, _, _ => none
 | k + 1, x22, x240000, x240001, x240002 => if x22 = true then (some false) else (impl_IsValidJoiner.l0 k 0 0 x240000 (x240000.length : Int) 0 x240000 x240001 x240002)
def impl_IsValidJoiner.l0 : Nat → Int → Int → List (S68) → Int → Int → List (S68) → Int → Int → Option (Bool)
 | 0, _, _, _, _, _, _, _, _ => none
 | k + 1, x3, x4, x24, x25, x26, x240000, x240001, x240002 => if x26 < x25 then (if 0 ≤ x26 then (if x26 < (x24.length : Int) then ((impl_IsValidTask.f k ((rd_T68 x24 x26).f0) ((rd_T68 x24 x26).f1) ((rd_T68 x24 x26).f2) ((rd_T68 x24 x26).f3) ((rd_T68 x24 x26).f4)).bind fun t244 => (if t244 = true then (if 0 < (x240000.length : Int) then (if ((rd_T68 x24 x26).f0) = ((rd_T68 x240000 0).f0) then (impl_IsValidJoiner.l0 k (wrap64 (x3 + (((rd_T68 x24 x26).f1).length : Int))) (wrap64 (x4 + (((rd_T68 x24 x26).f2).length : Int))) x24 x25 (wrap64 (x26 + 1)) x240000 x240001 x240002) else (some false)) else (none)) else (some false))) else (none)) else (none)) else (if x3 ≤ 24 then (some (decide (x4 ≤ 24))) else (some false))
end
def impl_IsValidJoiner.f (k : Nat) (l0_0 : List (S68)) (a0_1 : Int) (a0_2 : Int) : Option (Bool) := if (l0_0.length : Int) > 40 then (impl_IsValidJoiner.j0 k true l0_0 a0_1 a0_2) else ((impl_within.f a0_1 0 100000).bind fun t240 => (if t240 = true then ((impl_within.f a0_2 0 1000).bind fun t241 => (impl_IsValidJoiner.j0 k (!t241) l0_0 a0_1 a0_2)) else (impl_IsValidJoiner.j0 k true l0_0 a0_1 a0_2)))
theorem impl_IsValidJoiner.mono_l : ∀ k, (∀ y0 y1 y2 y3, LeO (impl_IsValidJoiner.j0 k y0 y1 y2 y3) (impl_IsValidJoiner.j0 (k + 1) y0 y1 y2 y3)) ∧ (∀ y0 y1 y2 y3 y4 y5 y6 y7, LeO (impl_IsValidJoiner.l0 k y0 y1 y2 y3 y4 y5 y6 y7) (impl_IsValidJoiner.l0 (k + 1) y0 y1 y2 y3 y4 y5 y6 y7))
 | 0 => ⟨fun _ _ _ _ r h => by simp [impl_IsValidJoiner.j0] at h, fun _ _ _ _ _ _ _ _ r h => by simp [impl_IsValidJoiner.l0] at h⟩
 | k + 1 => by
  obtain ⟨ih0, ih1⟩ := impl_IsValidJoiner.mono_l k
  refine ⟨?_, ?_⟩
  ·
   intro y0 y1 y2 y3
   unfold impl_IsValidJoiner.j0
   repeat' first
   | (with_reducible exact ih0 _ _ _ _)
   | (with_reducible exact ih1 _ _ _ _ _ _ _ _)
   | (with_reducible exact impl_IsValidTask.mono _ _ _ _ _ _)
   | (with_reducible exact LeO.refl _)
   | (with_reducible exact LeO.none _)
   | (with_reducible refine LeO.ite ?_ ?_)
   | (with_reducible refine LeO.bind ?_ (fun _ => ?_))
   | exact ih0 _ _ _ _
   | exact ih1 _ _ _ _ _ _ _ _
   | exact impl_IsValidTask.mono _ _ _ _ _ _
   | exact LeO.none _
   | refine LeO.ite ?_ ?_
   | refine LeO.bind ?_ (fun _ => ?_)
  ·
   intro y0 y1 y2 y3 y4 y5 y6 y7
   unfold impl_IsValidJoiner.l0
   repeat' first
   | (with_reducible exact ih0 _ _ _ _)
   | (with_reducible exact ih1 _ _ _ _ _ _ _ _)
   | (with_reducible exact impl_IsValidTask.mono _ _ _ _ _ _)
   | (with_reducible exact LeO.refl _)
   | (with_reducible exact LeO.none _)
   | (with_reducible refine LeO.ite ?_ ?_)
   | (with_reducible refine LeO.bind ?_ (fun _ => ?_))
   | exact ih0 _ _ _ _
   | exact ih1 _ _ _ _ _ _ _ _
   | exact impl_IsValidTask.mono _ _ _ _ _ _
   | exact LeO.none _
   | refine LeO.ite ?_ ?_
   | refine LeO.bind ?_ (fun _ => ?_)
theorem impl_IsValidJoiner.mono : ∀ a0 a1 a2 k, LeO (impl_IsValidJoiner.f k a0 a1 a2) (impl_IsValidJoiner.f (k + 1) a0 a1 a2) := by
 intro a0 a1 a2 k
 obtain ⟨ih0, ih1⟩ := impl_IsValidJoiner.mono_l k
 unfold impl_IsValidJoiner.f
 repeat' first
   | (with_reducible exact ih0 _ _ _ _)
   | (with_reducible exact ih1 _ _ _ _ _ _ _ _)
   | (with_reducible exact impl_IsValidTask.mono _ _ _ _ _ _)
   | (with_reducible exact LeO.refl _)
   | (with_reducible exact LeO.none _)
   | (with_reducible refine LeO.ite ?_ ?_)
   | (with_reducible refine LeO.bind ?_ (fun _ => ?_))
   | exact ih0 _ _ _ _
   | exact ih1 _ _ _ _ _ _ _ _
   | exact impl_IsValidTask.mono _ _ _ _ _ _
   | exact LeO.none _
   | refine LeO.ite ?_ ?_
   | refine LeO.bind ?_ (fun _ => ?_)
def impl_IsValidJoiner.T7 : Bool × List (List Nat × List Nat) := (true, [([], []), ([0], [0]), ([1], [1]), ([2, 1], [2]), ([3], [3]), ([4, 3], [3, 4]), ([3], [3]), ([6, 3], [3, 6]), ([7, 3], [3, 7]), ([8, 3], [3, 8]), ([9, 3], [3, 9]), ([5, 10, 3], [3, 5, 10]), ([3, 11], [3, 11])])
def impl_IsValidJoiner.B7 : List Nat := [0, 1, 3, 7, 15, 31, 15, 79, 207, 463, 975, 2047, 4095]
theorem impl_IsValidJoiner.tab7 : rtab .any (opsOf Try.f16 7) = impl_IsValidJoiner.T7 := by kernel_rfl
theorem impl_IsValidJoiner.bits7 : waitsOk impl_IsValidJoiner.T7.2 impl_IsValidJoiner.B7 = true := by kernel_rfl
set_option maxHeartbeats 8000000 in
set_option maxRecDepth 100000 in
theorem impl_IsValidJoiner.calls (k : Nat) (A0_0 : Option Addr) (c0_0 : Nat) (l0_0 : List (S68)) (a0_1 : Int) (a0_2 : Int) (r : Bool) (w : World) (hr0_0 : Kd.C k68 w A0_0 l0_0.length l0_0) (hc0_0 : l0_0.length ≤ c0_0) (h : impl_IsValidJoiner.f k l0_0 a0_1 a0_2 = some r) :
  Calls Try.prog 16 #[.agg #[.slice A0_0 l0_0.length c0_0, .int .i64 a0_1, .int .i64 a0_2]] w fun e w' => e = .returned (.bool r) ∧ Below w.heap.size w w' := by
 have hu29 := Try.underlying29
 have hu68 := Try.underlying68
 have HR0_0 := mA hr0_0
 have HC0_0 := mA hc0_0
 clear hr0_0 hc0_0
 have HB := mA (Below.refl w.heap.size w)
 have H : (if (l0_0.length : Int) > 40 then (impl_IsValidJoiner.j0 k true l0_0 a0_1 a0_2) else ((impl_within.f a0_1 0 100000).bind fun t240 => (if t240 = true then ((impl_within.f a0_2 0 1000).bind fun t241 => (impl_IsValidJoiner.j0 k (!t241) l0_0 a0_1 a0_2)) else (impl_IsValidJoiner.j0 k true l0_0 a0_1 a0_2)))) = some r := h
 clear h
 have HC2 := mA H
 clear H
 go_enter Try.func16, Try.ntmps16
 go_upto_region 1 with (first | ((with_reducible refine gate_dst (N := 1) rfl ?_); refine boxT 1 #[.slice A0_0 l0_0.length c0_0, .int .i64 a0_1, .int .i64 a0_2] 29 ?_; intro gb239 hg w3 hbox hb; have BK239 := mA (hbox); have GW239 := mA ((by rw [hg]; exact (below_size (bT HB)) : w.heap.size ≤ gb239)); have GE239 := GW239; replace HB := mA (below_step (bT HB) hb); clear hb hbox hg))
 (try simp only [Act.put, List.setIfInBounds_toArray, List.set_cons_zero, List.set_cons_succ])
 go_cut [22] (fun v22 wc => ∃ (kq : Nat) (x22_1 : Bool), v22 = .bool x22_1 ∧ Aside0 (impl_IsValidJoiner.j0 kq x22_1 l0_0 a0_1 a0_2 = some r) ∧ Aside0 (kq ≤ k) ∧ Aside0 (wc.heap[gb239]? = some (.cells #[(.slice A0_0 l0_0.length c0_0), .int .i64 a0_1, .int .i64 a0_2] 29 (0, 0))) ∧ Aside0 (Below w.heap.size w wc))
 case first =>
  have H := HC2.out
  clear HC2
  by_cases c4 : (l0_0.length : Int) > 40
  ·
   rw [if_pos c4] at H
   have c4b0 : decide (40 < (l0_0.length : Int)) = true := decide_eq_true c4
   have c4b1 : decide (40 < l0_0.length) = true := decide_eq_true (by omega)
   clear c4
   (first | rw [c4b0] | (simp only [i64_w, i32_w]; rw [c4b0]) | skip)
   have H' := mA H
   clear H
   have hcz5_0 : w3.cell? ⟨gb239, 0, none⟩ = some (.slice A0_0 l0_0.length c0_0) := (blk_cell BK239.out 0).trans rfl
   have hcz5_1 : w3.cell? ⟨gb239, 1, none⟩ = some (.int .i64 a0_1) := (blk_cell BK239.out 1).trans rfl
   have hcz5_2 : w3.cell? ⟨gb239, 2, none⟩ = some (.int .i64 a0_2) := (blk_cell BK239.out 2).trans rfl
   have hfz5_0 := blk_frozen BK239.out 0
   have hfz5_1 := blk_frozen BK239.out 1
   have hfz5_2 := blk_frozen BK239.out 2
   go_wp2
   go_meet
   case rel => exact ⟨_, (true), sT, H', ⟨by first | omega | exact Nat.le_refl _⟩, ⟨kT BK239⟩, ⟨bT1 HB GE239⟩⟩
  ·
   rw [if_neg c4] at H
   have c4b0 : decide (40 < (l0_0.length : Int)) = false := decide_eq_false c4
   have c4b1 : decide (40 < l0_0.length) = false := decide_eq_false (by omega)
   clear c4
   (first | rw [c4b0] | (simp only [i64_w, i32_w]; rw [c4b0]) | skip)
   obtain ⟨t240, A6, H⟩ := Option.bind_eq_some_iff.mp H
   replace A6 := mA A6
   try dsimp only at H
   by_cases c7 : t240 = true
   ·
    subst c7
    rw [if_pos rfl] at H
    obtain ⟨t241, A8, H⟩ := Option.bind_eq_some_iff.mp H
    replace A8 := mA A8
    replace H : (impl_IsValidJoiner.j0 k (!t241) l0_0 a0_1 a0_2) = some r := H
    have H' := mA H
    clear H
    have hcz9_0 : w3.cell? ⟨gb239, 0, none⟩ = some (.slice A0_0 l0_0.length c0_0) := (blk_cell BK239.out 0).trans rfl
    have hcz9_1 : w3.cell? ⟨gb239, 1, none⟩ = some (.int .i64 a0_1) := (blk_cell BK239.out 1).trans rfl
    have hcz9_2 : w3.cell? ⟨gb239, 2, none⟩ = some (.int .i64 a0_2) := (blk_cell BK239.out 2).trans rfl
    have hfz9_0 := blk_frozen BK239.out 0
    have hfz9_1 := blk_frozen BK239.out 1
    have hfz9_2 := blk_frozen BK239.out 2
    go_wp2_with (first | (go_at_call 47; (with_reducible refine (impl_within.calls a0_1 0 100000 true _ A6.out).mono ?_); rintro e w' ⟨rfl, ⟨nd, rfl⟩⟩) | (go_at_call 47; (with_reducible refine (impl_within.calls a0_2 0 1000 t241 _ A8.out).mono ?_); rintro e w' ⟨rfl, ⟨nd, rfl⟩⟩))
    go_meet
    case rel => exact ⟨_, (!t241), sT, H', ⟨by first | omega | exact Nat.le_refl _⟩, ⟨kT BK239⟩, ⟨bT1 HB GE239⟩⟩
   ·
    replace c7 := Bool.eq_false_iff.mpr c7
    subst c7
    rw [if_neg (show ¬ (false = true) by decide)] at H
    have H' := mA H
    clear H
    have hcz10_0 : w3.cell? ⟨gb239, 0, none⟩ = some (.slice A0_0 l0_0.length c0_0) := (blk_cell BK239.out 0).trans rfl
    have hcz10_1 : w3.cell? ⟨gb239, 1, none⟩ = some (.int .i64 a0_1) := (blk_cell BK239.out 1).trans rfl
    have hcz10_2 : w3.cell? ⟨gb239, 2, none⟩ = some (.int .i64 a0_2) := (blk_cell BK239.out 2).trans rfl
    have hfz10_0 := blk_frozen BK239.out 0
    have hfz10_1 := blk_frozen BK239.out 1
    have hfz10_2 := blk_frozen BK239.out 2
    go_wp2_with (first | (go_at_call 47; (with_reducible refine (impl_within.calls a0_1 0 100000 false _ A6.out).mono ?_); rintro e w' ⟨rfl, ⟨nd, rfl⟩⟩))
    go_meet
    case rel => exact ⟨_, (true), sT, H', ⟨by first | omega | exact Nat.le_refl _⟩, ⟨kT BK239⟩, ⟨bT1 HB GE239⟩⟩
 case rest =>
  clear HC2
  try clear c1
  try clear p2
  try clear c4
  try clear c4b0
  try clear c4b1
  try clear c7
  try clear hcz10_0
  try clear hcz10_1
  try clear hcz10_2
  try clear hcz5_0
  try clear hcz5_1
  try clear hcz5_2
  try clear hcz9_0
  try clear hcz9_1
  try clear hcz9_2
  try clear hfz10_0
  try clear hfz10_1
  try clear hfz10_2
  try clear hfz5_0
  try clear hfz5_1
  try clear hfz5_2
  try clear hfz9_0
  try clear hfz9_1
  try clear hfz9_2
  obtain ⟨kq, x22_1, rfl, HA, HJ1, BK239, HB⟩ := hcut
  cases kq with
  | zero => exact absurd HA.out (by simp [impl_IsValidJoiner.j0])
  | succ kj1 =>
   have H := HA.out
   clear HA
   simp only [impl_IsValidJoiner.j0] at H
   by_cases c11 : x22_1 = true
   ·
    subst c11
    rw [if_pos rfl] at H
    obtain rfl := Option.some.inj H
    go_wp2
    go_ret
    exact ⟨eT, bT1 HB GE239⟩
   ·
    replace c11 := Bool.eq_false_iff.mpr c11
    subst c11
    rw [if_neg (show ¬ (false = true) by decide)] at H
    have H' := mA H
    clear H
    have hcz12_0 : wc.cell? ⟨gb239, 0, none⟩ = some (.slice A0_0 l0_0.length c0_0) := (blk_cell BK239.out 0).trans rfl
    have hcz12_1 : wc.cell? ⟨gb239, 1, none⟩ = some (.int .i64 a0_1) := (blk_cell BK239.out 1).trans rfl
    have hcz12_2 : wc.cell? ⟨gb239, 2, none⟩ = some (.int .i64 a0_2) := (blk_cell BK239.out 2).trans rfl
    have hfz12_0 := blk_frozen BK239.out 0
    have hfz12_1 := blk_frozen BK239.out 1
    have hfz12_2 := blk_frozen BK239.out 2
    go_wp2
    go_loopg [3, 4, 26] kj1 (fun kq v3 v4 v26 w' => ∃ (x3_2 : Int) (x4_2 : Int) (x26_2 : Int), v3 = .int .i64 x3_2 ∧ v4 = .int .i64 x4_2 ∧ v26 = .int .i64 x26_2 ∧ Aside0 (impl_IsValidJoiner.l0 kq x3_2 x4_2 l0_0 (l0_0.length : Int) x26_2 l0_0 a0_1 a0_2 = some r) ∧ Aside0 (kq ≤ kj1) ∧ Aside0 (w'.heap[gb239]? = some (.cells #[(.slice A0_0 l0_0.length c0_0), .int .i64 a0_1, .int .i64 a0_2] 29 (0, 0))) ∧ Aside0 (Below w.heap.size w w'))
    case atStart => exact ⟨(0), (0), (0), sT, sT, sT, H', ⟨Nat.le_refl _⟩, ⟨kT BK239⟩, ⟨bT1 HB GE239⟩⟩
    case round =>
     clear H'
     try clear c1
     try clear p2
     try clear c4
     try clear c4b0
     try clear c4b1
     try clear c7
     try clear c11
     try clear hcz10_0
     try clear hcz10_1
     try clear hcz10_2
     try clear hcz12_0
     try clear hcz12_1
     try clear hcz12_2
     try clear hcz5_0
     try clear hcz5_1
     try clear hcz5_2
     try clear hcz9_0
     try clear hcz9_1
     try clear hcz9_2
     try clear hfz10_0
     try clear hfz10_1
     try clear hfz10_2
     try clear hfz12_0
     try clear hfz12_1
     try clear hfz12_2
     try clear hfz5_0
     try clear hfz5_1
     try clear hfz5_2
     try clear hfz9_0
     try clear hfz9_1
     try clear hfz9_2
     try clear p2
     obtain ⟨x3_2, x4_2, x26_2, rfl, rfl, rfl, HA, HK2, BK239, HB⟩ := hrel
     cases gk with
     | zero => exact absurd HA.out (by simp [impl_IsValidJoiner.l0])
     | succ k2 =>
      have H := HA.out
      clear HA
      simp only [impl_IsValidJoiner.l0] at H
      by_cases c13 : x26_2 < (l0_0.length : Int)
      ·
       rw [if_pos c13] at H
       have c13b0 : decide (x26_2 < (l0_0.length : Int)) = true := decide_eq_true c13
       clear c13
       by_cases c14 : 0 ≤ x26_2
       ·
        rw [if_pos c14] at H
        have c14b0 : decide (0 ≤ x26_2) = true := decide_eq_true c14
        clear c14
        by_cases c15 : x26_2 < (l0_0.length : Int)
        ·
         rw [if_pos c15] at H
         have c15b0 : decide (x26_2 < (l0_0.length : Int)) = true := decide_eq_true c15
         clear c15
         obtain ⟨t244, A16, H⟩ := Option.bind_eq_some_iff.mp H
         replace A16 := mA A16
         try dsimp only at H
         by_cases c17 : t244 = true
         ·
          subst c17
          rw [if_pos rfl] at H
          by_cases c18 : 0 < (l0_0.length : Int)
          ·
           rw [if_pos c18] at H
           have c18b0 : decide (0 < (l0_0.length : Int)) = true := decide_eq_true c18
           have c18b1 : decide (0 < l0_0.length) = true := decide_eq_true (by omega)
           clear c18
           by_cases c19 : ((rd_T68 l0_0 x26_2).f0) = ((rd_T68 l0_0 0).f0)
           ·
            rw [if_pos c19] at H
            have c19b0 : (((rd_T68 l0_0 x26_2).f0) == ((rd_T68 l0_0 0).f0)) = true := beq_iff_eq.mpr c19
            have c19b1 : (((rd_T68 l0_0 x26_2).f0) != ((rd_T68 l0_0 0).f0)) = false := bne_eq_false_iff_eq.mpr c19
            clear c19
            have H' := mA H
            clear H
            have p242 : 0 ≤ (x26_2 : Int) := of_decide_eq_true aT
            have q242 : x26_2 < (l0_0.length : Int) := of_decide_eq_true aT
            obtain ⟨ad242, A242_1, c242_1, A242_2, c242_2, A242_3, c242_3, e242, hx242_0, hx242_1, hx242_2, hx242_3, hx242_4, hl242_1, hi242_1, hl242_2, hi242_2, hl242_3, hi242_3⟩ := at_T68 HR0_0.out x26_2 p242 q242
            cases e242
            replace hx242_0 := (HB.out.cell (World.block_lt_of_cell? w _ hx242_0)).trans hx242_0
            replace hx242_1 := (HB.out.cell (World.block_lt_of_cell? w _ hx242_1)).trans hx242_1
            replace hx242_2 := (HB.out.cell (World.block_lt_of_cell? w _ hx242_2)).trans hx242_2
            replace hx242_3 := (HB.out.cell (World.block_lt_of_cell? w _ hx242_3)).trans hx242_3
            replace hx242_4 := (HB.out.cell (World.block_lt_of_cell? w _ hx242_4)).trans hx242_4
            have HR242_1 := mA hi242_1
            have HC242_1 := mA hl242_1
            clear hi242_1 hl242_1
            have HR242_2 := mA hi242_2
            have HC242_2 := mA hl242_2
            clear hi242_2 hl242_2
            have HR242_3 := mA hi242_3
            have HC242_3 := mA hl242_3
            clear hi242_3 hl242_3
            replace p242 := eq_true p242
            replace q242 := eq_true q242
            try go_wp2_with (first | ((with_reducible refine gate_dst (N := 6) rfl ?_); refine boxT 6 #[.int .i64 0, .slice none 0 0, .slice none 0 0, .slice none 0 0, .int .i64 0] 68 ?_; intro gb243 hg w20 hbox hb; have BK243 := mA (hbox); have GW243 := mA ((by rw [hg]; exact (below_size (bT1 HB GE239)) : w.heap.size ≤ gb243)); have GE243 := GW243; replace HB := mA (below_step (bT1 HB GE239) hb); have NB239_243 : Aside0 (gb239 ≠ gb243) := nL BK239 hg; have NB243_239 : Aside0 (gb243 ≠ gb239) := nG BK239 hg; replace BK239 := kB BK239 hb; clear hb hbox hg; have hnb21 := NB243_239.out; have hnc21 := NB239_243.out; obtain ⟨hcz22_0, hcz22_1, hcz22_2, hcz22_3, hcz22_4, hfz22_0, hfz22_1, hfz22_2, hfz22_3, hfz22_4⟩ := blk5 BK243.out))
            have n0_ : Aside0 ((((((w20.setCell ⟨gb243, 0, none⟩ (.int .i64 ((rd_T68 l0_0 x26_2).f0))).setCell ⟨gb243, 1, none⟩ (.slice A242_1 ((rd_T68 l0_0 x26_2).f1).length c242_1)).setCell ⟨gb243, 2, none⟩ (.slice A242_2 ((rd_T68 l0_0 x26_2).f2).length c242_2)).setCell ⟨gb243, 3, none⟩ (.slice A242_3 ((rd_T68 l0_0 x26_2).f3).length c242_3)).setCell ⟨gb243, 4, none⟩ (.int .i64 ((rd_T68 l0_0 x26_2).f4))).heap[gb239]? = some (.cells #[.slice (some ad242) l0_0.length c0_0, .int .i64 a0_1, .int .i64 a0_2] 29 (0, 0))) := ⟨by (with_reducible repeat (first | refine blk_drewN ?_ _ | refine blk_drew ?_ | refine blk_alloc ?_ _)); refine blk_far ?_ NB239_243.out _; (with_reducible repeat (first | refine blk_drewN ?_ _ | refine blk_drew ?_ | refine blk_alloc ?_ _)); refine blk_far ?_ NB239_243.out _; (with_reducible repeat (first | refine blk_drewN ?_ _ | refine blk_drew ?_ | refine blk_alloc ?_ _)); refine blk_far ?_ NB239_243.out _; (with_reducible repeat (first | refine blk_drewN ?_ _ | refine blk_drew ?_ | refine blk_alloc ?_ _)); refine blk_far ?_ NB239_243.out _; (with_reducible repeat (first | refine blk_drewN ?_ _ | refine blk_drew ?_ | refine blk_alloc ?_ _)); refine blk_far ?_ NB239_243.out _; (with_reducible repeat (first | refine blk_drewN ?_ _ | refine blk_drew ?_ | refine blk_alloc ?_ _)); exact BK239.out⟩
            have n1_ : Aside0 ((((((w20.setCell ⟨gb243, 0, none⟩ (.int .i64 ((rd_T68 l0_0 x26_2).f0))).setCell ⟨gb243, 1, none⟩ (.slice A242_1 ((rd_T68 l0_0 x26_2).f1).length c242_1)).setCell ⟨gb243, 2, none⟩ (.slice A242_2 ((rd_T68 l0_0 x26_2).f2).length c242_2)).setCell ⟨gb243, 3, none⟩ (.slice A242_3 ((rd_T68 l0_0 x26_2).f3).length c242_3)).setCell ⟨gb243, 4, none⟩ (.int .i64 ((rd_T68 l0_0 x26_2).f4))).heap[gb243]? = some (.cells #[.int .i64 ((rd_T68 l0_0 x26_2).f0), .slice A242_1 ((rd_T68 l0_0 x26_2).f1).length c242_1, .slice A242_2 ((rd_T68 l0_0 x26_2).f2).length c242_2, .slice A242_3 ((rd_T68 l0_0 x26_2).f3).length c242_3, .int .i64 ((rd_T68 l0_0 x26_2).f4)] 68 (0, 0))) := ⟨by (with_reducible repeat (first | refine blk_drewN ?_ _ | refine blk_drew ?_ | refine blk_alloc ?_ _)); refine blk_put (cs := #[.int .i64 ((rd_T68 l0_0 x26_2).f0), .slice A242_1 ((rd_T68 l0_0 x26_2).f1).length c242_1, .slice A242_2 ((rd_T68 l0_0 x26_2).f2).length c242_2, .slice A242_3 ((rd_T68 l0_0 x26_2).f3).length c242_3, .int .i64 0]) ?_ 4 _ rfl; (with_reducible repeat (first | refine blk_drewN ?_ _ | refine blk_drew ?_ | refine blk_alloc ?_ _)); refine blk_put (cs := #[.int .i64 ((rd_T68 l0_0 x26_2).f0), .slice A242_1 ((rd_T68 l0_0 x26_2).f1).length c242_1, .slice A242_2 ((rd_T68 l0_0 x26_2).f2).length c242_2, .slice none 0 0, .int .i64 0]) ?_ 3 _ rfl; (with_reducible repeat (first | refine blk_drewN ?_ _ | refine blk_drew ?_ | refine blk_alloc ?_ _)); refine blk_put (cs := #[.int .i64 ((rd_T68 l0_0 x26_2).f0), .slice A242_1 ((rd_T68 l0_0 x26_2).f1).length c242_1, .slice none 0 0, .slice none 0 0, .int .i64 0]) ?_ 2 _ rfl; (with_reducible repeat (first | refine blk_drewN ?_ _ | refine blk_drew ?_ | refine blk_alloc ?_ _)); refine blk_put (cs := #[.int .i64 ((rd_T68 l0_0 x26_2).f0), .slice none 0 0, .slice none 0 0, .slice none 0 0, .int .i64 0]) ?_ 1 _ rfl; (with_reducible repeat (first | refine blk_drewN ?_ _ | refine blk_drew ?_ | refine blk_alloc ?_ _)); refine blk_put (cs := #[.int .i64 0, .slice none 0 0, .slice none 0 0, .slice none 0 0, .int .i64 0]) ?_ 0 _ rfl; (with_reducible repeat (first | refine blk_drewN ?_ _ | refine blk_drew ?_ | refine blk_alloc ?_ _)); exact BK243.out⟩
            have n2_ : Aside0 (Below w.heap.size w (((((w20.setCell ⟨gb243, 0, none⟩ (.int .i64 ((rd_T68 l0_0 x26_2).f0))).setCell ⟨gb243, 1, none⟩ (.slice A242_1 ((rd_T68 l0_0 x26_2).f1).length c242_1)).setCell ⟨gb243, 2, none⟩ (.slice A242_2 ((rd_T68 l0_0 x26_2).f2).length c242_2)).setCell ⟨gb243, 3, none⟩ (.slice A242_3 ((rd_T68 l0_0 x26_2).f3).length c242_3)).setCell ⟨gb243, 4, none⟩ (.int .i64 ((rd_T68 l0_0 x26_2).f4)))) := ⟨bT2 HB GE239 GE243⟩
            (try clear BK239)
            (try clear BK243)
            (try clear HB)
            generalize (((((w20.setCell ⟨gb243, 0, none⟩ (.int .i64 ((rd_T68 l0_0 x26_2).f0))).setCell ⟨gb243, 1, none⟩ (.slice A242_1 ((rd_T68 l0_0 x26_2).f1).length c242_1)).setCell ⟨gb243, 2, none⟩ (.slice A242_2 ((rd_T68 l0_0 x26_2).f2).length c242_2)).setCell ⟨gb243, 3, none⟩ (.slice A242_3 ((rd_T68 l0_0 x26_2).f3).length c242_3)).setCell ⟨gb243, 4, none⟩ (.int .i64 ((rd_T68 l0_0 x26_2).f4))) = w23 at n0_ n1_ n2_ ⊢
            have BK239 := n0_
            have BK243 := n1_
            have HB := n2_
            clear n0_ n1_ n2_
            replace BK239 := mA (blk_drew BK239.out)
            replace BK243 := mA (blk_drew BK243.out)
            replace HB := mA (below_drew1 HB.out)
            have p245 : 0 ≤ (0 : Int) := (by omega)
            have q245 : 0 < (l0_0.length : Int) := of_decide_eq_true aT
            obtain ⟨ad245, A245_1, c245_1, A245_2, c245_2, A245_3, c245_3, e245, hx245_0, hx245_1, hx245_2, hx245_3, hx245_4, hl245_1, hi245_1, hl245_2, hi245_2, hl245_3, hi245_3⟩ := at_T68 HR0_0.out 0 p245 q245
            have hw245_4 := hx245_4
            (try rw [show ((0 : Int)).toNat = 0 from rfl] at hw245_4)
            (try rw [show 0 * 5 = 0 from rfl] at hw245_4)
            (try rw [Addr.add_zero'] at hw245_4)
            have hw245_3 := hx245_3
            (try rw [show ((0 : Int)).toNat = 0 from rfl] at hw245_3)
            (try rw [show 0 * 5 = 0 from rfl] at hw245_3)
            (try rw [Addr.add_zero'] at hw245_3)
            have hw245_2 := hx245_2
            (try rw [show ((0 : Int)).toNat = 0 from rfl] at hw245_2)
            (try rw [show 0 * 5 = 0 from rfl] at hw245_2)
            (try rw [Addr.add_zero'] at hw245_2)
            have hw245_1 := hx245_1
            (try rw [show ((0 : Int)).toNat = 0 from rfl] at hw245_1)
            (try rw [show 0 * 5 = 0 from rfl] at hw245_1)
            (try rw [Addr.add_zero'] at hw245_1)
            have hw245_0 := hx245_0
            (try rw [show ((0 : Int)).toNat = 0 from rfl] at hw245_0)
            (try rw [show 0 * 5 = 0 from rfl] at hw245_0)
            (try rw [Addr.add_zero'] at hw245_0)
            obtain rfl : ad242 = ad245 := (by injection e245)
            have qi245 : (0 < l0_0.length) = True := eq_true (by omega)
            (try rw [show ((0 : Int)).toNat = 0 from rfl] at hx245_0)
            (try rw [show 0 * 5 = 0 from rfl] at hx245_0)
            (try rw [Addr.add_zero'] at hx245_0)
            (try rw [show ((0 : Int)).toNat = 0 from rfl] at hx245_1)
            (try rw [show 0 * 5 = 0 from rfl] at hx245_1)
            (try rw [Addr.add_zero'] at hx245_1)
            (try rw [show ((0 : Int)).toNat = 0 from rfl] at hx245_2)
            (try rw [show 0 * 5 = 0 from rfl] at hx245_2)
            (try rw [Addr.add_zero'] at hx245_2)
            (try rw [show ((0 : Int)).toNat = 0 from rfl] at hx245_3)
            (try rw [show 0 * 5 = 0 from rfl] at hx245_3)
            (try rw [Addr.add_zero'] at hx245_3)
            (try rw [show ((0 : Int)).toNat = 0 from rfl] at hx245_4)
            (try rw [show 0 * 5 = 0 from rfl] at hx245_4)
            (try rw [Addr.add_zero'] at hx245_4)
            replace hx245_0 := (HB.out.cell (World.block_lt_of_cell? w _ hx245_0)).trans hx245_0
            replace hx245_1 := (HB.out.cell (World.block_lt_of_cell? w _ hx245_1)).trans hx245_1
            replace hx245_2 := (HB.out.cell (World.block_lt_of_cell? w _ hx245_2)).trans hx245_2
            replace hx245_3 := (HB.out.cell (World.block_lt_of_cell? w _ hx245_3)).trans hx245_3
            replace hx245_4 := (HB.out.cell (World.block_lt_of_cell? w _ hx245_4)).trans hx245_4
            have HR245_1 := mA hi245_1
            have HC245_1 := mA hl245_1
            clear hi245_1 hl245_1
            have HR245_2 := mA hi245_2
            have HC245_2 := mA hl245_2
            clear hi245_2 hl245_2
            have HR245_3 := mA hi245_3
            have HC245_3 := mA hl245_3
            clear hi245_3 hl245_3
            replace p245 := eq_true p245
            replace q245 := eq_true q245
            refine start_ (n := 13) (S := fun w' => w'.cell? ⟨gb243, 0, none⟩ = some (.int .i64 ((rd_T68 l0_0 x26_2).f0)) ∧ w'.cell? ⟨gb243, 1, none⟩ = some (.slice A242_1 ((rd_T68 l0_0 x26_2).f1).length c242_1) ∧ w'.cell? ⟨gb243, 2, none⟩ = some (.slice A242_2 ((rd_T68 l0_0 x26_2).f2).length c242_2) ∧ w'.cell? ⟨gb243, 3, none⟩ = some (.slice A242_3 ((rd_T68 l0_0 x26_2).f3).length c242_3) ∧ w'.cell? ⟨gb243, 4, none⟩ = some (.int .i64 ((rd_T68 l0_0 x26_2).f4)) ∧ w'.cell? ⟨gb239, 0, none⟩ = some (.slice (some ad242) l0_0.length c0_0) ∧ w'.cell? ⟨gb239, 1, none⟩ = some (.int .i64 a0_1) ∧ w'.cell? ⟨gb239, 2, none⟩ = some (.int .i64 a0_2) ∧ w'.cell? ad242 = some (.int .i64 ((rd_T68 l0_0 0).f0)) ∧ w'.cell? ⟨ad242.block, ad242.off + 1, none⟩ = some (.slice A245_1 ((rd_T68 l0_0 0).f1).length c245_1) ∧ w'.cell? ⟨ad242.block, ad242.off + 2, none⟩ = some (.slice A245_2 ((rd_T68 l0_0 0).f2).length c245_2) ∧ w'.cell? ⟨ad242.block, ad242.off + 3, none⟩ = some (.slice A245_3 ((rd_T68 l0_0 0).f3).length c245_3) ∧ w'.cell? ⟨ad242.block, ad242.off + 4, none⟩ = some (.int .i64 ((rd_T68 l0_0 0).f4))) (ds := []) #[false, false, false, false, false, false, false, false, false, false, false, false, false] (by kernel_rfl) rfl rfl ⟨(blk_cell BK243.out 0).trans rfl, (blk_cell BK243.out 1).trans rfl, (blk_cell BK243.out 2).trans rfl, (blk_cell BK243.out 3).trans rfl, (blk_cell BK243.out 4).trans rfl, (blk_cell BK239.out 0).trans rfl, (blk_cell BK239.out 1).trans rfl, (blk_cell BK239.out 2).trans rfl, ((HB.out.cell (World.block_lt_of_cell? w _ hw245_0)).trans hw245_0), ((HB.out.cell (World.block_lt_of_cell? w _ hw245_1)).trans hw245_1), ((HB.out.cell (World.block_lt_of_cell? w _ hw245_2)).trans hw245_2), ((HB.out.cell (World.block_lt_of_cell? w _ hw245_3)).trans hw245_3), ((HB.out.cell (World.block_lt_of_cell? w _ hw245_4)).trans hw245_4)⟩ (fun hHeld => ?_); refine with_tabW impl_IsValidJoiner.tab7 impl_IsValidJoiner.bits7 (fun HT_ HW_ => ?_)
            generalize w23.drew = w24 at BK239 BK243 HB HR245_1 HR245_2 HR245_3 hx245_0 hx245_1 hx245_2 hx245_3 hx245_4 hHeld ⊢
            refine take_ (i := 0) (N := some 30) (v := ?_) (a' := ?_) #[true, false, false, false, false, false, false, false, false, false, false, false, false] rfl rfl (take_ofW HT_.out HW_.out (by kernel_rfl)) (fun _ _ _ h => h) (Or.inl ⟨by rfl, ?_⟩) hHeld ?_ ?_
            rotate_left
            ·
             rintro w' ⟨s0, s1, s2, s3, s4, s5, s6, s7, s8, s9, s10, s11, s12⟩
             go_simp
             with_reducible rfl
            rotate_left
            ·
             simp only [Act.put, List.setIfInBounds_toArray, List.set_cons_zero, List.set_cons_succ, i64_w, i32_w]
             rfl
            refine one_ (i := 1) (N := some 31) #[true, true, false, false, false, false, false, false, false, false, false, false, false] rfl rfl (one_of HT_.out (by kernel_rfl)) (by decide) (fun K hK => ?_)
            refine goes_ Try.func48 (by kernel_rfl) rfl #[.agg #[.int .i64 ((rd_T68 l0_0 x26_2).f0), .slice A242_1 ((rd_T68 l0_0 x26_2).f1).length c242_1, .slice A242_2 ((rd_T68 l0_0 x26_2).f2).length c242_2, .slice A242_3 ((rd_T68 l0_0 x26_2).f3).length c242_3, .int .i64 ((rd_T68 l0_0 x26_2).f4)]] (by rfl) rfl rfl mT ?_
            with_reducible refine (impl_IsValidTask.calls k2 ((rd_T68 l0_0 x26_2).f0) _ _ ((rd_T68 l0_0 x26_2).f1) _ _ ((rd_T68 l0_0 x26_2).f2) _ _ ((rd_T68 l0_0 x26_2).f3) ((rd_T68 l0_0 x26_2).f4) true _ ?side1 ?side2 ?side3 ?side4 ?side5 ?side6 A16.out).mono ?_
            (case side1 => exact cT (Kd.C_below HR242_1.out HB.out))
            (case side2 => exact HC242_1.out)
            (case side3 => exact cT (Kd.C_below HR242_2.out HB.out))
            (case side4 => exact HC242_2.out)
            (case side5 => exact cT (Kd.C_below HR242_3.out HB.out))
            (case side6 => exact HC242_3.out)
            rintro e w25 ⟨rfl, hb⟩
            refine ⟨_, rfl, ?_⟩
            replace BK239 := kB BK239 hb
            replace BK243 := kB BK243 hb
            replace HB := mA (below_step (bT2 HB GE239 GE243) hb)
            (try clear hb)
            (try clear hb2)
            (try clear hk)
            (try clear hi)
            refine hK.out _ _ ⟨(blk_cell BK243.out 0).trans rfl, (blk_cell BK243.out 1).trans rfl, (blk_cell BK243.out 2).trans rfl, (blk_cell BK243.out 3).trans rfl, (blk_cell BK243.out 4).trans rfl, (blk_cell BK239.out 0).trans rfl, (blk_cell BK239.out 1).trans rfl, (blk_cell BK239.out 2).trans rfl, ((HB.out.cell (World.block_lt_of_cell? w _ hw245_0)).trans hw245_0), ((HB.out.cell (World.block_lt_of_cell? w _ hw245_1)).trans hw245_1), ((HB.out.cell (World.block_lt_of_cell? w _ hw245_2)).trans hw245_2), ((HB.out.cell (World.block_lt_of_cell? w _ hw245_3)).trans hw245_3), ((HB.out.cell (World.block_lt_of_cell? w _ hw245_4)).trans hw245_4)⟩ (fun hHeld => ?_)
            clear hK K
            refine norm_ (a' := ?_) ?_ ?_
            rotate_left
            ·
             show Act.put _ (some 31) _ = _
             simp only [Act.put, List.setIfInBounds_toArray, List.set_cons_zero, List.set_cons_succ, i64_w, i32_w]
             rfl
            refine pureT (i := 2) (N := some 32) #[true, true, true, false, false, false, false, false, false, false, false, false, false] (any_of HT_.out (by kernel_rfl)) ?_
            refine pureT (i := 3) (N := some 33) #[true, true, true, true, false, false, false, false, false, false, false, false, false] (any_of HT_.out (by kernel_rfl)) ?_
            refine pureT (i := 4) (N := some 34) #[true, true, true, true, true, false, false, false, false, false, false, false, false] (any_of HT_.out (by kernel_rfl)) ?_
            refine pureT (i := 6) (N := some 36) #[true, true, true, true, true, false, true, false, false, false, false, false, false] (any_of HT_.out (by kernel_rfl)) ?_
            refine take_ (i := 5) (N := some 35) (v := ?_) (a' := ?_) #[true, true, true, true, true, true, true, false, false, false, false, false, false] rfl rfl (take_ofW HT_.out HW_.out (by kernel_rfl)) (fun _ _ _ h => h) (Or.inl ⟨by rfl, ?_⟩) hHeld ?_ ?_
            rotate_left
            ·
             rintro w' ⟨s0, s1, s2, s3, s4, s5, s6, s7, s8, s9, s10, s11, s12⟩
             go_simp
             with_reducible rfl
            rotate_left
            ·
             simp only [Act.put, List.setIfInBounds_toArray, List.set_cons_zero, List.set_cons_succ, i64_w, i32_w]
             rfl
            refine take_ (i := 7) (N := some 37) (v := ?_) (a' := ?_) #[true, true, true, true, true, true, true, true, false, false, false, false, false] rfl rfl (take_ofW HT_.out HW_.out (by kernel_rfl)) (fun _ _ _ h => h) (Or.inl ⟨by rfl, ?_⟩) hHeld ?_ ?_
            rotate_left
            ·
             rintro w' ⟨s0, s1, s2, s3, s4, s5, s6, s7, s8, s9, s10, s11, s12⟩
             go_simp
             with_reducible rfl
            rotate_left
            ·
             simp only [Act.put, List.setIfInBounds_toArray, List.set_cons_zero, List.set_cons_succ, i64_w, i32_w]
             rfl
            refine pureT (i := 8) (N := some 38) #[true, true, true, true, true, true, true, true, true, false, false, false, false] (any_of HT_.out (by kernel_rfl)) ?_
            refine pureT (i := 9) (N := some 39) #[true, true, true, true, true, true, true, true, true, true, false, false, false] (any_of HT_.out (by kernel_rfl)) ?_
            refine take_ (i := 10) (N := some 40) (v := ?_) (a' := ?_) #[true, true, true, true, true, true, true, true, true, true, true, false, false] rfl rfl (take_ofW HT_.out HW_.out (by kernel_rfl)) (fun _ _ _ h => h) (Or.inl ⟨by rfl, ?_⟩) hHeld ?_ ?_
            rotate_left
            ·
             rintro w' ⟨s0, s1, s2, s3, s4, s5, s6, s7, s8, s9, s10, s11, s12⟩
             go_simp
             with_reducible rfl
            rotate_left
            ·
             simp only [Act.put, List.setIfInBounds_toArray, List.set_cons_zero, List.set_cons_succ, i64_w, i32_w]
             rfl
            refine pureT (i := 11) (N := some 41) #[true, true, true, true, true, true, true, true, true, true, true, true, false] (any_of HT_.out (by kernel_rfl)) ?_
            refine pureT (i := 12) (N := some 42) #[true, true, true, true, true, true, true, true, true, true, true, true, true] (any_of HT_.out (by kernel_rfl)) ?_
            refine done_ (done_of HT_.out (by kernel_rfl)) ?_
            have hcz26_0 : w25.cell? ⟨gb243, 0, none⟩ = some (.int .i64 ((rd_T68 l0_0 x26_2).f0)) := (blk_cell BK243.out 0).trans rfl
            have hcz26_1 : w25.cell? ⟨gb243, 1, none⟩ = some (.slice A242_1 ((rd_T68 l0_0 x26_2).f1).length c242_1) := (blk_cell BK243.out 1).trans rfl
            have hcz26_2 : w25.cell? ⟨gb243, 2, none⟩ = some (.slice A242_2 ((rd_T68 l0_0 x26_2).f2).length c242_2) := (blk_cell BK243.out 2).trans rfl
            have hcz26_3 : w25.cell? ⟨gb243, 3, none⟩ = some (.slice A242_3 ((rd_T68 l0_0 x26_2).f3).length c242_3) := (blk_cell BK243.out 3).trans rfl
            have hcz26_4 : w25.cell? ⟨gb243, 4, none⟩ = some (.int .i64 ((rd_T68 l0_0 x26_2).f4)) := (blk_cell BK243.out 4).trans rfl
            have hfz26_0 := blk_frozen BK243.out 0
            have hfz26_1 := blk_frozen BK243.out 1
            have hfz26_2 := blk_frozen BK243.out 2
            have hfz26_3 := blk_frozen BK243.out 3
            have hfz26_4 := blk_frozen BK243.out 4
            try go_wp2
            go_roundg k2
            case measure => have := HJ1.out; have := HK2.out; omega
            case rel => exact ⟨(wrap64 (x3_2 + (((rd_T68 l0_0 x26_2).f1).length : Int))), (wrap64 (x4_2 + (((rd_T68 l0_0 x26_2).f2).length : Int))), (wrap64 (x26_2 + 1)), sT, sT, sT, H', ⟨by have := HJ1.out; have := HK2.out; omega⟩, ⟨kT BK239⟩, ⟨bT2 HB GE239 GE243⟩⟩
           ·
            rw [if_neg c19] at H
            have c19b0 : (((rd_T68 l0_0 x26_2).f0) == ((rd_T68 l0_0 0).f0)) = false := beq_eq_false_iff_ne.mpr c19
            have c19b1 : (((rd_T68 l0_0 x26_2).f0) != ((rd_T68 l0_0 0).f0)) = true := bne_iff_ne.mpr c19
            obtain rfl := Option.some.inj H
            have p242 : 0 ≤ (x26_2 : Int) := of_decide_eq_true aT
            have q242 : x26_2 < (l0_0.length : Int) := of_decide_eq_true aT
            obtain ⟨ad242, A242_1, c242_1, A242_2, c242_2, A242_3, c242_3, e242, hx242_0, hx242_1, hx242_2, hx242_3, hx242_4, hl242_1, hi242_1, hl242_2, hi242_2, hl242_3, hi242_3⟩ := at_T68 HR0_0.out x26_2 p242 q242
            cases e242
            replace hx242_0 := (HB.out.cell (World.block_lt_of_cell? w _ hx242_0)).trans hx242_0
            replace hx242_1 := (HB.out.cell (World.block_lt_of_cell? w _ hx242_1)).trans hx242_1
            replace hx242_2 := (HB.out.cell (World.block_lt_of_cell? w _ hx242_2)).trans hx242_2
            replace hx242_3 := (HB.out.cell (World.block_lt_of_cell? w _ hx242_3)).trans hx242_3
            replace hx242_4 := (HB.out.cell (World.block_lt_of_cell? w _ hx242_4)).trans hx242_4
            have HR242_1 := mA hi242_1
            have HC242_1 := mA hl242_1
            clear hi242_1 hl242_1
            have HR242_2 := mA hi242_2
            have HC242_2 := mA hl242_2
            clear hi242_2 hl242_2
            have HR242_3 := mA hi242_3
            have HC242_3 := mA hl242_3
            clear hi242_3 hl242_3
            replace p242 := eq_true p242
            replace q242 := eq_true q242
            try go_wp2_with (first | ((with_reducible refine gate_dst (N := 6) rfl ?_); refine boxT 6 #[.int .i64 0, .slice none 0 0, .slice none 0 0, .slice none 0 0, .int .i64 0] 68 ?_; intro gb243 hg w27 hbox hb; have BK243 := mA (hbox); have GW243 := mA ((by rw [hg]; exact (below_size (bT1 HB GE239)) : w.heap.size ≤ gb243)); have GE243 := GW243; replace HB := mA (below_step (bT1 HB GE239) hb); have NB239_243 : Aside0 (gb239 ≠ gb243) := nL BK239 hg; have NB243_239 : Aside0 (gb243 ≠ gb239) := nG BK239 hg; replace BK239 := kB BK239 hb; clear hb hbox hg; have hnb28 := NB243_239.out; have hnc28 := NB239_243.out; obtain ⟨hcz29_0, hcz29_1, hcz29_2, hcz29_3, hcz29_4, hfz29_0, hfz29_1, hfz29_2, hfz29_3, hfz29_4⟩ := blk5 BK243.out))
            have n0_ : Aside0 ((((((w27.setCell ⟨gb243, 0, none⟩ (.int .i64 ((rd_T68 l0_0 x26_2).f0))).setCell ⟨gb243, 1, none⟩ (.slice A242_1 ((rd_T68 l0_0 x26_2).f1).length c242_1)).setCell ⟨gb243, 2, none⟩ (.slice A242_2 ((rd_T68 l0_0 x26_2).f2).length c242_2)).setCell ⟨gb243, 3, none⟩ (.slice A242_3 ((rd_T68 l0_0 x26_2).f3).length c242_3)).setCell ⟨gb243, 4, none⟩ (.int .i64 ((rd_T68 l0_0 x26_2).f4))).heap[gb239]? = some (.cells #[.slice (some ad242) l0_0.length c0_0, .int .i64 a0_1, .int .i64 a0_2] 29 (0, 0))) := ⟨by (with_reducible repeat (first | refine blk_drewN ?_ _ | refine blk_drew ?_ | refine blk_alloc ?_ _)); refine blk_far ?_ NB239_243.out _; (with_reducible repeat (first | refine blk_drewN ?_ _ | refine blk_drew ?_ | refine blk_alloc ?_ _)); refine blk_far ?_ NB239_243.out _; (with_reducible repeat (first | refine blk_drewN ?_ _ | refine blk_drew ?_ | refine blk_alloc ?_ _)); refine blk_far ?_ NB239_243.out _; (with_reducible repeat (first | refine blk_drewN ?_ _ | refine blk_drew ?_ | refine blk_alloc ?_ _)); refine blk_far ?_ NB239_243.out _; (with_reducible repeat (first | refine blk_drewN ?_ _ | refine blk_drew ?_ | refine blk_alloc ?_ _)); refine blk_far ?_ NB239_243.out _; (with_reducible repeat (first | refine blk_drewN ?_ _ | refine blk_drew ?_ | refine blk_alloc ?_ _)); exact BK239.out⟩
            have n1_ : Aside0 ((((((w27.setCell ⟨gb243, 0, none⟩ (.int .i64 ((rd_T68 l0_0 x26_2).f0))).setCell ⟨gb243, 1, none⟩ (.slice A242_1 ((rd_T68 l0_0 x26_2).f1).length c242_1)).setCell ⟨gb243, 2, none⟩ (.slice A242_2 ((rd_T68 l0_0 x26_2).f2).length c242_2)).setCell ⟨gb243, 3, none⟩ (.slice A242_3 ((rd_T68 l0_0 x26_2).f3).length c242_3)).setCell ⟨gb243, 4, none⟩ (.int .i64 ((rd_T68 l0_0 x26_2).f4))).heap[gb243]? = some (.cells #[.int .i64 ((rd_T68 l0_0 x26_2).f0), .slice A242_1 ((rd_T68 l0_0 x26_2).f1).length c242_1, .slice A242_2 ((rd_T68 l0_0 x26_2).f2).length c242_2, .slice A242_3 ((rd_T68 l0_0 x26_2).f3).length c242_3, .int .i64 ((rd_T68 l0_0 x26_2).f4)] 68 (0, 0))) := ⟨by (with_reducible repeat (first | refine blk_drewN ?_ _ | refine blk_drew ?_ | refine blk_alloc ?_ _)); refine blk_put (cs := #[.int .i64 ((rd_T68 l0_0 x26_2).f0), .slice A242_1 ((rd_T68 l0_0 x26_2).f1).length c242_1, .slice A242_2 ((rd_T68 l0_0 x26_2).f2).length c242_2, .slice A242_3 ((rd_T68 l0_0 x26_2).f3).length c242_3, .int .i64 0]) ?_ 4 _ rfl; (with_reducible repeat (first | refine blk_drewN ?_ _ | refine blk_drew ?_ | refine blk_alloc ?_ _)); refine blk_put (cs := #[.int .i64 ((rd_T68 l0_0 x26_2).f0), .slice A242_1 ((rd_T68 l0_0 x26_2).f1).length c242_1, .slice A242_2 ((rd_T68 l0_0 x26_2).f2).length c242_2, .slice none 0 0, .int .i64 0]) ?_ 3 _ rfl; (with_reducible repeat (first | refine blk_drewN ?_ _ | refine blk_drew ?_ | refine blk_alloc ?_ _)); refine blk_put (cs := #[.int .i64 ((rd_T68 l0_0 x26_2).f0), .slice A242_1 ((rd_T68 l0_0 x26_2).f1).length c242_1, .slice none 0 0, .slice none 0 0, .int .i64 0]) ?_ 2 _ rfl; (with_reducible repeat (first | refine blk_drewN ?_ _ | refine blk_drew ?_ | refine blk_alloc ?_ _)); refine blk_put (cs := #[.int .i64 ((rd_T68 l0_0 x26_2).f0), .slice none 0 0, .slice none 0 0, .slice none 0 0, .int .i64 0]) ?_ 1 _ rfl; (with_reducible repeat (first | refine blk_drewN ?_ _ | refine blk_drew ?_ | refine blk_alloc ?_ _)); refine blk_put (cs := #[.int .i64 0, .slice none 0 0, .slice none 0 0, .slice none 0 0, .int .i64 0]) ?_ 0 _ rfl; (with_reducible repeat (first | refine blk_drewN ?_ _ | refine blk_drew ?_ | refine blk_alloc ?_ _)); exact BK243.out⟩
            have n2_ : Aside0 (Below w.heap.size w (((((w27.setCell ⟨gb243, 0, none⟩ (.int .i64 ((rd_T68 l0_0 x26_2).f0))).setCell ⟨gb243, 1, none⟩ (.slice A242_1 ((rd_T68 l0_0 x26_2).f1).length c242_1)).setCell ⟨gb243, 2, none⟩ (.slice A242_2 ((rd_T68 l0_0 x26_2).f2).length c242_2)).setCell ⟨gb243, 3, none⟩ (.slice A242_3 ((rd_T68 l0_0 x26_2).f3).length c242_3)).setCell ⟨gb243, 4, none⟩ (.int .i64 ((rd_T68 l0_0 x26_2).f4)))) := ⟨bT2 HB GE239 GE243⟩
            (try clear BK239)
            (try clear BK243)
            (try clear HB)
            generalize (((((w27.setCell ⟨gb243, 0, none⟩ (.int .i64 ((rd_T68 l0_0 x26_2).f0))).setCell ⟨gb243, 1, none⟩ (.slice A242_1 ((rd_T68 l0_0 x26_2).f1).length c242_1)).setCell ⟨gb243, 2, none⟩ (.slice A242_2 ((rd_T68 l0_0 x26_2).f2).length c242_2)).setCell ⟨gb243, 3, none⟩ (.slice A242_3 ((rd_T68 l0_0 x26_2).f3).length c242_3)).setCell ⟨gb243, 4, none⟩ (.int .i64 ((rd_T68 l0_0 x26_2).f4))) = w30 at n0_ n1_ n2_ ⊢
            have BK239 := n0_
            have BK243 := n1_
            have HB := n2_
            clear n0_ n1_ n2_
            replace BK239 := mA (blk_drew BK239.out)
            replace BK243 := mA (blk_drew BK243.out)
            replace HB := mA (below_drew1 HB.out)
            have p245 : 0 ≤ (0 : Int) := (by omega)
            have q245 : 0 < (l0_0.length : Int) := of_decide_eq_true aT
            obtain ⟨ad245, A245_1, c245_1, A245_2, c245_2, A245_3, c245_3, e245, hx245_0, hx245_1, hx245_2, hx245_3, hx245_4, hl245_1, hi245_1, hl245_2, hi245_2, hl245_3, hi245_3⟩ := at_T68 HR0_0.out 0 p245 q245
            have hw245_4 := hx245_4
            (try rw [show ((0 : Int)).toNat = 0 from rfl] at hw245_4)
            (try rw [show 0 * 5 = 0 from rfl] at hw245_4)
            (try rw [Addr.add_zero'] at hw245_4)
            have hw245_3 := hx245_3
            (try rw [show ((0 : Int)).toNat = 0 from rfl] at hw245_3)
            (try rw [show 0 * 5 = 0 from rfl] at hw245_3)
            (try rw [Addr.add_zero'] at hw245_3)
            have hw245_2 := hx245_2
            (try rw [show ((0 : Int)).toNat = 0 from rfl] at hw245_2)
            (try rw [show 0 * 5 = 0 from rfl] at hw245_2)
            (try rw [Addr.add_zero'] at hw245_2)
            have hw245_1 := hx245_1
            (try rw [show ((0 : Int)).toNat = 0 from rfl] at hw245_1)
            (try rw [show 0 * 5 = 0 from rfl] at hw245_1)
            (try rw [Addr.add_zero'] at hw245_1)
            have hw245_0 := hx245_0
            (try rw [show ((0 : Int)).toNat = 0 from rfl] at hw245_0)
            (try rw [show 0 * 5 = 0 from rfl] at hw245_0)
            (try rw [Addr.add_zero'] at hw245_0)
            obtain rfl : ad242 = ad245 := (by injection e245)
            have qi245 : (0 < l0_0.length) = True := eq_true (by omega)
            (try rw [show ((0 : Int)).toNat = 0 from rfl] at hx245_0)
            (try rw [show 0 * 5 = 0 from rfl] at hx245_0)
            (try rw [Addr.add_zero'] at hx245_0)
            (try rw [show ((0 : Int)).toNat = 0 from rfl] at hx245_1)
            (try rw [show 0 * 5 = 0 from rfl] at hx245_1)
            (try rw [Addr.add_zero'] at hx245_1)
            (try rw [show ((0 : Int)).toNat = 0 from rfl] at hx245_2)
            (try rw [show 0 * 5 = 0 from rfl] at hx245_2)
            (try rw [Addr.add_zero'] at hx245_2)
            (try rw [show ((0 : Int)).toNat = 0 from rfl] at hx245_3)
            (try rw [show 0 * 5 = 0 from rfl] at hx245_3)
            (try rw [Addr.add_zero'] at hx245_3)
            (try rw [show ((0 : Int)).toNat = 0 from rfl] at hx245_4)
            (try rw [show 0 * 5 = 0 from rfl] at hx245_4)
            (try rw [Addr.add_zero'] at hx245_4)
            replace hx245_0 := (HB.out.cell (World.block_lt_of_cell? w _ hx245_0)).trans hx245_0
            replace hx245_1 := (HB.out.cell (World.block_lt_of_cell? w _ hx245_1)).trans hx245_1
            replace hx245_2 := (HB.out.cell (World.block_lt_of_cell? w _ hx245_2)).trans hx245_2
            replace hx245_3 := (HB.out.cell (World.block_lt_of_cell? w _ hx245_3)).trans hx245_3
            replace hx245_4 := (HB.out.cell (World.block_lt_of_cell? w _ hx245_4)).trans hx245_4
            have HR245_1 := mA hi245_1
            have HC245_1 := mA hl245_1
            clear hi245_1 hl245_1
            have HR245_2 := mA hi245_2
            have HC245_2 := mA hl245_2
            clear hi245_2 hl245_2
            have HR245_3 := mA hi245_3
            have HC245_3 := mA hl245_3
            clear hi245_3 hl245_3
            replace p245 := eq_true p245
            replace q245 := eq_true q245
            refine start_ (n := 13) (S := fun w' => w'.cell? ⟨gb243, 0, none⟩ = some (.int .i64 ((rd_T68 l0_0 x26_2).f0)) ∧ w'.cell? ⟨gb243, 1, none⟩ = some (.slice A242_1 ((rd_T68 l0_0 x26_2).f1).length c242_1) ∧ w'.cell? ⟨gb243, 2, none⟩ = some (.slice A242_2 ((rd_T68 l0_0 x26_2).f2).length c242_2) ∧ w'.cell? ⟨gb243, 3, none⟩ = some (.slice A242_3 ((rd_T68 l0_0 x26_2).f3).length c242_3) ∧ w'.cell? ⟨gb243, 4, none⟩ = some (.int .i64 ((rd_T68 l0_0 x26_2).f4)) ∧ w'.cell? ⟨gb239, 0, none⟩ = some (.slice (some ad242) l0_0.length c0_0) ∧ w'.cell? ⟨gb239, 1, none⟩ = some (.int .i64 a0_1) ∧ w'.cell? ⟨gb239, 2, none⟩ = some (.int .i64 a0_2) ∧ w'.cell? ad242 = some (.int .i64 ((rd_T68 l0_0 0).f0)) ∧ w'.cell? ⟨ad242.block, ad242.off + 1, none⟩ = some (.slice A245_1 ((rd_T68 l0_0 0).f1).length c245_1) ∧ w'.cell? ⟨ad242.block, ad242.off + 2, none⟩ = some (.slice A245_2 ((rd_T68 l0_0 0).f2).length c245_2) ∧ w'.cell? ⟨ad242.block, ad242.off + 3, none⟩ = some (.slice A245_3 ((rd_T68 l0_0 0).f3).length c245_3) ∧ w'.cell? ⟨ad242.block, ad242.off + 4, none⟩ = some (.int .i64 ((rd_T68 l0_0 0).f4))) (ds := []) #[false, false, false, false, false, false, false, false, false, false, false, false, false] (by kernel_rfl) rfl rfl ⟨(blk_cell BK243.out 0).trans rfl, (blk_cell BK243.out 1).trans rfl, (blk_cell BK243.out 2).trans rfl, (blk_cell BK243.out 3).trans rfl, (blk_cell BK243.out 4).trans rfl, (blk_cell BK239.out 0).trans rfl, (blk_cell BK239.out 1).trans rfl, (blk_cell BK239.out 2).trans rfl, ((HB.out.cell (World.block_lt_of_cell? w _ hw245_0)).trans hw245_0), ((HB.out.cell (World.block_lt_of_cell? w _ hw245_1)).trans hw245_1), ((HB.out.cell (World.block_lt_of_cell? w _ hw245_2)).trans hw245_2), ((HB.out.cell (World.block_lt_of_cell? w _ hw245_3)).trans hw245_3), ((HB.out.cell (World.block_lt_of_cell? w _ hw245_4)).trans hw245_4)⟩ (fun hHeld => ?_); refine with_tabW impl_IsValidJoiner.tab7 impl_IsValidJoiner.bits7 (fun HT_ HW_ => ?_)
            generalize w30.drew = w31 at BK239 BK243 HB HR245_1 HR245_2 HR245_3 hx245_0 hx245_1 hx245_2 hx245_3 hx245_4 hHeld ⊢
            refine take_ (i := 0) (N := some 30) (v := ?_) (a' := ?_) #[true, false, false, false, false, false, false, false, false, false, false, false, false] rfl rfl (take_ofW HT_.out HW_.out (by kernel_rfl)) (fun _ _ _ h => h) (Or.inl ⟨by rfl, ?_⟩) hHeld ?_ ?_
            rotate_left
            ·
             rintro w' ⟨s0, s1, s2, s3, s4, s5, s6, s7, s8, s9, s10, s11, s12⟩
             go_simp
             with_reducible rfl
            rotate_left
            ·
             simp only [Act.put, List.setIfInBounds_toArray, List.set_cons_zero, List.set_cons_succ, i64_w, i32_w]
             rfl
            refine one_ (i := 1) (N := some 31) #[true, true, false, false, false, false, false, false, false, false, false, false, false] rfl rfl (one_of HT_.out (by kernel_rfl)) (by decide) (fun K hK => ?_)
            refine goes_ Try.func48 (by kernel_rfl) rfl #[.agg #[.int .i64 ((rd_T68 l0_0 x26_2).f0), .slice A242_1 ((rd_T68 l0_0 x26_2).f1).length c242_1, .slice A242_2 ((rd_T68 l0_0 x26_2).f2).length c242_2, .slice A242_3 ((rd_T68 l0_0 x26_2).f3).length c242_3, .int .i64 ((rd_T68 l0_0 x26_2).f4)]] (by rfl) rfl rfl mT ?_
            with_reducible refine (impl_IsValidTask.calls k2 ((rd_T68 l0_0 x26_2).f0) _ _ ((rd_T68 l0_0 x26_2).f1) _ _ ((rd_T68 l0_0 x26_2).f2) _ _ ((rd_T68 l0_0 x26_2).f3) ((rd_T68 l0_0 x26_2).f4) true _ ?side1 ?side2 ?side3 ?side4 ?side5 ?side6 A16.out).mono ?_
            (case side1 => exact cT (Kd.C_below HR242_1.out HB.out))
            (case side2 => exact HC242_1.out)
            (case side3 => exact cT (Kd.C_below HR242_2.out HB.out))
            (case side4 => exact HC242_2.out)
            (case side5 => exact cT (Kd.C_below HR242_3.out HB.out))
            (case side6 => exact HC242_3.out)
            rintro e w32 ⟨rfl, hb⟩
            refine ⟨_, rfl, ?_⟩
            replace BK239 := kB BK239 hb
            replace BK243 := kB BK243 hb
            replace HB := mA (below_step (bT2 HB GE239 GE243) hb)
            (try clear hb)
            (try clear hb2)
            (try clear hk)
            (try clear hi)
            refine hK.out _ _ ⟨(blk_cell BK243.out 0).trans rfl, (blk_cell BK243.out 1).trans rfl, (blk_cell BK243.out 2).trans rfl, (blk_cell BK243.out 3).trans rfl, (blk_cell BK243.out 4).trans rfl, (blk_cell BK239.out 0).trans rfl, (blk_cell BK239.out 1).trans rfl, (blk_cell BK239.out 2).trans rfl, ((HB.out.cell (World.block_lt_of_cell? w _ hw245_0)).trans hw245_0), ((HB.out.cell (World.block_lt_of_cell? w _ hw245_1)).trans hw245_1), ((HB.out.cell (World.block_lt_of_cell? w _ hw245_2)).trans hw245_2), ((HB.out.cell (World.block_lt_of_cell? w _ hw245_3)).trans hw245_3), ((HB.out.cell (World.block_lt_of_cell? w _ hw245_4)).trans hw245_4)⟩ (fun hHeld => ?_)
            clear hK K
            refine norm_ (a' := ?_) ?_ ?_
            rotate_left
            ·
             show Act.put _ (some 31) _ = _
             simp only [Act.put, List.setIfInBounds_toArray, List.set_cons_zero, List.set_cons_succ, i64_w, i32_w]
             rfl
            refine pureT (i := 2) (N := some 32) #[true, true, true, false, false, false, false, false, false, false, false, false, false] (any_of HT_.out (by kernel_rfl)) ?_
            refine pureT (i := 3) (N := some 33) #[true, true, true, true, false, false, false, false, false, false, false, false, false] (any_of HT_.out (by kernel_rfl)) ?_
            refine pureT (i := 4) (N := some 34) #[true, true, true, true, true, false, false, false, false, false, false, false, false] (any_of HT_.out (by kernel_rfl)) ?_
            refine pureT (i := 6) (N := some 36) #[true, true, true, true, true, false, true, false, false, false, false, false, false] (any_of HT_.out (by kernel_rfl)) ?_
            refine take_ (i := 5) (N := some 35) (v := ?_) (a' := ?_) #[true, true, true, true, true, true, true, false, false, false, false, false, false] rfl rfl (take_ofW HT_.out HW_.out (by kernel_rfl)) (fun _ _ _ h => h) (Or.inl ⟨by rfl, ?_⟩) hHeld ?_ ?_
            rotate_left
            ·
             rintro w' ⟨s0, s1, s2, s3, s4, s5, s6, s7, s8, s9, s10, s11, s12⟩
             go_simp
             with_reducible rfl
            rotate_left
            ·
             simp only [Act.put, List.setIfInBounds_toArray, List.set_cons_zero, List.set_cons_succ, i64_w, i32_w]
             rfl
            refine take_ (i := 7) (N := some 37) (v := ?_) (a' := ?_) #[true, true, true, true, true, true, true, true, false, false, false, false, false] rfl rfl (take_ofW HT_.out HW_.out (by kernel_rfl)) (fun _ _ _ h => h) (Or.inl ⟨by rfl, ?_⟩) hHeld ?_ ?_
            rotate_left
            ·
             rintro w' ⟨s0, s1, s2, s3, s4, s5, s6, s7, s8, s9, s10, s11, s12⟩
             go_simp
             with_reducible rfl
            rotate_left
            ·
             simp only [Act.put, List.setIfInBounds_toArray, List.set_cons_zero, List.set_cons_succ, i64_w, i32_w]
             rfl
            refine pureT (i := 8) (N := some 38) #[true, true, true, true, true, true, true, true, true, false, false, false, false] (any_of HT_.out (by kernel_rfl)) ?_
            refine pureT (i := 9) (N := some 39) #[true, true, true, true, true, true, true, true, true, true, false, false, false] (any_of HT_.out (by kernel_rfl)) ?_
            refine take_ (i := 10) (N := some 40) (v := ?_) (a' := ?_) #[true, true, true, true, true, true, true, true, true, true, true, false, false] rfl rfl (take_ofW HT_.out HW_.out (by kernel_rfl)) (fun _ _ _ h => h) (Or.inl ⟨by rfl, ?_⟩) hHeld ?_ ?_
            rotate_left
            ·
             rintro w' ⟨s0, s1, s2, s3, s4, s5, s6, s7, s8, s9, s10, s11, s12⟩
             go_simp
             with_reducible rfl
            rotate_left
            ·
             simp only [Act.put, List.setIfInBounds_toArray, List.set_cons_zero, List.set_cons_succ, i64_w, i32_w]
             rfl
            refine pureT (i := 11) (N := some 41) #[true, true, true, true, true, true, true, true, true, true, true, true, false] (any_of HT_.out (by kernel_rfl)) ?_
            refine pureT (i := 12) (N := some 42) #[true, true, true, true, true, true, true, true, true, true, true, true, true] (any_of HT_.out (by kernel_rfl)) ?_
            refine done_ (done_of HT_.out (by kernel_rfl)) ?_
            try go_wp2
            go_ret
            exact ⟨eT, bT2 HB GE239 GE243⟩
          ·
           rw [if_neg c18] at H
           exact absurd H (by simp)
         ·
          replace c17 := Bool.eq_false_iff.mpr c17
          subst c17
          rw [if_neg (show ¬ (false = true) by decide)] at H
          obtain rfl := Option.some.inj H
          have p242 : 0 ≤ (x26_2 : Int) := of_decide_eq_true aT
          have q242 : x26_2 < (l0_0.length : Int) := of_decide_eq_true aT
          obtain ⟨ad242, A242_1, c242_1, A242_2, c242_2, A242_3, c242_3, e242, hx242_0, hx242_1, hx242_2, hx242_3, hx242_4, hl242_1, hi242_1, hl242_2, hi242_2, hl242_3, hi242_3⟩ := at_T68 HR0_0.out x26_2 p242 q242
          cases e242
          replace hx242_0 := (HB.out.cell (World.block_lt_of_cell? w _ hx242_0)).trans hx242_0
          replace hx242_1 := (HB.out.cell (World.block_lt_of_cell? w _ hx242_1)).trans hx242_1
          replace hx242_2 := (HB.out.cell (World.block_lt_of_cell? w _ hx242_2)).trans hx242_2
          replace hx242_3 := (HB.out.cell (World.block_lt_of_cell? w _ hx242_3)).trans hx242_3
          replace hx242_4 := (HB.out.cell (World.block_lt_of_cell? w _ hx242_4)).trans hx242_4
          have HR242_1 := mA hi242_1
          have HC242_1 := mA hl242_1
          clear hi242_1 hl242_1
          have HR242_2 := mA hi242_2
          have HC242_2 := mA hl242_2
          clear hi242_2 hl242_2
          have HR242_3 := mA hi242_3
          have HC242_3 := mA hl242_3
          clear hi242_3 hl242_3
          replace p242 := eq_true p242
          replace q242 := eq_true q242
          try go_wp2_with (first | ((with_reducible refine gate_dst (N := 6) rfl ?_); refine boxT 6 #[.int .i64 0, .slice none 0 0, .slice none 0 0, .slice none 0 0, .int .i64 0] 68 ?_; intro gb243 hg w33 hbox hb; have BK243 := mA (hbox); have GW243 := mA ((by rw [hg]; exact (below_size (bT1 HB GE239)) : w.heap.size ≤ gb243)); have GE243 := GW243; replace HB := mA (below_step (bT1 HB GE239) hb); have NB239_243 : Aside0 (gb239 ≠ gb243) := nL BK239 hg; have NB243_239 : Aside0 (gb243 ≠ gb239) := nG BK239 hg; replace BK239 := kB BK239 hb; clear hb hbox hg; have hnb34 := NB243_239.out; have hnc34 := NB239_243.out; obtain ⟨hcz35_0, hcz35_1, hcz35_2, hcz35_3, hcz35_4, hfz35_0, hfz35_1, hfz35_2, hfz35_3, hfz35_4⟩ := blk5 BK243.out))
          have n0_ : Aside0 ((((((w33.setCell ⟨gb243, 0, none⟩ (.int .i64 ((rd_T68 l0_0 x26_2).f0))).setCell ⟨gb243, 1, none⟩ (.slice A242_1 ((rd_T68 l0_0 x26_2).f1).length c242_1)).setCell ⟨gb243, 2, none⟩ (.slice A242_2 ((rd_T68 l0_0 x26_2).f2).length c242_2)).setCell ⟨gb243, 3, none⟩ (.slice A242_3 ((rd_T68 l0_0 x26_2).f3).length c242_3)).setCell ⟨gb243, 4, none⟩ (.int .i64 ((rd_T68 l0_0 x26_2).f4))).heap[gb239]? = some (.cells #[.slice (some ad242) l0_0.length c0_0, .int .i64 a0_1, .int .i64 a0_2] 29 (0, 0))) := ⟨by (with_reducible repeat (first | refine blk_drewN ?_ _ | refine blk_drew ?_ | refine blk_alloc ?_ _)); refine blk_far ?_ NB239_243.out _; (with_reducible repeat (first | refine blk_drewN ?_ _ | refine blk_drew ?_ | refine blk_alloc ?_ _)); refine blk_far ?_ NB239_243.out _; (with_reducible repeat (first | refine blk_drewN ?_ _ | refine blk_drew ?_ | refine blk_alloc ?_ _)); refine blk_far ?_ NB239_243.out _; (with_reducible repeat (first | refine blk_drewN ?_ _ | refine blk_drew ?_ | refine blk_alloc ?_ _)); refine blk_far ?_ NB239_243.out _; (with_reducible repeat (first | refine blk_drewN ?_ _ | refine blk_drew ?_ | refine blk_alloc ?_ _)); refine blk_far ?_ NB239_243.out _; (with_reducible repeat (first | refine blk_drewN ?_ _ | refine blk_drew ?_ | refine blk_alloc ?_ _)); exact BK239.out⟩
          have n1_ : Aside0 ((((((w33.setCell ⟨gb243, 0, none⟩ (.int .i64 ((rd_T68 l0_0 x26_2).f0))).setCell ⟨gb243, 1, none⟩ (.slice A242_1 ((rd_T68 l0_0 x26_2).f1).length c242_1)).setCell ⟨gb243, 2, none⟩ (.slice A242_2 ((rd_T68 l0_0 x26_2).f2).length c242_2)).setCell ⟨gb243, 3, none⟩ (.slice A242_3 ((rd_T68 l0_0 x26_2).f3).length c242_3)).setCell ⟨gb243, 4, none⟩ (.int .i64 ((rd_T68 l0_0 x26_2).f4))).heap[gb243]? = some (.cells #[.int .i64 ((rd_T68 l0_0 x26_2).f0), .slice A242_1 ((rd_T68 l0_0 x26_2).f1).length c242_1, .slice A242_2 ((rd_T68 l0_0 x26_2).f2).length c242_2, .slice A242_3 ((rd_T68 l0_0 x26_2).f3).length c242_3, .int .i64 ((rd_T68 l0_0 x26_2).f4)] 68 (0, 0))) := ⟨by (with_reducible repeat (first | refine blk_drewN ?_ _ | refine blk_drew ?_ | refine blk_alloc ?_ _)); refine blk_put (cs := #[.int .i64 ((rd_T68 l0_0 x26_2).f0), .slice A242_1 ((rd_T68 l0_0 x26_2).f1).length c242_1, .slice A242_2 ((rd_T68 l0_0 x26_2).f2).length c242_2, .slice A242_3 ((rd_T68 l0_0 x26_2).f3).length c242_3, .int .i64 0]) ?_ 4 _ rfl; (with_reducible repeat (first | refine blk_drewN ?_ _ | refine blk_drew ?_ | refine blk_alloc ?_ _)); refine blk_put (cs := #[.int .i64 ((rd_T68 l0_0 x26_2).f0), .slice A242_1 ((rd_T68 l0_0 x26_2).f1).length c242_1, .slice A242_2 ((rd_T68 l0_0 x26_2).f2).length c242_2, .slice none 0 0, .int .i64 0]) ?_ 3 _ rfl; (with_reducible repeat (first | refine blk_drewN ?_ _ | refine blk_drew ?_ | refine blk_alloc ?_ _)); refine blk_put (cs := #[.int .i64 ((rd_T68 l0_0 x26_2).f0), .slice A242_1 ((rd_T68 l0_0 x26_2).f1).length c242_1, .slice none 0 0, .slice none 0 0, .int .i64 0]) ?_ 2 _ rfl; (with_reducible repeat (first | refine blk_drewN ?_ _ | refine blk_drew ?_ | refine blk_alloc ?_ _)); refine blk_put (cs := #[.int .i64 ((rd_T68 l0_0 x26_2).f0), .slice none 0 0, .slice none 0 0, .slice none 0 0, .int .i64 0]) ?_ 1 _ rfl; (with_reducible repeat (first | refine blk_drewN ?_ _ | refine blk_drew ?_ | refine blk_alloc ?_ _)); refine blk_put (cs := #[.int .i64 0, .slice none 0 0, .slice none 0 0, .slice none 0 0, .int .i64 0]) ?_ 0 _ rfl; (with_reducible repeat (first | refine blk_drewN ?_ _ | refine blk_drew ?_ | refine blk_alloc ?_ _)); exact BK243.out⟩
          have n2_ : Aside0 (Below w.heap.size w (((((w33.setCell ⟨gb243, 0, none⟩ (.int .i64 ((rd_T68 l0_0 x26_2).f0))).setCell ⟨gb243, 1, none⟩ (.slice A242_1 ((rd_T68 l0_0 x26_2).f1).length c242_1)).setCell ⟨gb243, 2, none⟩ (.slice A242_2 ((rd_T68 l0_0 x26_2).f2).length c242_2)).setCell ⟨gb243, 3, none⟩ (.slice A242_3 ((rd_T68 l0_0 x26_2).f3).length c242_3)).setCell ⟨gb243, 4, none⟩ (.int .i64 ((rd_T68 l0_0 x26_2).f4)))) := ⟨bT2 HB GE239 GE243⟩
          (try clear BK239)
          (try clear BK243)
          (try clear HB)
          generalize (((((w33.setCell ⟨gb243, 0, none⟩ (.int .i64 ((rd_T68 l0_0 x26_2).f0))).setCell ⟨gb243, 1, none⟩ (.slice A242_1 ((rd_T68 l0_0 x26_2).f1).length c242_1)).setCell ⟨gb243, 2, none⟩ (.slice A242_2 ((rd_T68 l0_0 x26_2).f2).length c242_2)).setCell ⟨gb243, 3, none⟩ (.slice A242_3 ((rd_T68 l0_0 x26_2).f3).length c242_3)).setCell ⟨gb243, 4, none⟩ (.int .i64 ((rd_T68 l0_0 x26_2).f4))) = w36 at n0_ n1_ n2_ ⊢
          have BK239 := n0_
          have BK243 := n1_
          have HB := n2_
          clear n0_ n1_ n2_
          replace BK243 := mA (blk_drew BK243.out)
          replace HB := mA (below_drew1 HB.out)
          refine start_ (n := 13) (S := fun w' => w'.cell? ⟨gb243, 0, none⟩ = some (.int .i64 ((rd_T68 l0_0 x26_2).f0)) ∧ w'.cell? ⟨gb243, 1, none⟩ = some (.slice A242_1 ((rd_T68 l0_0 x26_2).f1).length c242_1) ∧ w'.cell? ⟨gb243, 2, none⟩ = some (.slice A242_2 ((rd_T68 l0_0 x26_2).f2).length c242_2) ∧ w'.cell? ⟨gb243, 3, none⟩ = some (.slice A242_3 ((rd_T68 l0_0 x26_2).f3).length c242_3) ∧ w'.cell? ⟨gb243, 4, none⟩ = some (.int .i64 ((rd_T68 l0_0 x26_2).f4))) (ds := []) #[false, false, false, false, false, false, false, false, false, false, false, false, false] (by kernel_rfl) rfl rfl ⟨(blk_cell BK243.out 0).trans rfl, (blk_cell BK243.out 1).trans rfl, (blk_cell BK243.out 2).trans rfl, (blk_cell BK243.out 3).trans rfl, (blk_cell BK243.out 4).trans rfl⟩ (fun hHeld => ?_); refine with_tabW impl_IsValidJoiner.tab7 impl_IsValidJoiner.bits7 (fun HT_ HW_ => ?_)
          generalize w36.drew = w37 at BK243 HB hHeld ⊢
          refine take_ (i := 0) (N := some 30) (v := ?_) (a' := ?_) #[true, false, false, false, false, false, false, false, false, false, false, false, false] rfl rfl (take_ofW HT_.out HW_.out (by kernel_rfl)) (fun _ _ _ h => h) (Or.inl ⟨by rfl, ?_⟩) hHeld ?_ ?_
          rotate_left
          ·
           rintro w' ⟨s0, s1, s2, s3, s4⟩
           go_simp
           with_reducible rfl
          rotate_left
          ·
           simp only [Act.put, List.setIfInBounds_toArray, List.set_cons_zero, List.set_cons_succ, i64_w, i32_w]
           rfl
          refine one_ (i := 1) (N := some 31) #[true, true, false, false, false, false, false, false, false, false, false, false, false] rfl rfl (one_of HT_.out (by kernel_rfl)) (by decide) (fun K hK => ?_)
          refine goes_ Try.func48 (by kernel_rfl) rfl #[.agg #[.int .i64 ((rd_T68 l0_0 x26_2).f0), .slice A242_1 ((rd_T68 l0_0 x26_2).f1).length c242_1, .slice A242_2 ((rd_T68 l0_0 x26_2).f2).length c242_2, .slice A242_3 ((rd_T68 l0_0 x26_2).f3).length c242_3, .int .i64 ((rd_T68 l0_0 x26_2).f4)]] (by rfl) rfl rfl mT ?_
          with_reducible refine (impl_IsValidTask.calls k2 ((rd_T68 l0_0 x26_2).f0) _ _ ((rd_T68 l0_0 x26_2).f1) _ _ ((rd_T68 l0_0 x26_2).f2) _ _ ((rd_T68 l0_0 x26_2).f3) ((rd_T68 l0_0 x26_2).f4) false _ ?side1 ?side2 ?side3 ?side4 ?side5 ?side6 A16.out).mono ?_
          (case side1 => exact cT (Kd.C_below HR242_1.out HB.out))
          (case side2 => exact HC242_1.out)
          (case side3 => exact cT (Kd.C_below HR242_2.out HB.out))
          (case side4 => exact HC242_2.out)
          (case side5 => exact cT (Kd.C_below HR242_3.out HB.out))
          (case side6 => exact HC242_3.out)
          rintro e w38 ⟨rfl, hb⟩
          refine ⟨_, rfl, ?_⟩
          replace BK243 := kB BK243 hb
          replace HB := mA (below_step (bT2 HB GE239 GE243) hb)
          (try clear hb)
          (try clear hb2)
          (try clear hk)
          (try clear hi)
          refine hK.out _ _ ⟨(blk_cell BK243.out 0).trans rfl, (blk_cell BK243.out 1).trans rfl, (blk_cell BK243.out 2).trans rfl, (blk_cell BK243.out 3).trans rfl, (blk_cell BK243.out 4).trans rfl⟩ (fun hHeld => ?_)
          clear hK K
          refine norm_ (a' := ?_) ?_ ?_
          rotate_left
          ·
           show Act.put _ (some 31) _ = _
           simp only [Act.put, List.setIfInBounds_toArray, List.set_cons_zero, List.set_cons_succ, i64_w, i32_w]
           rfl
          refine pureT (i := 2) (N := some 32) #[true, true, true, false, false, false, false, false, false, false, false, false, false] (any_of HT_.out (by kernel_rfl)) ?_
          refine pureT (i := 3) (N := some 33) #[true, true, true, true, false, false, false, false, false, false, false, false, false] (any_of HT_.out (by kernel_rfl)) ?_
          refine pure_ (i := 4) (N := some 34) (v := undef) (a' := ?_) #[true, true, true, true, true, false, false, false, false, false, false, false, false] rfl rfl (any_of HT_.out (by kernel_rfl)) (fun _ _ _ h => h) (Or.inr ⟨by rfl, rfl⟩) ?_ ?_
          rotate_left
          ·
           simp only [Act.put, List.setIfInBounds_toArray, List.set_cons_zero, List.set_cons_succ, i64_w, i32_w]
           rfl
          refine pure_ (i := 5) (N := some 35) (v := undef) (a' := ?_) #[true, true, true, true, true, true, false, false, false, false, false, false, false] rfl rfl (any_of HT_.out (by kernel_rfl)) (fun _ _ _ h => h) (Or.inr ⟨by rfl, rfl⟩) ?_ ?_
          rotate_left
          ·
           simp only [Act.put, List.setIfInBounds_toArray, List.set_cons_zero, List.set_cons_succ, i64_w, i32_w]
           rfl
          refine pure_ (i := 6) (N := some 36) (v := undef) (a' := ?_) #[true, true, true, true, true, true, true, false, false, false, false, false, false] rfl rfl (any_of HT_.out (by kernel_rfl)) (fun _ _ _ h => h) (Or.inr ⟨by rfl, rfl⟩) ?_ ?_
          rotate_left
          ·
           simp only [Act.put, List.setIfInBounds_toArray, List.set_cons_zero, List.set_cons_succ, i64_w, i32_w]
           rfl
          refine pure_ (i := 7) (N := some 37) (v := undef) (a' := ?_) #[true, true, true, true, true, true, true, true, false, false, false, false, false] rfl rfl (any_of HT_.out (by kernel_rfl)) (fun _ _ _ h => h) (Or.inr ⟨by rfl, rfl⟩) ?_ ?_
          rotate_left
          ·
           simp only [Act.put, List.setIfInBounds_toArray, List.set_cons_zero, List.set_cons_succ, i64_w, i32_w]
           rfl
          refine pure_ (i := 8) (N := some 38) (v := undef) (a' := ?_) #[true, true, true, true, true, true, true, true, true, false, false, false, false] rfl rfl (any_of HT_.out (by kernel_rfl)) (fun _ _ _ h => h) (Or.inr ⟨by rfl, rfl⟩) ?_ ?_
          rotate_left
          ·
           simp only [Act.put, List.setIfInBounds_toArray, List.set_cons_zero, List.set_cons_succ, i64_w, i32_w]
           rfl
          refine pure_ (i := 9) (N := some 39) (v := undef) (a' := ?_) #[true, true, true, true, true, true, true, true, true, true, false, false, false] rfl rfl (any_of HT_.out (by kernel_rfl)) (fun _ _ _ h => h) (Or.inr ⟨by rfl, rfl⟩) ?_ ?_
          rotate_left
          ·
           simp only [Act.put, List.setIfInBounds_toArray, List.set_cons_zero, List.set_cons_succ, i64_w, i32_w]
           rfl
          refine pure_ (i := 10) (N := some 40) (v := undef) (a' := ?_) #[true, true, true, true, true, true, true, true, true, true, true, false, false] rfl rfl (any_of HT_.out (by kernel_rfl)) (fun _ _ _ h => h) (Or.inr ⟨by rfl, rfl⟩) ?_ ?_
          rotate_left
          ·
           simp only [Act.put, List.setIfInBounds_toArray, List.set_cons_zero, List.set_cons_succ, i64_w, i32_w]
           rfl
          refine pure_ (i := 11) (N := some 41) (v := undef) (a' := ?_) #[true, true, true, true, true, true, true, true, true, true, true, true, false] rfl rfl (any_of HT_.out (by kernel_rfl)) (fun _ _ _ h => h) (Or.inr ⟨by rfl, rfl⟩) ?_ ?_
          rotate_left
          ·
           simp only [Act.put, List.setIfInBounds_toArray, List.set_cons_zero, List.set_cons_succ, i64_w, i32_w]
           rfl
          refine pureT (i := 12) (N := some 42) #[true, true, true, true, true, true, true, true, true, true, true, true, true] (any_of HT_.out (by kernel_rfl)) ?_
          refine done_ (done_of HT_.out (by kernel_rfl)) ?_
          try go_wp2
          go_ret
          exact ⟨eT, bT2 HB GE239 GE243⟩
        ·
         rw [if_neg c15] at H
         exact absurd H (by simp)
       ·
        rw [if_neg c14] at H
        exact absurd H (by simp)
      ·
       rw [if_neg c13] at H
       have c13b0 : decide (x26_2 < (l0_0.length : Int)) = false := decide_eq_false c13
       clear c13
       by_cases c39 : x3_2 ≤ 24
       ·
        rw [if_pos c39] at H
        have c39b0 : decide (x3_2 ≤ 24) = true := decide_eq_true c39
        clear c39
        obtain rfl := Option.some.inj H
        go_wp2
        go_ret
        exact ⟨eT, bT1 HB GE239⟩
       ·
        rw [if_neg c39] at H
        have c39b0 : decide (x3_2 ≤ 24) = false := decide_eq_false c39
        clear c39
        obtain rfl := Option.some.inj H
        go_wp2
        go_ret
        exact ⟨eT, bT1 HB GE239⟩

end Go.Proofs.Ytfcebaplphpajaa.P
