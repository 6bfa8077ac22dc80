/- Written by tools/seatprint.py over the translation. Lean checks it. -/
import Derived.Test.YthciieopabndcaaP0
import Derived.Test.YthciieopabndcaaPb5bc0
import Derived.Test.YthciieopabndcaaPfdbc0
namespace Go.Proofs.Ythciieopabndcaa.P
open Go.RowKit Go.Proofs.YthciieopabndcaaW.PrintWords Go.Proofs.YthciieopabndcaaW.PrintLast Go.Proofs.YthciieopabndcaaW.PrintMore
attribute [local go_sem] max2_int min2_int max_two min_two max_three min_three max_four min_four
set_option linter.unusedVariables false
set_option linter.unusedSimpArgs false

/-! ### spec_IsValidTask: function 27 -/
def spec_IsValidTask.f (k : Nat) (a0_0 : Int) (l0_1 : List (S62)) (l0_2 : List (S62)) (l0_3 : List Bool) (a0_4 : Int) : Option (Bool) := (spec_IsValidJoinKind.f a0_0).bind fun t312 => (if t312 = true then ((spec_AreValidRows.f k l0_1).bind fun t313 => (if t313 = true then ((spec_AreValidRows.f k l0_2).bind fun t314 => (if t314 = true then (if (l0_3.length : Int) = (l0_1.length : Int) then ((spec_l1In.f a0_4 0 4).bind fun t315 => (some t315)) else (some false)) else (some false))) else (some false))) else (some false))
theorem spec_IsValidTask.mono : ∀ a0 a1 a2 a3 a4 k, LeO (spec_IsValidTask.f k a0 a1 a2 a3 a4) (spec_IsValidTask.f (k + 1) a0 a1 a2 a3 a4) := by
 intro a0 a1 a2 a3 a4 k
 unfold spec_IsValidTask.f
 repeat' first
   | (with_reducible exact spec_AreValidRows.mono _ _)
   | (with_reducible exact LeO.refl _)
   | (with_reducible exact LeO.none _)
   | (with_reducible refine LeO.ite ?_ ?_)
   | (with_reducible refine LeO.bind ?_ (fun _ => ?_))
   | exact spec_AreValidRows.mono _ _
   | exact LeO.none _
   | refine LeO.ite ?_ ?_
   | refine LeO.bind ?_ (fun _ => ?_)
set_option maxHeartbeats 8000000 in
set_option maxRecDepth 100000 in
theorem spec_IsValidTask.calls (k : Nat) (a0_0 : Int) (A0_1 : Option Addr) (c0_1 : Nat) (l0_1 : List (S62)) (A0_2 : Option Addr) (c0_2 : Nat) (l0_2 : List (S62)) (A0_3 : Option Addr) (c0_3 : Nat) (l0_3 : List Bool) (a0_4 : Int) (r : Bool) (w : World) (hr0_1 : Kd.C k62 w A0_1 l0_1.length l0_1) (hc0_1 : l0_1.length ≤ c0_1) (hr0_2 : Kd.C k62 w A0_2 l0_2.length l0_2) (hc0_2 : l0_2.length ≤ c0_2) (hr0_3 : Kd.C Kd.bool w A0_3 l0_3.length l0_3) (hc0_3 : l0_3.length ≤ c0_3) (h : spec_IsValidTask.f k a0_0 l0_1 l0_2 l0_3 a0_4 = some r) :
  Calls Try.prog 27 #[.agg #[.int .i64 a0_0, .slice A0_1 l0_1.length c0_1, .slice A0_2 l0_2.length c0_2, .slice A0_3 l0_3.length c0_3, .int .i64 a0_4]] w fun e w' => e = .returned (.bool r) ∧ Below w.heap.size w w' := by
 have hu37 := Try.underlying37
 have HR0_1 := mA hr0_1
 have HC0_1 := mA hc0_1
 clear hr0_1 hc0_1
 have HR0_2 := mA hr0_2
 have HC0_2 := mA hc0_2
 clear hr0_2 hc0_2
 have HR0_3 := mA hr0_3
 have HC0_3 := mA hc0_3
 clear hr0_3 hc0_3
 have HB := mA (Below.refl w.heap.size w)
 have H : ((spec_IsValidJoinKind.f a0_0).bind fun t312 => (if t312 = true then ((spec_AreValidRows.f k l0_1).bind fun t313 => (if t313 = true then ((spec_AreValidRows.f k l0_2).bind fun t314 => (if t314 = true then (if (l0_3.length : Int) = (l0_1.length : Int) then ((spec_l1In.f a0_4 0 4).bind fun t315 => (some t315)) else (some false)) else (some false))) else (some false))) else (some false))) = some r := h
 clear h
 obtain ⟨t312, A2, H⟩ := Option.bind_eq_some_iff.mp H
 replace A2 := mA A2
 try dsimp only at H
 by_cases c3 : t312 = true
 ·
  subst c3
  rw [if_pos rfl] at H
  obtain ⟨t313, A4, H⟩ := Option.bind_eq_some_iff.mp H
  replace A4 := mA A4
  try dsimp only at H
  by_cases c5 : t313 = true
  ·
   subst c5
   rw [if_pos rfl] at H
   obtain ⟨t314, A6, H⟩ := Option.bind_eq_some_iff.mp H
   replace A6 := mA A6
   try dsimp only at H
   by_cases c7 : t314 = true
   ·
    subst c7
    rw [if_pos rfl] at H
    by_cases c8 : (l0_3.length : Int) = (l0_1.length : Int)
    ·
     rw [if_pos c8] at H
     have c8b0 : ((l0_3.length : Int) == (l0_1.length : Int)) = true := beq_iff_eq.mpr c8
     have c8b1 : ((l0_3.length : Int) != (l0_1.length : Int)) = false := bne_eq_false_iff_eq.mpr c8
     have c8b2 : (l0_3.length == l0_1.length) = true := by first | simpa using c8 | (simp at c8 ⊢; omega)
     clear c8
     obtain ⟨t315, A9, H⟩ := Option.bind_eq_some_iff.mp H
     replace A9 := mA A9
     replace H : (some t315) = some r := H
     obtain rfl := Option.some.inj H
     go_enter Try.func27, Try.ntmps27
     go_wp2_with (first | ((with_reducible refine gate_dst (N := 1) rfl ?_); (try (refine gate_guard (by rfl) ?_; dsimp only)); refine boxT 1 #[.int .i64 a0_0, .slice A0_1 l0_1.length c0_1, .slice A0_2 l0_2.length c0_2, .slice A0_3 l0_3.length c0_3, .int .i64 a0_4] 37 ?_; intro gb311 hg w10 hbox hb; have BK311 := mA (hbox); have GW311 := mA ((by rw [hg]; exact (below_size (bT HB)) : w.heap.size ≤ gb311)); have GE311 := GW311; replace HB := mA (below_step (bT HB) hb); clear hb hbox hg; obtain ⟨hcz11_0, hcz11_1, hcz11_2, hcz11_3, hcz11_4, hfz11_0, hfz11_1, hfz11_2, hfz11_3, hfz11_4⟩ := blk5 BK311.out) | ((with_reducible refine gate_callee (f := 62) rfl ?_); refine goesT (some 5) Try.func62 #[.int .i64 a0_0] ?_; (with_reducible refine (spec_IsValidJoinKind.calls a0_0 true _ A2.out).mono ?_); rintro e w' ⟨rfl, ⟨nd, rfl⟩⟩; refine ⟨_, rfl, ?_⟩) | (go_at_call 63; (with_reducible refine (spec_AreValidRows.calls k _ _ l0_1 true _ ?side1 ?side2 A4.out).mono ?_); (case side1 => exact cT (Kd.C_below HR0_1.out (bT1 HB GE311))); (case side2 => exact HC0_1.out); rintro e w12 ⟨rfl, hb⟩; replace BK311 := kB BK311 hb; replace HB := mA (below_step (bT1 HB GE311) hb); (try clear hb); obtain ⟨hcz13_0, hcz13_1, hcz13_2, hcz13_3, hcz13_4, hfz13_0, hfz13_1, hfz13_2, hfz13_3, hfz13_4⟩ := blk5 BK311.out) | (go_at_call 63; (with_reducible refine (spec_AreValidRows.calls k _ _ l0_2 true _ ?side1 ?side2 A6.out).mono ?_); (case side1 => exact cT (Kd.C_below HR0_2.out HB.out)); (case side2 => exact HC0_2.out); rintro e w14 ⟨rfl, hb⟩; replace BK311 := kB BK311 hb; replace HB := mA (below_step (bT1 HB GE311) hb); (try clear hb); obtain ⟨hcz15_0, hcz15_1, hcz15_2, hcz15_3, hcz15_4, hfz15_0, hfz15_1, hfz15_2, hfz15_3, hfz15_4⟩ := blk5 BK311.out) | (go_at_call 64; (with_reducible refine (spec_l1In.calls a0_4 0 4 t315 _ A9.out).mono ?_); rintro e w' ⟨rfl, ⟨nd, rfl⟩⟩))
     go_ret
     exact ⟨eT, bT1 HB GE311⟩
    ·
     rw [if_neg c8] at H
     have c8b0 : ((l0_3.length : Int) == (l0_1.length : Int)) = false := beq_eq_false_iff_ne.mpr c8
     have c8b1 : ((l0_3.length : Int) != (l0_1.length : Int)) = true := bne_iff_ne.mpr c8
     have c8b2 : (l0_3.length == l0_1.length) = false := by first | simpa using c8 | (simp at c8 ⊢; omega)
     obtain rfl := Option.some.inj H
     go_enter Try.func27, Try.ntmps27
     go_wp2_with (first | ((with_reducible refine gate_dst (N := 1) rfl ?_); (try (refine gate_guard (by rfl) ?_; dsimp only)); refine boxT 1 #[.int .i64 a0_0, .slice A0_1 l0_1.length c0_1, .slice A0_2 l0_2.length c0_2, .slice A0_3 l0_3.length c0_3, .int .i64 a0_4] 37 ?_; intro gb311 hg w16 hbox hb; have BK311 := mA (hbox); have GW311 := mA ((by rw [hg]; exact (below_size (bT HB)) : w.heap.size ≤ gb311)); have GE311 := GW311; replace HB := mA (below_step (bT HB) hb); clear hb hbox hg; obtain ⟨hcz17_0, hcz17_1, hcz17_2, hcz17_3, hcz17_4, hfz17_0, hfz17_1, hfz17_2, hfz17_3, hfz17_4⟩ := blk5 BK311.out) | ((with_reducible refine gate_callee (f := 62) rfl ?_); refine goesT (some 5) Try.func62 #[.int .i64 a0_0] ?_; (with_reducible refine (spec_IsValidJoinKind.calls a0_0 true _ A2.out).mono ?_); rintro e w' ⟨rfl, ⟨nd, rfl⟩⟩; refine ⟨_, rfl, ?_⟩) | (go_at_call 63; (with_reducible refine (spec_AreValidRows.calls k _ _ l0_1 true _ ?side1 ?side2 A4.out).mono ?_); (case side1 => exact cT (Kd.C_below HR0_1.out (bT1 HB GE311))); (case side2 => exact HC0_1.out); rintro e w18 ⟨rfl, hb⟩; replace BK311 := kB BK311 hb; replace HB := mA (below_step (bT1 HB GE311) hb); (try clear hb); obtain ⟨hcz19_0, hcz19_1, hcz19_2, hcz19_3, hcz19_4, hfz19_0, hfz19_1, hfz19_2, hfz19_3, hfz19_4⟩ := blk5 BK311.out) | (go_at_call 63; (with_reducible refine (spec_AreValidRows.calls k _ _ l0_2 true _ ?side1 ?side2 A6.out).mono ?_); (case side1 => exact cT (Kd.C_below HR0_2.out HB.out)); (case side2 => exact HC0_2.out); rintro e w20 ⟨rfl, hb⟩; replace BK311 := kB BK311 hb; replace HB := mA (below_step (bT1 HB GE311) hb); (try clear hb); obtain ⟨hcz21_0, hcz21_1, hcz21_2, hcz21_3, hcz21_4, hfz21_0, hfz21_1, hfz21_2, hfz21_3, hfz21_4⟩ := blk5 BK311.out))
     go_ret
     exact ⟨eT, bT1 HB GE311⟩
   ·
    replace c7 := Bool.eq_false_iff.mpr c7
    subst c7
    rw [if_neg (show ¬ (false = true) by decide)] at H
    obtain rfl := Option.some.inj H
    go_enter Try.func27, Try.ntmps27
    go_wp2_with (first | ((with_reducible refine gate_dst (N := 1) rfl ?_); (try (refine gate_guard (by rfl) ?_; dsimp only)); refine boxT 1 #[.int .i64 a0_0, .slice A0_1 l0_1.length c0_1, .slice A0_2 l0_2.length c0_2, .slice A0_3 l0_3.length c0_3, .int .i64 a0_4] 37 ?_; intro gb311 hg w22 hbox hb; have BK311 := mA (hbox); have GW311 := mA ((by rw [hg]; exact (below_size (bT HB)) : w.heap.size ≤ gb311)); have GE311 := GW311; replace HB := mA (below_step (bT HB) hb); clear hb hbox hg; obtain ⟨hcz23_0, hcz23_1, hcz23_2, hcz23_3, hcz23_4, hfz23_0, hfz23_1, hfz23_2, hfz23_3, hfz23_4⟩ := blk5 BK311.out) | ((with_reducible refine gate_callee (f := 62) rfl ?_); refine goesT (some 5) Try.func62 #[.int .i64 a0_0] ?_; (with_reducible refine (spec_IsValidJoinKind.calls a0_0 true _ A2.out).mono ?_); rintro e w' ⟨rfl, ⟨nd, rfl⟩⟩; refine ⟨_, rfl, ?_⟩) | (go_at_call 63; (with_reducible refine (spec_AreValidRows.calls k _ _ l0_1 true _ ?side1 ?side2 A4.out).mono ?_); (case side1 => exact cT (Kd.C_below HR0_1.out (bT1 HB GE311))); (case side2 => exact HC0_1.out); rintro e w24 ⟨rfl, hb⟩; replace BK311 := kB BK311 hb; replace HB := mA (below_step (bT1 HB GE311) hb); (try clear hb); obtain ⟨hcz25_0, hcz25_1, hcz25_2, hcz25_3, hcz25_4, hfz25_0, hfz25_1, hfz25_2, hfz25_3, hfz25_4⟩ := blk5 BK311.out) | (go_at_call 63; (with_reducible refine (spec_AreValidRows.calls k _ _ l0_2 false _ ?side1 ?side2 A6.out).mono ?_); (case side1 => exact cT (Kd.C_below HR0_2.out HB.out)); (case side2 => exact HC0_2.out); rintro e w26 ⟨rfl, hb⟩; replace HB := mA (below_step (bT1 HB GE311) hb); (try clear hb)))
    go_ret
    exact ⟨eT, bT1 HB GE311⟩
  ·
   replace c5 := Bool.eq_false_iff.mpr c5
   subst c5
   rw [if_neg (show ¬ (false = true) by decide)] at H
   obtain rfl := Option.some.inj H
   go_enter Try.func27, Try.ntmps27
   go_wp2_with (first | ((with_reducible refine gate_dst (N := 1) rfl ?_); (try (refine gate_guard (by rfl) ?_; dsimp only)); refine boxT 1 #[.int .i64 a0_0, .slice A0_1 l0_1.length c0_1, .slice A0_2 l0_2.length c0_2, .slice A0_3 l0_3.length c0_3, .int .i64 a0_4] 37 ?_; intro gb311 hg w27 hbox hb; have BK311 := mA (hbox); have GW311 := mA ((by rw [hg]; exact (below_size (bT HB)) : w.heap.size ≤ gb311)); have GE311 := GW311; replace HB := mA (below_step (bT HB) hb); clear hb hbox hg; obtain ⟨hcz28_0, hcz28_1, hcz28_2, hcz28_3, hcz28_4, hfz28_0, hfz28_1, hfz28_2, hfz28_3, hfz28_4⟩ := blk5 BK311.out) | ((with_reducible refine gate_callee (f := 62) rfl ?_); refine goesT (some 5) Try.func62 #[.int .i64 a0_0] ?_; (with_reducible refine (spec_IsValidJoinKind.calls a0_0 true _ A2.out).mono ?_); rintro e w' ⟨rfl, ⟨nd, rfl⟩⟩; refine ⟨_, rfl, ?_⟩) | (go_at_call 63; (with_reducible refine (spec_AreValidRows.calls k _ _ l0_1 false _ ?side1 ?side2 A4.out).mono ?_); (case side1 => exact cT (Kd.C_below HR0_1.out (bT1 HB GE311))); (case side2 => exact HC0_1.out); rintro e w29 ⟨rfl, hb⟩; replace HB := mA (below_step (bT1 HB GE311) hb); (try clear hb)))
   go_ret
   exact ⟨eT, bT1 HB GE311⟩
 ·
  replace c3 := Bool.eq_false_iff.mpr c3
  subst c3
  rw [if_neg (show ¬ (false = true) by decide)] at H
  obtain rfl := Option.some.inj H
  go_enter Try.func27, Try.ntmps27
  go_wp2_with (first | ((with_reducible refine gate_dst (N := 1) rfl ?_); (try (refine gate_guard (by rfl) ?_; dsimp only)); refine boxT 1 #[.int .i64 a0_0, .slice A0_1 l0_1.length c0_1, .slice A0_2 l0_2.length c0_2, .slice A0_3 l0_3.length c0_3, .int .i64 a0_4] 37 ?_; intro gb311 hg w30 hbox hb; have BK311 := mA (hbox); have GW311 := mA ((by rw [hg]; exact (below_size (bT HB)) : w.heap.size ≤ gb311)); have GE311 := GW311; replace HB := mA (below_step (bT HB) hb); clear hb hbox hg; obtain ⟨hcz31_0, hcz31_1, hcz31_2, hcz31_3, hcz31_4, hfz31_0, hfz31_1, hfz31_2, hfz31_3, hfz31_4⟩ := blk5 BK311.out) | ((with_reducible refine gate_callee (f := 62) rfl ?_); refine goesT (some 5) Try.func62 #[.int .i64 a0_0] ?_; (with_reducible refine (spec_IsValidJoinKind.calls a0_0 false _ A2.out).mono ?_); rintro e w' ⟨rfl, ⟨nd, rfl⟩⟩; refine ⟨_, rfl, ?_⟩))
  go_ret
  exact ⟨eT, bT1 HB GE311⟩

/-! ### impl_IsValidTask: function 28 -/
def impl_IsValidTask.f (k : Nat) (a0_0 : Int) (l0_1 : List (S62)) (l0_2 : List (S62)) (l0_3 : List Bool) (a0_4 : Int) : Option (Bool) := (impl_IsValidJoinKind.f a0_0).bind fun t322 => (if t322 = true then ((impl_AreValidRows.f k l0_1).bind fun t323 => (if t323 = true then ((impl_AreValidRows.f k l0_2).bind fun t324 => (if t324 = true then (if (l0_3.length : Int) = (l0_1.length : Int) then ((impl_within.f a0_4 0 4).bind fun t325 => (some t325)) else (some false)) else (some false))) else (some false))) else (some false))
theorem impl_IsValidTask.mono : ∀ a0 a1 a2 a3 a4 k, LeO (impl_IsValidTask.f k a0 a1 a2 a3 a4) (impl_IsValidTask.f (k + 1) a0 a1 a2 a3 a4) := by
 intro a0 a1 a2 a3 a4 k
 unfold impl_IsValidTask.f
 repeat' first
   | (with_reducible exact impl_AreValidRows.mono _ _)
   | (with_reducible exact LeO.refl _)
   | (with_reducible exact LeO.none _)
   | (with_reducible refine LeO.ite ?_ ?_)
   | (with_reducible refine LeO.bind ?_ (fun _ => ?_))
   | exact impl_AreValidRows.mono _ _
   | exact LeO.none _
   | refine LeO.ite ?_ ?_
   | refine LeO.bind ?_ (fun _ => ?_)
set_option maxHeartbeats 8000000 in
set_option maxRecDepth 100000 in
theorem impl_IsValidTask.calls (k : Nat) (a0_0 : Int) (A0_1 : Option Addr) (c0_1 : Nat) (l0_1 : List (S62)) (A0_2 : Option Addr) (c0_2 : Nat) (l0_2 : List (S62)) (A0_3 : Option Addr) (c0_3 : Nat) (l0_3 : List Bool) (a0_4 : Int) (r : Bool) (w : World) (hr0_1 : Kd.C k62 w A0_1 l0_1.length l0_1) (hc0_1 : l0_1.length ≤ c0_1) (hr0_2 : Kd.C k62 w A0_2 l0_2.length l0_2) (hc0_2 : l0_2.length ≤ c0_2) (hr0_3 : Kd.C Kd.bool w A0_3 l0_3.length l0_3) (hc0_3 : l0_3.length ≤ c0_3) (h : impl_IsValidTask.f k a0_0 l0_1 l0_2 l0_3 a0_4 = some r) :
  Calls Try.prog 28 #[.agg #[.int .i64 a0_0, .slice A0_1 l0_1.length c0_1, .slice A0_2 l0_2.length c0_2, .slice A0_3 l0_3.length c0_3, .int .i64 a0_4]] w fun e w' => e = .returned (.bool r) ∧ Below w.heap.size w w' := by
 have hu37 := Try.underlying37
 have HR0_1 := mA hr0_1
 have HC0_1 := mA hc0_1
 clear hr0_1 hc0_1
 have HR0_2 := mA hr0_2
 have HC0_2 := mA hc0_2
 clear hr0_2 hc0_2
 have HR0_3 := mA hr0_3
 have HC0_3 := mA hc0_3
 clear hr0_3 hc0_3
 have HB := mA (Below.refl w.heap.size w)
 have H : ((impl_IsValidJoinKind.f a0_0).bind fun t322 => (if t322 = true then ((impl_AreValidRows.f k l0_1).bind fun t323 => (if t323 = true then ((impl_AreValidRows.f k l0_2).bind fun t324 => (if t324 = true then (if (l0_3.length : Int) = (l0_1.length : Int) then ((impl_within.f a0_4 0 4).bind fun t325 => (some t325)) else (some false)) else (some false))) else (some false))) else (some false))) = some r := h
 clear h
 obtain ⟨t322, A2, H⟩ := Option.bind_eq_some_iff.mp H
 replace A2 := mA A2
 try dsimp only at H
 by_cases c3 : t322 = true
 ·
  subst c3
  rw [if_pos rfl] at H
  obtain ⟨t323, A4, H⟩ := Option.bind_eq_some_iff.mp H
  replace A4 := mA A4
  try dsimp only at H
  by_cases c5 : t323 = true
  ·
   subst c5
   rw [if_pos rfl] at H
   obtain ⟨t324, A6, H⟩ := Option.bind_eq_some_iff.mp H
   replace A6 := mA A6
   try dsimp only at H
   by_cases c7 : t324 = true
   ·
    subst c7
    rw [if_pos rfl] at H
    by_cases c8 : (l0_3.length : Int) = (l0_1.length : Int)
    ·
     rw [if_pos c8] at H
     have c8b0 : ((l0_3.length : Int) == (l0_1.length : Int)) = true := beq_iff_eq.mpr c8
     have c8b1 : ((l0_3.length : Int) != (l0_1.length : Int)) = false := bne_eq_false_iff_eq.mpr c8
     have c8b2 : (l0_3.length == l0_1.length) = true := by first | simpa using c8 | (simp at c8 ⊢; omega)
     clear c8
     obtain ⟨t325, A9, H⟩ := Option.bind_eq_some_iff.mp H
     replace A9 := mA A9
     replace H : (some t325) = some r := H
     obtain rfl := Option.some.inj H
     go_enter Try.func28, Try.ntmps28
     go_wp2_with (first | ((with_reducible refine gate_dst (N := 1) rfl ?_); (try (refine gate_guard (by rfl) ?_; dsimp only)); refine boxT 1 #[.int .i64 a0_0, .slice A0_1 l0_1.length c0_1, .slice A0_2 l0_2.length c0_2, .slice A0_3 l0_3.length c0_3, .int .i64 a0_4] 37 ?_; intro gb321 hg w10 hbox hb; have BK321 := mA (hbox); have GW321 := mA ((by rw [hg]; exact (below_size (bT HB)) : w.heap.size ≤ gb321)); have GE321 := GW321; replace HB := mA (below_step (bT HB) hb); clear hb hbox hg; obtain ⟨hcz11_0, hcz11_1, hcz11_2, hcz11_3, hcz11_4, hfz11_0, hfz11_1, hfz11_2, hfz11_3, hfz11_4⟩ := blk5 BK321.out) | ((with_reducible refine gate_callee (f := 65) rfl ?_); refine goesT (some 5) Try.func65 #[.int .i64 a0_0] ?_; (with_reducible refine (impl_IsValidJoinKind.calls a0_0 true _ A2.out).mono ?_); rintro e w' ⟨rfl, ⟨nd, rfl⟩⟩; refine ⟨_, rfl, ?_⟩) | (go_at_call 66; (with_reducible refine (impl_AreValidRows.calls k _ _ l0_1 true _ ?side1 ?side2 A4.out).mono ?_); (case side1 => exact cT (Kd.C_below HR0_1.out (bT1 HB GE321))); (case side2 => exact HC0_1.out); rintro e w12 ⟨rfl, hb⟩; replace BK321 := kB BK321 hb; replace HB := mA (below_step (bT1 HB GE321) hb); (try clear hb); obtain ⟨hcz13_0, hcz13_1, hcz13_2, hcz13_3, hcz13_4, hfz13_0, hfz13_1, hfz13_2, hfz13_3, hfz13_4⟩ := blk5 BK321.out) | (go_at_call 66; (with_reducible refine (impl_AreValidRows.calls k _ _ l0_2 true _ ?side1 ?side2 A6.out).mono ?_); (case side1 => exact cT (Kd.C_below HR0_2.out HB.out)); (case side2 => exact HC0_2.out); rintro e w14 ⟨rfl, hb⟩; replace BK321 := kB BK321 hb; replace HB := mA (below_step (bT1 HB GE321) hb); (try clear hb); obtain ⟨hcz15_0, hcz15_1, hcz15_2, hcz15_3, hcz15_4, hfz15_0, hfz15_1, hfz15_2, hfz15_3, hfz15_4⟩ := blk5 BK321.out) | (go_at_call 67; (with_reducible refine (impl_within.calls a0_4 0 4 t325 _ A9.out).mono ?_); rintro e w' ⟨rfl, ⟨nd, rfl⟩⟩))
     go_ret
     exact ⟨eT, bT1 HB GE321⟩
    ·
     rw [if_neg c8] at H
     have c8b0 : ((l0_3.length : Int) == (l0_1.length : Int)) = false := beq_eq_false_iff_ne.mpr c8
     have c8b1 : ((l0_3.length : Int) != (l0_1.length : Int)) = true := bne_iff_ne.mpr c8
     have c8b2 : (l0_3.length == l0_1.length) = false := by first | simpa using c8 | (simp at c8 ⊢; omega)
     obtain rfl := Option.some.inj H
     go_enter Try.func28, Try.ntmps28
     go_wp2_with (first | ((with_reducible refine gate_dst (N := 1) rfl ?_); (try (refine gate_guard (by rfl) ?_; dsimp only)); refine boxT 1 #[.int .i64 a0_0, .slice A0_1 l0_1.length c0_1, .slice A0_2 l0_2.length c0_2, .slice A0_3 l0_3.length c0_3, .int .i64 a0_4] 37 ?_; intro gb321 hg w16 hbox hb; have BK321 := mA (hbox); have GW321 := mA ((by rw [hg]; exact (below_size (bT HB)) : w.heap.size ≤ gb321)); have GE321 := GW321; replace HB := mA (below_step (bT HB) hb); clear hb hbox hg; obtain ⟨hcz17_0, hcz17_1, hcz17_2, hcz17_3, hcz17_4, hfz17_0, hfz17_1, hfz17_2, hfz17_3, hfz17_4⟩ := blk5 BK321.out) | ((with_reducible refine gate_callee (f := 65) rfl ?_); refine goesT (some 5) Try.func65 #[.int .i64 a0_0] ?_; (with_reducible refine (impl_IsValidJoinKind.calls a0_0 true _ A2.out).mono ?_); rintro e w' ⟨rfl, ⟨nd, rfl⟩⟩; refine ⟨_, rfl, ?_⟩) | (go_at_call 66; (with_reducible refine (impl_AreValidRows.calls k _ _ l0_1 true _ ?side1 ?side2 A4.out).mono ?_); (case side1 => exact cT (Kd.C_below HR0_1.out (bT1 HB GE321))); (case side2 => exact HC0_1.out); rintro e w18 ⟨rfl, hb⟩; replace BK321 := kB BK321 hb; replace HB := mA (below_step (bT1 HB GE321) hb); (try clear hb); obtain ⟨hcz19_0, hcz19_1, hcz19_2, hcz19_3, hcz19_4, hfz19_0, hfz19_1, hfz19_2, hfz19_3, hfz19_4⟩ := blk5 BK321.out) | (go_at_call 66; (with_reducible refine (impl_AreValidRows.calls k _ _ l0_2 true _ ?side1 ?side2 A6.out).mono ?_); (case side1 => exact cT (Kd.C_below HR0_2.out HB.out)); (case side2 => exact HC0_2.out); rintro e w20 ⟨rfl, hb⟩; replace BK321 := kB BK321 hb; replace HB := mA (below_step (bT1 HB GE321) hb); (try clear hb); obtain ⟨hcz21_0, hcz21_1, hcz21_2, hcz21_3, hcz21_4, hfz21_0, hfz21_1, hfz21_2, hfz21_3, hfz21_4⟩ := blk5 BK321.out))
     go_ret
     exact ⟨eT, bT1 HB GE321⟩
   ·
    replace c7 := Bool.eq_false_iff.mpr c7
    subst c7
    rw [if_neg (show ¬ (false = true) by decide)] at H
    obtain rfl := Option.some.inj H
    go_enter Try.func28, Try.ntmps28
    go_wp2_with (first | ((with_reducible refine gate_dst (N := 1) rfl ?_); (try (refine gate_guard (by rfl) ?_; dsimp only)); refine boxT 1 #[.int .i64 a0_0, .slice A0_1 l0_1.length c0_1, .slice A0_2 l0_2.length c0_2, .slice A0_3 l0_3.length c0_3, .int .i64 a0_4] 37 ?_; intro gb321 hg w22 hbox hb; have BK321 := mA (hbox); have GW321 := mA ((by rw [hg]; exact (below_size (bT HB)) : w.heap.size ≤ gb321)); have GE321 := GW321; replace HB := mA (below_step (bT HB) hb); clear hb hbox hg; obtain ⟨hcz23_0, hcz23_1, hcz23_2, hcz23_3, hcz23_4, hfz23_0, hfz23_1, hfz23_2, hfz23_3, hfz23_4⟩ := blk5 BK321.out) | ((with_reducible refine gate_callee (f := 65) rfl ?_); refine goesT (some 5) Try.func65 #[.int .i64 a0_0] ?_; (with_reducible refine (impl_IsValidJoinKind.calls a0_0 true _ A2.out).mono ?_); rintro e w' ⟨rfl, ⟨nd, rfl⟩⟩; refine ⟨_, rfl, ?_⟩) | (go_at_call 66; (with_reducible refine (impl_AreValidRows.calls k _ _ l0_1 true _ ?side1 ?side2 A4.out).mono ?_); (case side1 => exact cT (Kd.C_below HR0_1.out (bT1 HB GE321))); (case side2 => exact HC0_1.out); rintro e w24 ⟨rfl, hb⟩; replace BK321 := kB BK321 hb; replace HB := mA (below_step (bT1 HB GE321) hb); (try clear hb); obtain ⟨hcz25_0, hcz25_1, hcz25_2, hcz25_3, hcz25_4, hfz25_0, hfz25_1, hfz25_2, hfz25_3, hfz25_4⟩ := blk5 BK321.out) | (go_at_call 66; (with_reducible refine (impl_AreValidRows.calls k _ _ l0_2 false _ ?side1 ?side2 A6.out).mono ?_); (case side1 => exact cT (Kd.C_below HR0_2.out HB.out)); (case side2 => exact HC0_2.out); rintro e w26 ⟨rfl, hb⟩; replace HB := mA (below_step (bT1 HB GE321) hb); (try clear hb)))
    go_ret
    exact ⟨eT, bT1 HB GE321⟩
  ·
   replace c5 := Bool.eq_false_iff.mpr c5
   subst c5
   rw [if_neg (show ¬ (false = true) by decide)] at H
   obtain rfl := Option.some.inj H
   go_enter Try.func28, Try.ntmps28
   go_wp2_with (first | ((with_reducible refine gate_dst (N := 1) rfl ?_); (try (refine gate_guard (by rfl) ?_; dsimp only)); refine boxT 1 #[.int .i64 a0_0, .slice A0_1 l0_1.length c0_1, .slice A0_2 l0_2.length c0_2, .slice A0_3 l0_3.length c0_3, .int .i64 a0_4] 37 ?_; intro gb321 hg w27 hbox hb; have BK321 := mA (hbox); have GW321 := mA ((by rw [hg]; exact (below_size (bT HB)) : w.heap.size ≤ gb321)); have GE321 := GW321; replace HB := mA (below_step (bT HB) hb); clear hb hbox hg; obtain ⟨hcz28_0, hcz28_1, hcz28_2, hcz28_3, hcz28_4, hfz28_0, hfz28_1, hfz28_2, hfz28_3, hfz28_4⟩ := blk5 BK321.out) | ((with_reducible refine gate_callee (f := 65) rfl ?_); refine goesT (some 5) Try.func65 #[.int .i64 a0_0] ?_; (with_reducible refine (impl_IsValidJoinKind.calls a0_0 true _ A2.out).mono ?_); rintro e w' ⟨rfl, ⟨nd, rfl⟩⟩; refine ⟨_, rfl, ?_⟩) | (go_at_call 66; (with_reducible refine (impl_AreValidRows.calls k _ _ l0_1 false _ ?side1 ?side2 A4.out).mono ?_); (case side1 => exact cT (Kd.C_below HR0_1.out (bT1 HB GE321))); (case side2 => exact HC0_1.out); rintro e w29 ⟨rfl, hb⟩; replace HB := mA (below_step (bT1 HB GE321) hb); (try clear hb)))
   go_ret
   exact ⟨eT, bT1 HB GE321⟩
 ·
  replace c3 := Bool.eq_false_iff.mpr c3
  subst c3
  rw [if_neg (show ¬ (false = true) by decide)] at H
  obtain rfl := Option.some.inj H
  go_enter Try.func28, Try.ntmps28
  go_wp2_with (first | ((with_reducible refine gate_dst (N := 1) rfl ?_); (try (refine gate_guard (by rfl) ?_; dsimp only)); refine boxT 1 #[.int .i64 a0_0, .slice A0_1 l0_1.length c0_1, .slice A0_2 l0_2.length c0_2, .slice A0_3 l0_3.length c0_3, .int .i64 a0_4] 37 ?_; intro gb321 hg w30 hbox hb; have BK321 := mA (hbox); have GW321 := mA ((by rw [hg]; exact (below_size (bT HB)) : w.heap.size ≤ gb321)); have GE321 := GW321; replace HB := mA (below_step (bT HB) hb); clear hb hbox hg; obtain ⟨hcz31_0, hcz31_1, hcz31_2, hcz31_3, hcz31_4, hfz31_0, hfz31_1, hfz31_2, hfz31_3, hfz31_4⟩ := blk5 BK321.out) | ((with_reducible refine gate_callee (f := 65) rfl ?_); refine goesT (some 5) Try.func65 #[.int .i64 a0_0] ?_; (with_reducible refine (impl_IsValidJoinKind.calls a0_0 false _ A2.out).mono ?_); rintro e w' ⟨rfl, ⟨nd, rfl⟩⟩; refine ⟨_, rfl, ?_⟩))
  go_ret
  exact ⟨eT, bT1 HB GE321⟩

end Go.Proofs.Ythciieopabndcaa.P
