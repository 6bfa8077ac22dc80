/- Written by tools/seatprint.py over the translation. Lean checks it. -/
import Derived.Test.YthciieopabndcaaP0
import Derived.Test.YthciieopabndcaaP250c0
import Derived.Test.YthciieopabndcaaP41c0
import Derived.Test.YthciieopabndcaaPa50c0
import Derived.Test.YthciieopabndcaaPad1c0
import Derived.Test.YthciieopabndcaaPf7ec0
import Derived.Test.YthciieopabndcaaPfffc0
namespace Go.Proofs.Ythciieopabndcaa.P
open Go.RowKit Go.Proofs.YthciieopabndcaaW.PrintWords Go.Proofs.YthciieopabndcaaW.PrintLast Go.Proofs.YthciieopabndcaaW.PrintMore
attribute [local go_sem] max2_int min2_int max_two min_two max_three min_three max_four min_four
set_option linter.unusedVariables false
set_option linter.unusedSimpArgs false

/-! ### laws_FnExactNewTask: function 8 -/
mutual
def laws_FnExactNewTask.j0 : Nat → Int → List (S64) → List (S64) → Bool → List (S62) → List (S62) → Bool → Bool → Int → List (S62) → List (S62) → List Bool → Int → Int → List (S62) → List (S62) → List Bool → Int → Option (Bool)
 | 0, _, _, _, _, _, _, _, _, _, _, _, _, _, _, _, _, _, _ => none
 | k + 1, x0, x1, x2, x9, x10, x11, x13, x57, x571000, x571001, x571002, x571003, x571004, x590000, x590001, x590002, x590003, x590004 => if x57 = true then (some false) else ((laws_toRowS.f k x1).bind fun t591 => ((laws_eqRowS.f k x10 t591).bind fun t594 => (if t594 = true then ((laws_toRowS.f k x2).bind fun t595 => ((laws_eqRowS.f k x11 t595).bind fun t598 => (if t598 = true then ((laws_markRowS.f k x10 1).bind fun bt599 => ((laws_markRowS.f k x11 bt599.1).bind fun bt601 => (if bt601.1 < 0 then (laws_FnExactNewTask.j1 k x0 x1 x2 x9 true x571000 x571001 x571002 x571003 x571004 x590000 x590001 x590002 x590003 x590004) else ((laws_eqTask.f k x590000 x590001 x590002 x590003 x590004 x571000 x571001 x571002 x571003 x571004).bind fun t603 => (if t603 = true then (laws_FnExactNewTask.j1 k x0 x1 x2 x9 (x13 != x9) x571000 x571001 x571002 x571003 x571004 x590000 x590001 x590002 x590003 x590004) else (laws_FnExactNewTask.j1 k x0 x1 x2 x9 true x571000 x571001 x571002 x571003 x571004 x590000 x590001 x590002 x590003 x590004)))))) else (some false)))) else (some false))))
def laws_FnExactNewTask.j1 : Nat → Int → List (S64) → List (S64) → Bool → Bool → Int → List (S62) → List (S62) → List Bool → Int → Int → List (S62) → List (S62) → List Bool → Int → Option (Bool)
 | 0, _, _, _, _, _, _, _, _, _, _, _, _, _, _, _ => none
 | k + 1, x0, x1, x2, x9, x86, x571000, x571001, x571002, x571003, x571004, x590000, x590001, x590002, x590003, x590004 => if x86 = true then (some false) else ((laws_markTask.f k x590000 x590001 x590002 x590003 x590004 1).bind fun bt604 => ((laws_heldTask.f k x590000 bt604.2.1 bt604.2.2.1 bt604.2.2.2 x590004 1).bind fun t608 => (if t608 < 0 then (some false) else (if t608 = bt604.1 then ((laws_toRowS.f k x1).bind fun t609 => ((laws_toRowS.f k x2).bind fun t612 => ((impl_NewTask.f k x0 t609 t612).bind fun bt615 => ((laws_eqTask.f k bt615.1 bt615.2.1 bt615.2.2.1 bt615.2.2.2.1 bt615.2.2.2.2.1 x571000 x571001 x571002 x571003 x571004).bind fun t628 => (if t628 = true then (if (bt615.2.2.2.2.2 != x9) = true then (some false) else ((laws_heldTask.f k x590000 bt604.2.1 bt604.2.2.1 bt604.2.2.2 x590004 1).bind fun t629 => (if t629 < 0 then (some false) else (if t629 = bt604.1 then (some true) else (some false))))) else (some false)))))) else (some false)))))
end
def laws_FnExactNewTask.f (k : Nat) (a0 : Int) (l1 : List (S64)) (l2 : List (S64)) : Option (Bool) := (laws_szRowS.f l1 1048576).bind fun t550 => (if t550 < 0 then (some true) else ((laws_szRowS.f l2 t550).bind fun t551 => (if t551 < 0 then (some true) else ((laws_toRowS.f k l1).bind fun t552 => ((laws_toRowS.f k l2).bind fun t555 => ((spec_NewTask.f k a0 t552 t555).bind fun bt558 => ((laws_toRowS.f k l1).bind fun t571 => ((laws_toRowS.f k l2).bind fun t574 => ((impl_NewTask.f k a0 t571 t574).bind fun bt577 => ((laws_eqTask.f k bt577.1 bt577.2.1 bt577.2.2.1 bt577.2.2.2.1 bt577.2.2.2.2.1 bt558.1 bt558.2.1 bt558.2.2.1 bt558.2.2.2.1 bt558.2.2.2.2.1).bind fun t590 => (if t590 = true then (laws_FnExactNewTask.j0 k a0 l1 l2 bt558.2.2.2.2.2 t571 t574 bt577.2.2.2.2.2 (bt577.2.2.2.2.2 != bt558.2.2.2.2.2) bt558.1 bt558.2.1 bt558.2.2.1 bt558.2.2.2.1 bt558.2.2.2.2.1 bt577.1 bt577.2.1 bt577.2.2.1 bt577.2.2.2.1 bt577.2.2.2.2.1) else (laws_FnExactNewTask.j0 k a0 l1 l2 bt558.2.2.2.2.2 t571 t574 bt577.2.2.2.2.2 true bt558.1 bt558.2.1 bt558.2.2.1 bt558.2.2.2.1 bt558.2.2.2.2.1 bt577.1 bt577.2.1 bt577.2.2.1 bt577.2.2.2.1 bt577.2.2.2.2.1))))))))))))
theorem laws_FnExactNewTask.mono_l : ∀ k, (∀ y0 y1 y2 y3 y4 y5 y6 y7 y8 y9 y10 y11 y12 y13 y14 y15 y16 y17, LeO (laws_FnExactNewTask.j0 k y0 y1 y2 y3 y4 y5 y6 y7 y8 y9 y10 y11 y12 y13 y14 y15 y16 y17) (laws_FnExactNewTask.j0 (k + 1) y0 y1 y2 y3 y4 y5 y6 y7 y8 y9 y10 y11 y12 y13 y14 y15 y16 y17)) ∧ (∀ y0 y1 y2 y3 y4 y5 y6 y7 y8 y9 y10 y11 y12 y13 y14, LeO (laws_FnExactNewTask.j1 k y0 y1 y2 y3 y4 y5 y6 y7 y8 y9 y10 y11 y12 y13 y14) (laws_FnExactNewTask.j1 (k + 1) y0 y1 y2 y3 y4 y5 y6 y7 y8 y9 y10 y11 y12 y13 y14))
 | 0 => ⟨fun _ _ _ _ _ _ _ _ _ _ _ _ _ _ _ _ _ _ r h => by simp [laws_FnExactNewTask.j0] at h, fun _ _ _ _ _ _ _ _ _ _ _ _ _ _ _ r h => by simp [laws_FnExactNewTask.j1] at h⟩
 | k + 1 => by
  obtain ⟨ih0, ih1⟩ := laws_FnExactNewTask.mono_l k
  refine ⟨?_, ?_⟩
  ·
   intro y0 y1 y2 y3 y4 y5 y6 y7 y8 y9 y10 y11 y12 y13 y14 y15 y16 y17
   unfold laws_FnExactNewTask.j0
   repeat' first
   | (with_reducible exact ih0 _ _ _ _ _ _ _ _ _ _ _ _ _ _ _ _ _ _)
   | (with_reducible exact ih1 _ _ _ _ _ _ _ _ _ _ _ _ _ _ _)
   | (with_reducible exact impl_NewTask.mono _ _ _ _)
   | (with_reducible exact laws_eqRowS.mono _ _ _)
   | (with_reducible exact laws_eqTask.mono _ _ _ _ _ _ _ _ _ _ _)
   | (with_reducible exact laws_heldTask.mono _ _ _ _ _ _ _)
   | (with_reducible exact laws_markRowS.mono _ _ _)
   | (with_reducible exact laws_markTask.mono _ _ _ _ _ _ _)
   | (with_reducible exact laws_toRowS.mono _ _)
   | (with_reducible exact spec_NewTask.mono _ _ _ _)
   | (with_reducible exact LeO.refl _)
   | (with_reducible exact LeO.none _)
   | (with_reducible refine LeO.ite ?_ ?_)
   | (with_reducible refine LeO.bind ?_ (fun _ => ?_))
   | exact ih0 _ _ _ _ _ _ _ _ _ _ _ _ _ _ _ _ _ _
   | exact ih1 _ _ _ _ _ _ _ _ _ _ _ _ _ _ _
   | exact impl_NewTask.mono _ _ _ _
   | exact laws_eqRowS.mono _ _ _
   | exact laws_eqTask.mono _ _ _ _ _ _ _ _ _ _ _
   | exact laws_heldTask.mono _ _ _ _ _ _ _
   | exact laws_markRowS.mono _ _ _
   | exact laws_markTask.mono _ _ _ _ _ _ _
   | exact laws_toRowS.mono _ _
   | exact spec_NewTask.mono _ _ _ _
   | exact LeO.none _
   | refine LeO.ite ?_ ?_
   | refine LeO.bind ?_ (fun _ => ?_)
  ·
   intro y0 y1 y2 y3 y4 y5 y6 y7 y8 y9 y10 y11 y12 y13 y14
   unfold laws_FnExactNewTask.j1
   repeat' first
   | (with_reducible exact ih0 _ _ _ _ _ _ _ _ _ _ _ _ _ _ _ _ _ _)
   | (with_reducible exact ih1 _ _ _ _ _ _ _ _ _ _ _ _ _ _ _)
   | (with_reducible exact impl_NewTask.mono _ _ _ _)
   | (with_reducible exact laws_eqRowS.mono _ _ _)
   | (with_reducible exact laws_eqTask.mono _ _ _ _ _ _ _ _ _ _ _)
   | (with_reducible exact laws_heldTask.mono _ _ _ _ _ _ _)
   | (with_reducible exact laws_markRowS.mono _ _ _)
   | (with_reducible exact laws_markTask.mono _ _ _ _ _ _ _)
   | (with_reducible exact laws_toRowS.mono _ _)
   | (with_reducible exact spec_NewTask.mono _ _ _ _)
   | (with_reducible exact LeO.refl _)
   | (with_reducible exact LeO.none _)
   | (with_reducible refine LeO.ite ?_ ?_)
   | (with_reducible refine LeO.bind ?_ (fun _ => ?_))
   | exact ih0 _ _ _ _ _ _ _ _ _ _ _ _ _ _ _ _ _ _
   | exact ih1 _ _ _ _ _ _ _ _ _ _ _ _ _ _ _
   | exact impl_NewTask.mono _ _ _ _
   | exact laws_eqRowS.mono _ _ _
   | exact laws_eqTask.mono _ _ _ _ _ _ _ _ _ _ _
   | exact laws_heldTask.mono _ _ _ _ _ _ _
   | exact laws_markRowS.mono _ _ _
   | exact laws_markTask.mono _ _ _ _ _ _ _
   | exact laws_toRowS.mono _ _
   | exact spec_NewTask.mono _ _ _ _
   | exact LeO.none _
   | refine LeO.ite ?_ ?_
   | refine LeO.bind ?_ (fun _ => ?_)
theorem laws_FnExactNewTask.mono : ∀ a0 a1 a2 k, LeO (laws_FnExactNewTask.f k a0 a1 a2) (laws_FnExactNewTask.f (k + 1) a0 a1 a2) := by
 intro a0 a1 a2 k
 obtain ⟨ih0, ih1⟩ := laws_FnExactNewTask.mono_l k
 unfold laws_FnExactNewTask.f
 repeat' first
   | (with_reducible exact ih0 _ _ _ _ _ _ _ _ _ _ _ _ _ _ _ _ _ _)
   | (with_reducible exact ih1 _ _ _ _ _ _ _ _ _ _ _ _ _ _ _)
   | (with_reducible exact impl_NewTask.mono _ _ _ _)
   | (with_reducible exact laws_eqRowS.mono _ _ _)
   | (with_reducible exact laws_eqTask.mono _ _ _ _ _ _ _ _ _ _ _)
   | (with_reducible exact laws_heldTask.mono _ _ _ _ _ _ _)
   | (with_reducible exact laws_markRowS.mono _ _ _)
   | (with_reducible exact laws_markTask.mono _ _ _ _ _ _ _)
   | (with_reducible exact laws_toRowS.mono _ _)
   | (with_reducible exact spec_NewTask.mono _ _ _ _)
   | (with_reducible exact LeO.refl _)
   | (with_reducible exact LeO.none _)
   | (with_reducible refine LeO.ite ?_ ?_)
   | (with_reducible refine LeO.bind ?_ (fun _ => ?_))
   | exact ih0 _ _ _ _ _ _ _ _ _ _ _ _ _ _ _ _ _ _
   | exact ih1 _ _ _ _ _ _ _ _ _ _ _ _ _ _ _
   | exact impl_NewTask.mono _ _ _ _
   | exact laws_eqRowS.mono _ _ _
   | exact laws_eqTask.mono _ _ _ _ _ _ _ _ _ _ _
   | exact laws_heldTask.mono _ _ _ _ _ _ _
   | exact laws_markRowS.mono _ _ _
   | exact laws_markTask.mono _ _ _ _ _ _ _
   | exact laws_toRowS.mono _ _
   | exact spec_NewTask.mono _ _ _ _
   | exact LeO.none _
   | refine LeO.ite ?_ ?_
   | refine LeO.bind ?_ (fun _ => ?_)
set_option maxHeartbeats 8000000 in
set_option maxRecDepth 100000 in
theorem laws_FnExactNewTask.calls (k : Nat) (a0 : Int) (A1 : Option Addr) (c1 : Nat) (l1 : List (S64)) (A2 : Option Addr) (c2 : Nat) (l2 : List (S64)) (r : Bool) (w : World) (hr1 : Kd.C k64 w A1 l1.length l1) (hc1 : l1.length ≤ c1) (hr2 : Kd.C k64 w A2 l2.length l2) (hc2 : l2.length ≤ c2) (ht : r = true) (h : laws_FnExactNewTask.f k a0 l1 l2 = some r) :
  Calls Try.prog 8 #[.int .i64 a0, .slice A1 l1.length c1, .slice A2 l2.length c2] w fun e w' => e = .returned (.bool r) ∧ Below w.heap.size w w' := by
 have hu37 := Try.underlying37
 have HR1 := mA hr1
 have HC1 := mA hc1
 clear hr1 hc1
 have HR2 := mA hr2
 have HC2 := mA hc2
 clear hr2 hc2
 have HB := mA (Below.refl w.heap.size w)
 have HT := mA ht
 clear ht
 have H : ((laws_szRowS.f l1 1048576).bind fun t550 => (if t550 < 0 then (some true) else ((laws_szRowS.f l2 t550).bind fun t551 => (if t551 < 0 then (some true) else ((laws_toRowS.f k l1).bind fun t552 => ((laws_toRowS.f k l2).bind fun t555 => ((spec_NewTask.f k a0 t552 t555).bind fun bt558 => ((laws_toRowS.f k l1).bind fun t571 => ((laws_toRowS.f k l2).bind fun t574 => ((impl_NewTask.f k a0 t571 t574).bind fun bt577 => ((laws_eqTask.f k bt577.1 bt577.2.1 bt577.2.2.1 bt577.2.2.2.1 bt577.2.2.2.2.1 bt558.1 bt558.2.1 bt558.2.2.1 bt558.2.2.2.1 bt558.2.2.2.2.1).bind fun t590 => (if t590 = true then (laws_FnExactNewTask.j0 k a0 l1 l2 bt558.2.2.2.2.2 t571 t574 bt577.2.2.2.2.2 (bt577.2.2.2.2.2 != bt558.2.2.2.2.2) bt558.1 bt558.2.1 bt558.2.2.1 bt558.2.2.2.1 bt558.2.2.2.2.1 bt577.1 bt577.2.1 bt577.2.2.1 bt577.2.2.2.1 bt577.2.2.2.2.1) else (laws_FnExactNewTask.j0 k a0 l1 l2 bt558.2.2.2.2.2 t571 t574 bt577.2.2.2.2.2 true bt558.1 bt558.2.1 bt558.2.2.1 bt558.2.2.2.1 bt558.2.2.2.2.1 bt577.1 bt577.2.1 bt577.2.2.1 bt577.2.2.2.1 bt577.2.2.2.2.1))))))))))))) = some r := h
 clear h
 obtain ⟨t550, A4, H⟩ := Option.bind_eq_some_iff.mp H
 replace A4 := mA A4
 try dsimp only at H
 by_cases c5 : t550 < 0
 ·
  rw [if_pos c5] at H
  have c5b0 : decide (t550 < 0) = true := decide_eq_true c5
  clear c5
  obtain rfl := Option.some.inj H
  go_enter Try.func8, Try.ntmps8
  go_wp2_with (first | ((with_reducible refine gate_callee (f := 15) rfl ?_); refine goesT (some 21) Try.func15 #[.slice A1 l1.length c1, .int .i64 1048576] ?_; (with_reducible refine (laws_szRowS.calls _ _ l1 1048576 t550 _ ?side1 ?side2 A4.out).mono ?_); (case side1 => exact cT HR1.out); (case side2 => exact HC1.out); rintro e w' ⟨rfl, ⟨nd, rfl⟩⟩; refine ⟨_, rfl, ?_⟩))
  go_ret
  exact ⟨eT, bT HB⟩
 ·
  rw [if_neg c5] at H
  have c5b0 : decide (t550 < 0) = false := decide_eq_false c5
  clear c5
  obtain ⟨t551, A6, H⟩ := Option.bind_eq_some_iff.mp H
  replace A6 := mA A6
  try dsimp only at H
  by_cases c7 : t551 < 0
  ·
   rw [if_pos c7] at H
   have c7b0 : decide (t551 < 0) = true := decide_eq_true c7
   clear c7
   obtain rfl := Option.some.inj H
   go_enter Try.func8, Try.ntmps8
   go_wp2_with (first | ((with_reducible refine gate_callee (f := 15) rfl ?_); refine goesT (some 21) Try.func15 #[.slice A1 l1.length c1, .int .i64 1048576] ?_; (with_reducible refine (laws_szRowS.calls _ _ l1 1048576 t550 _ ?side1 ?side2 A4.out).mono ?_); (case side1 => exact cT HR1.out); (case side2 => exact HC1.out); rintro e w' ⟨rfl, ⟨nd, rfl⟩⟩; refine ⟨_, rfl, ?_⟩) | ((with_reducible refine gate_callee (f := 15) rfl ?_); refine goesT (some 26) Try.func15 #[.slice A2 l2.length c2, .int .i64 t550] ?_; (with_reducible refine (laws_szRowS.calls _ _ l2 t550 t551 _ ?side1 ?side2 A6.out).mono ?_); (case side1 => exact cT HR2.out); (case side2 => exact HC2.out); rintro e w' ⟨rfl, ⟨nd, rfl⟩⟩; refine ⟨_, rfl, ?_⟩))
   go_ret
   exact ⟨eT, bT HB⟩
  ·
   rw [if_neg c7] at H
   have c7b0 : decide (t551 < 0) = false := decide_eq_false c7
   clear c7
   obtain ⟨t552, A8, H⟩ := Option.bind_eq_some_iff.mp H
   replace A8 := mA A8
   try dsimp only at H
   obtain ⟨t555, A9, H⟩ := Option.bind_eq_some_iff.mp H
   replace A9 := mA A9
   try dsimp only at H
   obtain ⟨⟨t558, t559, t562, t565, t568, t569⟩, A10, H⟩ := Option.bind_eq_some_iff.mp H
   replace A10 := mA A10
   try dsimp only at H
   obtain ⟨t571, A11, H⟩ := Option.bind_eq_some_iff.mp H
   replace A11 := mA A11
   try dsimp only at H
   obtain ⟨t574, A12, H⟩ := Option.bind_eq_some_iff.mp H
   replace A12 := mA A12
   try dsimp only at H
   obtain ⟨⟨t577, t578, t581, t584, t587, t588⟩, A13, H⟩ := Option.bind_eq_some_iff.mp H
   replace A13 := mA A13
   try dsimp only at H
   have HC14 := mA H
   clear H
   go_enter Try.func8, Try.ntmps8
   go_upto_region 12 with (first | ((with_reducible refine gate_callee (f := 15) rfl ?_); refine goesT (some 21) Try.func15 #[.slice A1 l1.length c1, .int .i64 1048576] ?_; (with_reducible refine (laws_szRowS.calls _ _ l1 1048576 t550 _ ?side1 ?side2 A4.out).mono ?_); (case side1 => exact cT HR1.out); (case side2 => exact HC1.out); rintro e w' ⟨rfl, ⟨nd, rfl⟩⟩; refine ⟨_, rfl, ?_⟩) | ((with_reducible refine gate_callee (f := 15) rfl ?_); refine goesT (some 26) Try.func15 #[.slice A2 l2.length c2, .int .i64 t550] ?_; (with_reducible refine (laws_szRowS.calls _ _ l2 t550 t551 _ ?side1 ?side2 A6.out).mono ?_); (case side1 => exact cT HR2.out); (case side2 => exact HC2.out); rintro e w' ⟨rfl, ⟨nd, rfl⟩⟩; refine ⟨_, rfl, ?_⟩) | ((with_reducible refine gate_callee (f := 17) rfl ?_); refine goesT (some 32) Try.func17 #[.slice A1 l1.length c1] ?_; (with_reducible refine (laws_toRowS.calls k _ _ l1 t552 _ ?side1 ?side2 A8.out).mono ?_); (case side1 => exact cT HR1.out); (case side2 => exact HC1.out); rintro e w15 ⟨v553, rfl, ho0, hb⟩; refine ⟨_, rfl, ?_⟩; have HO554 := mA (Kd.R_lower ho0 (below_size (bT HB))); replace HB := mA (below_step (bT HB) hb); (try clear hb); (try clear hk); (try clear ho0)) | ((with_reducible refine gate_callee (f := 17) rfl ?_); refine goesT (some 34) Try.func17 #[.slice A2 l2.length c2] ?_; (with_reducible refine (laws_toRowS.calls k _ _ l2 t555 _ ?side1 ?side2 A9.out).mono ?_); (case side1 => exact cT (Kd.C_below HR2.out HB.out)); (case side2 => exact HC2.out); rintro e w16 ⟨v556, rfl, ho0, hb⟩; refine ⟨_, rfl, ?_⟩; have HO557 := mA (Kd.R_lower (Kd.R_new' ho0 (Kd.R_lt (rTR HO554))) (below_size (bT HB))); replace HO554 := mA (Kd.R_elder' (rTR HO554) (Kd.R_base ho0) hb); replace HB := mA (below_step (bT HB) hb); (try clear hb); (try clear hk); (try clear ho0); obtain ⟨Ao17, co17, eo17⟩ := Kd.R_slice HO554.out; subst eo17; obtain ⟨Ao18, co18, eo18⟩ := Kd.R_slice HO557.out; subst eo18) | ((with_reducible refine gate_callee (f := 33) rfl ?_); refine goesT (some 35) Try.func33 #[.int .i64 a0, .slice Ao17 t552.length co17, .slice Ao18 t555.length co18] ?_; (with_reducible refine (spec_NewTask.calls k a0 _ _ t552 _ _ t555 t558 t559 t562 t565 t568 t569 _ ?side1 ?side2 ?side3 ?side4 A10.out).mono ?_); (case side1 => exact cT ((Kd.R_reads' HO554.out).2.2)); (case side2 => exact (Kd.R_reads' HO554.out).2.1); (case side3 => exact cT ((Kd.R_reads' HO557.out).2.2)); (case side4 => exact (Kd.R_reads' HO557.out).2.1); rintro e w19 ⟨v560, v563, v566, rfl, ho0, ho1, ho2, hb⟩; refine ⟨_, rfl, ?_⟩; have HO561 := mA (Kd.R_lower (Kd.R_new' (Kd.R_new' ho0 (Kd.R_lt (rTR HO554))) (Kd.R_lt (rTR HO557))) (below_size (bT HB))); have HO564 := mA (Kd.R_lower (Kd.R_new' (Kd.R_new' ho1 (Kd.R_lt (rTR HO554))) (Kd.R_lt (rTR HO557))) (below_size (bT HB))); replace HO554 := mA (Kd.R_mono (Kd.R_told (Kd.R_told (Kd.R_old (rTR HO554) hb) (Kd.R_base ho0)) (Kd.R_base ho1)) (fun _ h_ => h_.1)); replace HO557 := mA (Kd.R_mono (Kd.R_told (Kd.R_told (Kd.R_old (rTR HO557) hb) (Kd.R_base ho0)) (Kd.R_base ho1)) (fun _ h_ => h_.1)); have HO567 := mA (Kd.R_lower ho2 (below_size (bT HB))); replace HB := mA (below_step (bT HB) hb); (try clear hb); (try clear hk); (try clear ho0); (try clear ho1); (try clear ho2)) | ((with_reducible refine gate_dst (N := 8) rfl ?_); refine boxT 8 #[.int .i64 0, .slice none 0 0, .slice none 0 0, .slice none 0 0, .int .i64 0] 37 ?_; intro gb570 hg w20 hbox hb; replace HO554 := rBR HO554 hb; replace HO557 := rBR HO557 hb; replace HO561 := rBR HO561 hb; replace HO564 := rBR HO564 hb; replace HO567 := rBR HO567 hb; have BK570 := mA (hbox); have GW570 := mA ((by rw [hg]; exact (below_size (bT HB)) : w.heap.size ≤ gb570)); have GE570 := GW570; replace HB := mA (below_step (bT HB) hb); clear hb hbox hg; obtain ⟨hcz21_0, hcz21_1, hcz21_2, hcz21_3, hcz21_4, hfz21_0, hfz21_1, hfz21_2, hfz21_3, hfz21_4⟩ := blk5 BK570.out; obtain ⟨Ao22, co22, eo22⟩ := Kd.R_slice HO561.out; subst eo22; obtain ⟨Ao23, co23, eo23⟩ := Kd.R_slice HO564.out; subst eo23; obtain ⟨Ao24, co24, eo24⟩ := Kd.R_slice HO567.out; subst eo24) | ((with_reducible refine gate_callee (f := 17) rfl ?_); refine goesT (some 39) Try.func17 #[.slice A1 l1.length c1] ?_; (with_reducible refine (laws_toRowS.calls k _ _ l1 t571 _ ?side1 ?side2 A11.out).mono ?_); (case side1 => exact Kd.C_below HR1.out (bT1 HB GE570)); (case side2 => exact HC1.out); rintro e w25 ⟨v572, rfl, ho0, hb⟩; refine ⟨_, rfl, ?_⟩; replace HO567 := mA (Kd.R_below (by (with_reducible repeat (first | apply Kd.R_alloc | apply Kd.R_drewN | apply Kd.R_drew)); exact (Kd.R_mono (Kd.R_far (p := ⟨gb570, 4, none⟩) (Kd.R_far (p := ⟨gb570, 3, none⟩) (Kd.R_far (p := ⟨gb570, 2, none⟩) (Kd.R_far (p := ⟨gb570, 1, none⟩) (Kd.R_far (p := ⟨gb570, 0, none⟩) (Kd.R_types HO567.out BK570.out (by decide)) (fun _ hk => hk.2) (.int .i64 t558)) (fun _ hk => hk.2) (.slice Ao22 t559.length co22)) (fun _ hk => hk.2) (.slice Ao23 t562.length co23)) (fun _ hk => hk.2) (.slice Ao24 t565.length co24)) (fun _ hk => hk.2) (.int .i64 t568)) (fun _ h_ => h_.1))) hb); have HO573 := mA (Kd.R_lower (Kd.R_new' (Kd.R_new' (Kd.R_new' (Kd.R_new' ho0 (Kd.R_lt (by (with_reducible repeat (first | apply Kd.R_alloc | apply Kd.R_drewN | apply Kd.R_drew)); exact (Kd.R_mono (Kd.R_far (p := ⟨gb570, 4, none⟩) (Kd.R_far (p := ⟨gb570, 3, none⟩) (Kd.R_far (p := ⟨gb570, 2, none⟩) (Kd.R_far (p := ⟨gb570, 1, none⟩) (Kd.R_far (p := ⟨gb570, 0, none⟩) (Kd.R_types HO554.out BK570.out (by decide)) (fun _ hk => hk.2) (.int .i64 t558)) (fun _ hk => hk.2) (.slice Ao22 t559.length co22)) (fun _ hk => hk.2) (.slice Ao23 t562.length co23)) (fun _ hk => hk.2) (.slice Ao24 t565.length co24)) (fun _ hk => hk.2) (.int .i64 t568)) (fun _ h_ => h_.1))))) (Kd.R_lt (by (with_reducible repeat (first | apply Kd.R_alloc | apply Kd.R_drewN | apply Kd.R_drew)); exact (Kd.R_mono (Kd.R_far (p := ⟨gb570, 4, none⟩) (Kd.R_far (p := ⟨gb570, 3, none⟩) (Kd.R_far (p := ⟨gb570, 2, none⟩) (Kd.R_far (p := ⟨gb570, 1, none⟩) (Kd.R_far (p := ⟨gb570, 0, none⟩) (Kd.R_types HO557.out BK570.out (by decide)) (fun _ hk => hk.2) (.int .i64 t558)) (fun _ hk => hk.2) (.slice Ao22 t559.length co22)) (fun _ hk => hk.2) (.slice Ao23 t562.length co23)) (fun _ hk => hk.2) (.slice Ao24 t565.length co24)) (fun _ hk => hk.2) (.int .i64 t568)) (fun _ h_ => h_.1))))) (Kd.R_lt (by (with_reducible repeat (first | apply Kd.R_alloc | apply Kd.R_drewN | apply Kd.R_drew)); exact (Kd.R_mono (Kd.R_far (p := ⟨gb570, 4, none⟩) (Kd.R_far (p := ⟨gb570, 3, none⟩) (Kd.R_far (p := ⟨gb570, 2, none⟩) (Kd.R_far (p := ⟨gb570, 1, none⟩) (Kd.R_far (p := ⟨gb570, 0, none⟩) (Kd.R_types HO561.out BK570.out (by decide)) (fun _ hk => hk.2) (.int .i64 t558)) (fun _ hk => hk.2) (.slice Ao22 t559.length co22)) (fun _ hk => hk.2) (.slice Ao23 t562.length co23)) (fun _ hk => hk.2) (.slice Ao24 t565.length co24)) (fun _ hk => hk.2) (.int .i64 t568)) (fun _ h_ => h_.1))))) (Kd.R_lt (by (with_reducible repeat (first | apply Kd.R_alloc | apply Kd.R_drewN | apply Kd.R_drew)); exact (Kd.R_mono (Kd.R_far (p := ⟨gb570, 4, none⟩) (Kd.R_far (p := ⟨gb570, 3, none⟩) (Kd.R_far (p := ⟨gb570, 2, none⟩) (Kd.R_far (p := ⟨gb570, 1, none⟩) (Kd.R_far (p := ⟨gb570, 0, none⟩) (Kd.R_types HO564.out BK570.out (by decide)) (fun _ hk => hk.2) (.int .i64 t558)) (fun _ hk => hk.2) (.slice Ao22 t559.length co22)) (fun _ hk => hk.2) (.slice Ao23 t562.length co23)) (fun _ hk => hk.2) (.slice Ao24 t565.length co24)) (fun _ hk => hk.2) (.int .i64 t568)) (fun _ h_ => h_.1))))) (below_size (bT1 HB GE570))); replace HO554 := mA (Kd.R_elder' (by (with_reducible repeat (first | apply Kd.R_alloc | apply Kd.R_drewN | apply Kd.R_drew)); exact (Kd.R_mono (Kd.R_far (p := ⟨gb570, 4, none⟩) (Kd.R_far (p := ⟨gb570, 3, none⟩) (Kd.R_far (p := ⟨gb570, 2, none⟩) (Kd.R_far (p := ⟨gb570, 1, none⟩) (Kd.R_far (p := ⟨gb570, 0, none⟩) (Kd.R_types HO554.out BK570.out (by decide)) (fun _ hk => hk.2) (.int .i64 t558)) (fun _ hk => hk.2) (.slice Ao22 t559.length co22)) (fun _ hk => hk.2) (.slice Ao23 t562.length co23)) (fun _ hk => hk.2) (.slice Ao24 t565.length co24)) (fun _ hk => hk.2) (.int .i64 t568)) (fun _ h_ => h_.1))) (Kd.R_base ho0) hb); replace HO557 := mA (Kd.R_elder' (by (with_reducible repeat (first | apply Kd.R_alloc | apply Kd.R_drewN | apply Kd.R_drew)); exact (Kd.R_mono (Kd.R_far (p := ⟨gb570, 4, none⟩) (Kd.R_far (p := ⟨gb570, 3, none⟩) (Kd.R_far (p := ⟨gb570, 2, none⟩) (Kd.R_far (p := ⟨gb570, 1, none⟩) (Kd.R_far (p := ⟨gb570, 0, none⟩) (Kd.R_types HO557.out BK570.out (by decide)) (fun _ hk => hk.2) (.int .i64 t558)) (fun _ hk => hk.2) (.slice Ao22 t559.length co22)) (fun _ hk => hk.2) (.slice Ao23 t562.length co23)) (fun _ hk => hk.2) (.slice Ao24 t565.length co24)) (fun _ hk => hk.2) (.int .i64 t568)) (fun _ h_ => h_.1))) (Kd.R_base ho0) hb); replace HO561 := mA (Kd.R_elder' (by (with_reducible repeat (first | apply Kd.R_alloc | apply Kd.R_drewN | apply Kd.R_drew)); exact (Kd.R_mono (Kd.R_far (p := ⟨gb570, 4, none⟩) (Kd.R_far (p := ⟨gb570, 3, none⟩) (Kd.R_far (p := ⟨gb570, 2, none⟩) (Kd.R_far (p := ⟨gb570, 1, none⟩) (Kd.R_far (p := ⟨gb570, 0, none⟩) (Kd.R_types HO561.out BK570.out (by decide)) (fun _ hk => hk.2) (.int .i64 t558)) (fun _ hk => hk.2) (.slice Ao22 t559.length co22)) (fun _ hk => hk.2) (.slice Ao23 t562.length co23)) (fun _ hk => hk.2) (.slice Ao24 t565.length co24)) (fun _ hk => hk.2) (.int .i64 t568)) (fun _ h_ => h_.1))) (Kd.R_base ho0) hb); replace HO564 := mA (Kd.R_elder' (by (with_reducible repeat (first | apply Kd.R_alloc | apply Kd.R_drewN | apply Kd.R_drew)); exact (Kd.R_mono (Kd.R_far (p := ⟨gb570, 4, none⟩) (Kd.R_far (p := ⟨gb570, 3, none⟩) (Kd.R_far (p := ⟨gb570, 2, none⟩) (Kd.R_far (p := ⟨gb570, 1, none⟩) (Kd.R_far (p := ⟨gb570, 0, none⟩) (Kd.R_types HO564.out BK570.out (by decide)) (fun _ hk => hk.2) (.int .i64 t558)) (fun _ hk => hk.2) (.slice Ao22 t559.length co22)) (fun _ hk => hk.2) (.slice Ao23 t562.length co23)) (fun _ hk => hk.2) (.slice Ao24 t565.length co24)) (fun _ hk => hk.2) (.int .i64 t568)) (fun _ h_ => h_.1))) (Kd.R_base ho0) hb); replace BK570 := mA (blk_below (g := gb570) (o := .cells #[.int .i64 t558, .slice Ao22 t559.length co22, .slice Ao23 t562.length co23, .slice Ao24 t565.length co24, .int .i64 t568] 37 (0, 0)) (by (with_reducible repeat (first | refine blk_drewN ?_ _ | refine blk_drew ?_ | refine blk_alloc ?_ _)); refine blk_put (cs := #[.int .i64 t558, .slice Ao22 t559.length co22, .slice Ao23 t562.length co23, .slice Ao24 t565.length co24, .int .i64 0]) ?_ 4 _ rfl; (with_reducible repeat (first | refine blk_drewN ?_ _ | refine blk_drew ?_ | refine blk_alloc ?_ _)); refine blk_put (cs := #[.int .i64 t558, .slice Ao22 t559.length co22, .slice Ao23 t562.length co23, .slice none 0 0, .int .i64 0]) ?_ 3 _ rfl; (with_reducible repeat (first | refine blk_drewN ?_ _ | refine blk_drew ?_ | refine blk_alloc ?_ _)); refine blk_put (cs := #[.int .i64 t558, .slice Ao22 t559.length co22, .slice none 0 0, .slice none 0 0, .int .i64 0]) ?_ 2 _ rfl; (with_reducible repeat (first | refine blk_drewN ?_ _ | refine blk_drew ?_ | refine blk_alloc ?_ _)); refine blk_put (cs := #[.int .i64 t558, .slice none 0 0, .slice none 0 0, .slice none 0 0, .int .i64 0]) ?_ 1 _ rfl; (with_reducible repeat (first | refine blk_drewN ?_ _ | refine blk_drew ?_ | refine blk_alloc ?_ _)); refine blk_put (cs := #[.int .i64 0, .slice none 0 0, .slice none 0 0, .slice none 0 0, .int .i64 0]) ?_ 0 _ rfl; (with_reducible repeat (first | refine blk_drewN ?_ _ | refine blk_drew ?_ | refine blk_alloc ?_ _)); exact BK570.out) hb); replace HB := mA (below_step (bT1 HB GE570) hb); (try clear hb); (try clear hk); (try clear ho0)) | ((with_reducible refine gate_callee (f := 17) rfl ?_); refine goesT (some 41) Try.func17 #[.slice A2 l2.length c2] ?_; (with_reducible refine (laws_toRowS.calls k _ _ l2 t574 _ ?side1 ?side2 A12.out).mono ?_); (case side1 => exact cT (Kd.C_below HR2.out HB.out)); (case side2 => exact HC2.out); rintro e w26 ⟨v575, rfl, ho0, hb⟩; refine ⟨_, rfl, ?_⟩; replace HO567 := rBR HO567 hb; have HO576 := mA (Kd.R_lower (Kd.R_new' (Kd.R_new' (Kd.R_new' (Kd.R_new' (Kd.R_new' ho0 (Kd.R_lt (rTR HO554))) (Kd.R_lt (rTR HO557))) (Kd.R_lt (rTR HO561))) (Kd.R_lt (rTR HO564))) (Kd.R_lt (rTR HO573))) (below_size (bT1 HB GE570))); replace HO554 := mA (Kd.R_elder' (rTR HO554) (Kd.R_base ho0) hb); replace HO557 := mA (Kd.R_elder' (rTR HO557) (Kd.R_base ho0) hb); replace HO561 := mA (Kd.R_elder' (rTR HO561) (Kd.R_base ho0) hb); replace HO564 := mA (Kd.R_elder' (rTR HO564) (Kd.R_base ho0) hb); replace HO573 := mA (Kd.R_elder' (rTR HO573) (Kd.R_base ho0) hb); replace BK570 := kB BK570 hb; replace HB := mA (below_step (bT1 HB GE570) hb); (try clear hb); (try clear hk); (try clear ho0); obtain ⟨Ao27, co27, eo27⟩ := Kd.R_slice HO573.out; subst eo27; obtain ⟨Ao28, co28, eo28⟩ := Kd.R_slice HO576.out; subst eo28) | ((with_reducible refine gate_callee (f := 34) rfl ?_); refine goesT (some 46) Try.func34 #[.int .i64 a0, .slice Ao27 t571.length co27, .slice Ao28 t574.length co28] ?_; (with_reducible refine (impl_NewTask.calls k a0 _ _ t571 _ _ t574 t577 t578 t581 t584 t587 t588 _ ?side1 ?side2 ?side3 ?side4 A13.out).mono ?_); (case side1 => exact cT ((Kd.R_reads' HO573.out).2.2)); (case side2 => exact (Kd.R_reads' HO573.out).2.1); (case side3 => exact cT ((Kd.R_reads' HO576.out).2.2)); (case side4 => exact (Kd.R_reads' HO576.out).2.1); rintro e w29 ⟨v579, v582, v585, rfl, ho0, ho1, ho2, hb⟩; refine ⟨_, rfl, ?_⟩; have HO580 := mA (Kd.R_lower (Kd.R_new' (Kd.R_new' (Kd.R_new' (Kd.R_new' (Kd.R_new' (Kd.R_new' ho0 (Kd.R_lt (rTR HO554))) (Kd.R_lt (rTR HO557))) (Kd.R_lt (rTR HO561))) (Kd.R_lt (rTR HO564))) (Kd.R_lt (rTR HO573))) (Kd.R_lt (rTR HO576))) (below_size (bT1 HB GE570))); have HO583 := mA (Kd.R_lower (Kd.R_new' (Kd.R_new' (Kd.R_new' (Kd.R_new' (Kd.R_new' (Kd.R_new' ho1 (Kd.R_lt (rTR HO554))) (Kd.R_lt (rTR HO557))) (Kd.R_lt (rTR HO561))) (Kd.R_lt (rTR HO564))) (Kd.R_lt (rTR HO573))) (Kd.R_lt (rTR HO576))) (below_size (bT1 HB GE570))); replace HO561 := mA (Kd.R_mono (Kd.R_told (Kd.R_told (Kd.R_old (rTR HO561) hb) (Kd.R_base ho0)) (Kd.R_base ho1)) (fun _ h_ => h_.1)); replace HO564 := mA (Kd.R_mono (Kd.R_told (Kd.R_told (Kd.R_old (rTR HO564) hb) (Kd.R_base ho0)) (Kd.R_base ho1)) (fun _ h_ => h_.1)); replace HO573 := mA (Kd.R_mono (Kd.R_told (Kd.R_told (Kd.R_old (rTR HO573) hb) (Kd.R_base ho0)) (Kd.R_base ho1)) (fun _ h_ => h_.1)); replace HO576 := mA (Kd.R_mono (Kd.R_told (Kd.R_told (Kd.R_old (rTR HO576) hb) (Kd.R_base ho0)) (Kd.R_base ho1)) (fun _ h_ => h_.1)); have HO586 := mA (Kd.R_lower (Kd.R_new' ho2 (Kd.R_lt (rTR HO567))) (below_size (bT1 HB GE570))); replace HO567 := mA (Kd.R_elder' (rTR HO567) (Kd.R_base ho2) hb); replace BK570 := kB BK570 hb; replace HB := mA (below_step (bT1 HB GE570) hb); (try clear hb); (try clear hk); (try clear ho0); (try clear ho1); (try clear ho2)) | ((with_reducible refine gate_dst (N := 12) rfl ?_); refine boxT 12 #[.int .i64 0, .slice none 0 0, .slice none 0 0, .slice none 0 0, .int .i64 0] 37 ?_; intro gb589 hg w30 hbox hb; replace HO561 := rBR HO561 hb; replace HO564 := rBR HO564 hb; replace HO567 := rBR HO567 hb; replace HO573 := rBR HO573 hb; replace HO576 := rBR HO576 hb; replace HO580 := rBR HO580 hb; replace HO583 := rBR HO583 hb; replace HO586 := rBR HO586 hb; have BK589 := mA (hbox); have GW589 := mA ((by rw [hg]; exact (below_size (bT1 HB GE570)) : w.heap.size ≤ gb589)); have GE589 := GW589; replace HB := mA (below_step (bT1 HB GE570) hb); have NB570_589 : Aside0 (gb570 ≠ gb589) := nL BK570 hg; have NB589_570 : Aside0 (gb589 ≠ gb570) := nG BK570 hg; replace BK570 := kB BK570 hb; clear hb hbox hg; have hnb31 := NB589_570.out; have hnc31 := NB570_589.out; obtain ⟨hcz32_0, hcz32_1, hcz32_2, hcz32_3, hcz32_4, hfz32_0, hfz32_1, hfz32_2, hfz32_3, hfz32_4⟩ := blk5 BK589.out; obtain ⟨Ao33, co33, eo33⟩ := Kd.R_slice HO580.out; subst eo33; obtain ⟨Ao34, co34, eo34⟩ := Kd.R_slice HO583.out; subst eo34; obtain ⟨Ao35, co35, eo35⟩ := Kd.R_slice HO586.out; subst eo35))
   (try simp only [Act.put, List.setIfInBounds_toArray, List.set_cons_zero, List.set_cons_succ])
   go_cut [57] (fun v57 wc => ∃ (kq : Nat) (x57_13 : Bool), v57 = .bool x57_13 ∧ Aside0 (laws_FnExactNewTask.j0 kq a0 l1 l2 t569 t571 t574 t588 x57_13 t558 t559 t562 t565 t568 t577 t578 t581 t584 t587 = some r) ∧ Aside0 (kq ≤ k) ∧ Aside0 (Kd.R k62 62 wc w.heap.size (fun k_ => some k_ ≠ ((.slice Ao28 t574.length co28) : Value).ownBlock ∧ some k_ ≠ ((.slice Ao22 t559.length co22) : Value).ownBlock ∧ some k_ ≠ ((.slice Ao23 t562.length co23) : Value).ownBlock ∧ some k_ ≠ ((.slice Ao33 t578.length co33) : Value).ownBlock ∧ some k_ ≠ ((.slice Ao34 t581.length co34) : Value).ownBlock) (.slice Ao27 t571.length co27) t571) ∧ Aside0 (Kd.R k62 62 wc w.heap.size (fun k_ => some k_ ≠ ((.slice Ao27 t571.length co27) : Value).ownBlock ∧ some k_ ≠ ((.slice Ao22 t559.length co22) : Value).ownBlock ∧ some k_ ≠ ((.slice Ao23 t562.length co23) : Value).ownBlock ∧ some k_ ≠ ((.slice Ao33 t578.length co33) : Value).ownBlock ∧ some k_ ≠ ((.slice Ao34 t581.length co34) : Value).ownBlock) (.slice Ao28 t574.length co28) t574) ∧ Aside0 (Kd.R k62 62 wc w.heap.size (fun k_ => some k_ ≠ ((.slice Ao27 t571.length co27) : Value).ownBlock ∧ some k_ ≠ ((.slice Ao28 t574.length co28) : Value).ownBlock ∧ some k_ ≠ ((.slice Ao23 t562.length co23) : Value).ownBlock ∧ some k_ ≠ ((.slice Ao33 t578.length co33) : Value).ownBlock ∧ some k_ ≠ ((.slice Ao34 t581.length co34) : Value).ownBlock) (.slice Ao22 t559.length co22) t559) ∧ Aside0 (Kd.R k62 62 wc w.heap.size (fun k_ => some k_ ≠ ((.slice Ao27 t571.length co27) : Value).ownBlock ∧ some k_ ≠ ((.slice Ao28 t574.length co28) : Value).ownBlock ∧ some k_ ≠ ((.slice Ao22 t559.length co22) : Value).ownBlock ∧ some k_ ≠ ((.slice Ao33 t578.length co33) : Value).ownBlock ∧ some k_ ≠ ((.slice Ao34 t581.length co34) : Value).ownBlock) (.slice Ao23 t562.length co23) t562) ∧ Aside0 (Kd.R Kd.bool 4 wc w.heap.size (fun k_ => some k_ ≠ ((.slice Ao35 t584.length co35) : Value).ownBlock) (.slice Ao24 t565.length co24) t565) ∧ Aside0 (Kd.R k62 62 wc w.heap.size (fun k_ => some k_ ≠ ((.slice Ao27 t571.length co27) : Value).ownBlock ∧ some k_ ≠ ((.slice Ao28 t574.length co28) : Value).ownBlock ∧ some k_ ≠ ((.slice Ao22 t559.length co22) : Value).ownBlock ∧ some k_ ≠ ((.slice Ao23 t562.length co23) : Value).ownBlock ∧ some k_ ≠ ((.slice Ao34 t581.length co34) : Value).ownBlock) (.slice Ao33 t578.length co33) t578) ∧ Aside0 (Kd.R k62 62 wc w.heap.size (fun k_ => some k_ ≠ ((.slice Ao27 t571.length co27) : Value).ownBlock ∧ some k_ ≠ ((.slice Ao28 t574.length co28) : Value).ownBlock ∧ some k_ ≠ ((.slice Ao22 t559.length co22) : Value).ownBlock ∧ some k_ ≠ ((.slice Ao23 t562.length co23) : Value).ownBlock ∧ some k_ ≠ ((.slice Ao33 t578.length co33) : Value).ownBlock) (.slice Ao34 t581.length co34) t581) ∧ Aside0 (Kd.R Kd.bool 4 wc w.heap.size (fun k_ => some k_ ≠ ((.slice Ao24 t565.length co24) : Value).ownBlock) (.slice Ao35 t584.length co35) t584) ∧ Aside0 (wc.heap[gb570]? = some (.cells #[.int .i64 t558, (.slice Ao22 t559.length co22), (.slice Ao23 t562.length co23), (.slice Ao24 t565.length co24), .int .i64 t568] 37 (0, 0))) ∧ Aside0 (wc.heap[gb589]? = some (.cells #[.int .i64 t577, (.slice Ao33 t578.length co33), (.slice Ao34 t581.length co34), (.slice Ao35 t584.length co35), .int .i64 t587] 37 (0, 0))) ∧ Aside0 (Below w.heap.size w wc))
   case first =>
    have H := HC14.out
    clear HC14
    obtain ⟨t590, A36, H⟩ := Option.bind_eq_some_iff.mp H
    replace A36 := mA A36
    try dsimp only at H
    by_cases c37 : t590 = true
    ·
     subst c37
     rw [if_pos rfl] at H
     have H' := mA H
     clear H
     have hnb38 := NB589_570.out
     have hnc38 := NB570_589.out
     have hcz39_0 : w30.cell? ⟨gb589, 0, none⟩ = some (.int .i64 0) := (blk_cell BK589.out 0).trans rfl
     have hcz39_1 : w30.cell? ⟨gb589, 1, none⟩ = some (.slice none 0 0) := (blk_cell BK589.out 1).trans rfl
     have hcz39_2 : w30.cell? ⟨gb589, 2, none⟩ = some (.slice none 0 0) := (blk_cell BK589.out 2).trans rfl
     have hcz39_3 : w30.cell? ⟨gb589, 3, none⟩ = some (.slice none 0 0) := (blk_cell BK589.out 3).trans rfl
     have hcz39_4 : w30.cell? ⟨gb589, 4, none⟩ = some (.int .i64 0) := (blk_cell BK589.out 4).trans rfl
     have hfz39_0 := blk_frozen BK589.out 0
     have hfz39_1 := blk_frozen BK589.out 1
     have hfz39_2 := blk_frozen BK589.out 2
     have hfz39_3 := blk_frozen BK589.out 3
     have hfz39_4 := blk_frozen BK589.out 4
     have hcz40_0 : w30.cell? ⟨gb570, 0, none⟩ = some (.int .i64 t558) := (blk_cell BK570.out 0).trans rfl
     have hcz40_1 : w30.cell? ⟨gb570, 1, none⟩ = some (.slice Ao22 t559.length co22) := (blk_cell BK570.out 1).trans rfl
     have hcz40_2 : w30.cell? ⟨gb570, 2, none⟩ = some (.slice Ao23 t562.length co23) := (blk_cell BK570.out 2).trans rfl
     have hcz40_3 : w30.cell? ⟨gb570, 3, none⟩ = some (.slice Ao24 t565.length co24) := (blk_cell BK570.out 3).trans rfl
     have hcz40_4 : w30.cell? ⟨gb570, 4, none⟩ = some (.int .i64 t568) := (blk_cell BK570.out 4).trans rfl
     have hfz40_0 := blk_frozen BK570.out 0
     have hfz40_1 := blk_frozen BK570.out 1
     have hfz40_2 := blk_frozen BK570.out 2
     have hfz40_3 := blk_frozen BK570.out 3
     have hfz40_4 := blk_frozen BK570.out 4
     go_wp2_with (first | ((with_reducible refine gate_callee (f := 26) rfl ?_); refine goesT (some 51) Try.func26 #[.agg #[.int .i64 t577, .slice Ao33 t578.length co33, .slice Ao34 t581.length co34, .slice Ao35 t584.length co35, .int .i64 t587], .agg #[.int .i64 t558, .slice Ao22 t559.length co22, .slice Ao23 t562.length co23, .slice Ao24 t565.length co24, .int .i64 t568]] ?_; (with_reducible refine (laws_eqTask.calls k t577 _ _ t578 _ _ t581 _ _ t584 t587 t558 _ _ t559 _ _ t562 _ _ t565 t568 true _ ?side1 ?side2 ?side3 ?side4 ?side5 ?side6 ?side7 ?side8 ?side9 ?side10 ?side11 ?side12 A36.out).mono ?_); (case side1 => refine (Kd.R_reads' (e := 62) (base := w.heap.size) (ok := fun k_ => ((((((some k_ ≠ (.slice Ao34 t581.length co34 : Value).ownBlock ∧ some k_ ≠ (.slice Ao17 t552.length co17 : Value).ownBlock) ∧ some k_ ≠ (.slice Ao18 t555.length co18 : Value).ownBlock) ∧ some k_ ≠ (.slice Ao22 t559.length co22 : Value).ownBlock) ∧ some k_ ≠ (.slice Ao23 t562.length co23 : Value).ownBlock) ∧ some k_ ≠ (.slice Ao27 t571.length co27 : Value).ownBlock) ∧ some k_ ≠ (.slice Ao28 t574.length co28 : Value).ownBlock)) (n := t578.length) (c := co33) ?_).2.2; exact (by (with_reducible repeat (first | apply Kd.R_alloc | apply Kd.R_drewN | apply Kd.R_drew)); exact (Kd.R_mono (Kd.R_far (p := ⟨gb589, 4, none⟩) (Kd.R_far (p := ⟨gb589, 3, none⟩) (Kd.R_far (p := ⟨gb589, 2, none⟩) (Kd.R_far (p := ⟨gb589, 1, none⟩) (Kd.R_far (p := ⟨gb589, 0, none⟩) (Kd.R_types HO580.out BK589.out (by decide)) (fun _ hk => hk.2) (.int .i64 t577)) (fun _ hk => hk.2) (.slice Ao33 t578.length co33)) (fun _ hk => hk.2) (.slice Ao34 t581.length co34)) (fun _ hk => hk.2) (.slice Ao35 t584.length co35)) (fun _ hk => hk.2) (.int .i64 t587)) (fun _ h_ => h_.1)))); (case side2 => exact (Kd.R_reads' HO580.out).2.1); (case side3 => refine (Kd.R_reads' (e := 62) (base := w.heap.size) (ok := fun k_ => ((((((some k_ ≠ (.slice Ao33 t578.length co33 : Value).ownBlock ∧ some k_ ≠ (.slice Ao17 t552.length co17 : Value).ownBlock) ∧ some k_ ≠ (.slice Ao18 t555.length co18 : Value).ownBlock) ∧ some k_ ≠ (.slice Ao22 t559.length co22 : Value).ownBlock) ∧ some k_ ≠ (.slice Ao23 t562.length co23 : Value).ownBlock) ∧ some k_ ≠ (.slice Ao27 t571.length co27 : Value).ownBlock) ∧ some k_ ≠ (.slice Ao28 t574.length co28 : Value).ownBlock)) (n := t581.length) (c := co34) ?_).2.2; exact (by (with_reducible repeat (first | apply Kd.R_alloc | apply Kd.R_drewN | apply Kd.R_drew)); exact (Kd.R_mono (Kd.R_far (p := ⟨gb589, 4, none⟩) (Kd.R_far (p := ⟨gb589, 3, none⟩) (Kd.R_far (p := ⟨gb589, 2, none⟩) (Kd.R_far (p := ⟨gb589, 1, none⟩) (Kd.R_far (p := ⟨gb589, 0, none⟩) (Kd.R_types HO583.out BK589.out (by decide)) (fun _ hk => hk.2) (.int .i64 t577)) (fun _ hk => hk.2) (.slice Ao33 t578.length co33)) (fun _ hk => hk.2) (.slice Ao34 t581.length co34)) (fun _ hk => hk.2) (.slice Ao35 t584.length co35)) (fun _ hk => hk.2) (.int .i64 t587)) (fun _ h_ => h_.1)))); (case side4 => exact (Kd.R_reads' HO583.out).2.1); (case side5 => refine (Kd.R_reads' (e := 4) (base := w.heap.size) (ok := fun k_ => (True ∧ some k_ ≠ (.slice Ao24 t565.length co24 : Value).ownBlock)) (n := t584.length) (c := co35) ?_).2.2; exact (by (with_reducible repeat (first | apply Kd.R_alloc | apply Kd.R_drewN | apply Kd.R_drew)); exact (Kd.R_mono (Kd.R_far (p := ⟨gb589, 4, none⟩) (Kd.R_far (p := ⟨gb589, 3, none⟩) (Kd.R_far (p := ⟨gb589, 2, none⟩) (Kd.R_far (p := ⟨gb589, 1, none⟩) (Kd.R_far (p := ⟨gb589, 0, none⟩) (Kd.R_types HO586.out BK589.out (by decide)) (fun _ hk => hk.2) (.int .i64 t577)) (fun _ hk => hk.2) (.slice Ao33 t578.length co33)) (fun _ hk => hk.2) (.slice Ao34 t581.length co34)) (fun _ hk => hk.2) (.slice Ao35 t584.length co35)) (fun _ hk => hk.2) (.int .i64 t587)) (fun _ h_ => h_.1)))); (case side6 => exact (Kd.R_reads' HO586.out).2.1); (case side7 => refine (Kd.R_reads' (e := 62) (base := w.heap.size) (ok := fun k_ => ((((((some k_ ≠ (.slice Ao23 t562.length co23 : Value).ownBlock ∧ some k_ ≠ (.slice Ao17 t552.length co17 : Value).ownBlock) ∧ some k_ ≠ (.slice Ao18 t555.length co18 : Value).ownBlock) ∧ some k_ ≠ (.slice Ao27 t571.length co27 : Value).ownBlock) ∧ some k_ ≠ (.slice Ao28 t574.length co28 : Value).ownBlock) ∧ some k_ ≠ (.slice Ao33 t578.length co33 : Value).ownBlock) ∧ some k_ ≠ (.slice Ao34 t581.length co34 : Value).ownBlock)) (n := t559.length) (c := co22) ?_).2.2; exact (by (with_reducible repeat (first | apply Kd.R_alloc | apply Kd.R_drewN | apply Kd.R_drew)); exact (Kd.R_mono (Kd.R_far (p := ⟨gb589, 4, none⟩) (Kd.R_far (p := ⟨gb589, 3, none⟩) (Kd.R_far (p := ⟨gb589, 2, none⟩) (Kd.R_far (p := ⟨gb589, 1, none⟩) (Kd.R_far (p := ⟨gb589, 0, none⟩) (Kd.R_types HO561.out BK589.out (by decide)) (fun _ hk => hk.2) (.int .i64 t577)) (fun _ hk => hk.2) (.slice Ao33 t578.length co33)) (fun _ hk => hk.2) (.slice Ao34 t581.length co34)) (fun _ hk => hk.2) (.slice Ao35 t584.length co35)) (fun _ hk => hk.2) (.int .i64 t587)) (fun _ h_ => h_.1)))); (case side8 => exact (Kd.R_reads' HO561.out).2.1); (case side9 => refine (Kd.R_reads' (e := 62) (base := w.heap.size) (ok := fun k_ => ((((((some k_ ≠ (.slice Ao22 t559.length co22 : Value).ownBlock ∧ some k_ ≠ (.slice Ao17 t552.length co17 : Value).ownBlock) ∧ some k_ ≠ (.slice Ao18 t555.length co18 : Value).ownBlock) ∧ some k_ ≠ (.slice Ao27 t571.length co27 : Value).ownBlock) ∧ some k_ ≠ (.slice Ao28 t574.length co28 : Value).ownBlock) ∧ some k_ ≠ (.slice Ao33 t578.length co33 : Value).ownBlock) ∧ some k_ ≠ (.slice Ao34 t581.length co34 : Value).ownBlock)) (n := t562.length) (c := co23) ?_).2.2; exact (by (with_reducible repeat (first | apply Kd.R_alloc | apply Kd.R_drewN | apply Kd.R_drew)); exact (Kd.R_mono (Kd.R_far (p := ⟨gb589, 4, none⟩) (Kd.R_far (p := ⟨gb589, 3, none⟩) (Kd.R_far (p := ⟨gb589, 2, none⟩) (Kd.R_far (p := ⟨gb589, 1, none⟩) (Kd.R_far (p := ⟨gb589, 0, none⟩) (Kd.R_types HO564.out BK589.out (by decide)) (fun _ hk => hk.2) (.int .i64 t577)) (fun _ hk => hk.2) (.slice Ao33 t578.length co33)) (fun _ hk => hk.2) (.slice Ao34 t581.length co34)) (fun _ hk => hk.2) (.slice Ao35 t584.length co35)) (fun _ hk => hk.2) (.int .i64 t587)) (fun _ h_ => h_.1)))); (case side10 => exact (Kd.R_reads' HO564.out).2.1); (case side11 => refine (Kd.R_reads' (e := 4) (base := w.heap.size) (ok := fun k_ => (True ∧ some k_ ≠ (.slice Ao35 t584.length co35 : Value).ownBlock)) (n := t565.length) (c := co24) ?_).2.2; exact (by (with_reducible repeat (first | apply Kd.R_alloc | apply Kd.R_drewN | apply Kd.R_drew)); exact (Kd.R_mono (Kd.R_far (p := ⟨gb589, 4, none⟩) (Kd.R_far (p := ⟨gb589, 3, none⟩) (Kd.R_far (p := ⟨gb589, 2, none⟩) (Kd.R_far (p := ⟨gb589, 1, none⟩) (Kd.R_far (p := ⟨gb589, 0, none⟩) (Kd.R_types HO567.out BK589.out (by decide)) (fun _ hk => hk.2) (.int .i64 t577)) (fun _ hk => hk.2) (.slice Ao33 t578.length co33)) (fun _ hk => hk.2) (.slice Ao34 t581.length co34)) (fun _ hk => hk.2) (.slice Ao35 t584.length co35)) (fun _ hk => hk.2) (.int .i64 t587)) (fun _ h_ => h_.1)))); (case side12 => exact (Kd.R_reads' HO567.out).2.1); rintro e w41 ⟨rfl, hb⟩; refine ⟨_, rfl, ?_⟩; replace HO561 := mA (Kd.R_below (by (with_reducible repeat (first | apply Kd.R_alloc | apply Kd.R_drewN | apply Kd.R_drew)); exact (Kd.R_mono (Kd.R_far (p := ⟨gb589, 4, none⟩) (Kd.R_far (p := ⟨gb589, 3, none⟩) (Kd.R_far (p := ⟨gb589, 2, none⟩) (Kd.R_far (p := ⟨gb589, 1, none⟩) (Kd.R_far (p := ⟨gb589, 0, none⟩) (Kd.R_types HO561.out BK589.out (by decide)) (fun _ hk => hk.2) (.int .i64 t577)) (fun _ hk => hk.2) (.slice Ao33 t578.length co33)) (fun _ hk => hk.2) (.slice Ao34 t581.length co34)) (fun _ hk => hk.2) (.slice Ao35 t584.length co35)) (fun _ hk => hk.2) (.int .i64 t587)) (fun _ h_ => h_.1))) hb); replace HO564 := mA (Kd.R_below (by (with_reducible repeat (first | apply Kd.R_alloc | apply Kd.R_drewN | apply Kd.R_drew)); exact (Kd.R_mono (Kd.R_far (p := ⟨gb589, 4, none⟩) (Kd.R_far (p := ⟨gb589, 3, none⟩) (Kd.R_far (p := ⟨gb589, 2, none⟩) (Kd.R_far (p := ⟨gb589, 1, none⟩) (Kd.R_far (p := ⟨gb589, 0, none⟩) (Kd.R_types HO564.out BK589.out (by decide)) (fun _ hk => hk.2) (.int .i64 t577)) (fun _ hk => hk.2) (.slice Ao33 t578.length co33)) (fun _ hk => hk.2) (.slice Ao34 t581.length co34)) (fun _ hk => hk.2) (.slice Ao35 t584.length co35)) (fun _ hk => hk.2) (.int .i64 t587)) (fun _ h_ => h_.1))) hb); replace HO567 := mA (Kd.R_below (by (with_reducible repeat (first | apply Kd.R_alloc | apply Kd.R_drewN | apply Kd.R_drew)); exact (Kd.R_mono (Kd.R_far (p := ⟨gb589, 4, none⟩) (Kd.R_far (p := ⟨gb589, 3, none⟩) (Kd.R_far (p := ⟨gb589, 2, none⟩) (Kd.R_far (p := ⟨gb589, 1, none⟩) (Kd.R_far (p := ⟨gb589, 0, none⟩) (Kd.R_types HO567.out BK589.out (by decide)) (fun _ hk => hk.2) (.int .i64 t577)) (fun _ hk => hk.2) (.slice Ao33 t578.length co33)) (fun _ hk => hk.2) (.slice Ao34 t581.length co34)) (fun _ hk => hk.2) (.slice Ao35 t584.length co35)) (fun _ hk => hk.2) (.int .i64 t587)) (fun _ h_ => h_.1))) hb); replace HO573 := mA (Kd.R_below (by (with_reducible repeat (first | apply Kd.R_alloc | apply Kd.R_drewN | apply Kd.R_drew)); exact (Kd.R_mono (Kd.R_far (p := ⟨gb589, 4, none⟩) (Kd.R_far (p := ⟨gb589, 3, none⟩) (Kd.R_far (p := ⟨gb589, 2, none⟩) (Kd.R_far (p := ⟨gb589, 1, none⟩) (Kd.R_far (p := ⟨gb589, 0, none⟩) (Kd.R_types HO573.out BK589.out (by decide)) (fun _ hk => hk.2) (.int .i64 t577)) (fun _ hk => hk.2) (.slice Ao33 t578.length co33)) (fun _ hk => hk.2) (.slice Ao34 t581.length co34)) (fun _ hk => hk.2) (.slice Ao35 t584.length co35)) (fun _ hk => hk.2) (.int .i64 t587)) (fun _ h_ => h_.1))) hb); replace HO576 := mA (Kd.R_below (by (with_reducible repeat (first | apply Kd.R_alloc | apply Kd.R_drewN | apply Kd.R_drew)); exact (Kd.R_mono (Kd.R_far (p := ⟨gb589, 4, none⟩) (Kd.R_far (p := ⟨gb589, 3, none⟩) (Kd.R_far (p := ⟨gb589, 2, none⟩) (Kd.R_far (p := ⟨gb589, 1, none⟩) (Kd.R_far (p := ⟨gb589, 0, none⟩) (Kd.R_types HO576.out BK589.out (by decide)) (fun _ hk => hk.2) (.int .i64 t577)) (fun _ hk => hk.2) (.slice Ao33 t578.length co33)) (fun _ hk => hk.2) (.slice Ao34 t581.length co34)) (fun _ hk => hk.2) (.slice Ao35 t584.length co35)) (fun _ hk => hk.2) (.int .i64 t587)) (fun _ h_ => h_.1))) hb); replace HO580 := mA (Kd.R_below (by (with_reducible repeat (first | apply Kd.R_alloc | apply Kd.R_drewN | apply Kd.R_drew)); exact (Kd.R_mono (Kd.R_far (p := ⟨gb589, 4, none⟩) (Kd.R_far (p := ⟨gb589, 3, none⟩) (Kd.R_far (p := ⟨gb589, 2, none⟩) (Kd.R_far (p := ⟨gb589, 1, none⟩) (Kd.R_far (p := ⟨gb589, 0, none⟩) (Kd.R_types HO580.out BK589.out (by decide)) (fun _ hk => hk.2) (.int .i64 t577)) (fun _ hk => hk.2) (.slice Ao33 t578.length co33)) (fun _ hk => hk.2) (.slice Ao34 t581.length co34)) (fun _ hk => hk.2) (.slice Ao35 t584.length co35)) (fun _ hk => hk.2) (.int .i64 t587)) (fun _ h_ => h_.1))) hb); replace HO583 := mA (Kd.R_below (by (with_reducible repeat (first | apply Kd.R_alloc | apply Kd.R_drewN | apply Kd.R_drew)); exact (Kd.R_mono (Kd.R_far (p := ⟨gb589, 4, none⟩) (Kd.R_far (p := ⟨gb589, 3, none⟩) (Kd.R_far (p := ⟨gb589, 2, none⟩) (Kd.R_far (p := ⟨gb589, 1, none⟩) (Kd.R_far (p := ⟨gb589, 0, none⟩) (Kd.R_types HO583.out BK589.out (by decide)) (fun _ hk => hk.2) (.int .i64 t577)) (fun _ hk => hk.2) (.slice Ao33 t578.length co33)) (fun _ hk => hk.2) (.slice Ao34 t581.length co34)) (fun _ hk => hk.2) (.slice Ao35 t584.length co35)) (fun _ hk => hk.2) (.int .i64 t587)) (fun _ h_ => h_.1))) hb); replace HO586 := mA (Kd.R_below (by (with_reducible repeat (first | apply Kd.R_alloc | apply Kd.R_drewN | apply Kd.R_drew)); exact (Kd.R_mono (Kd.R_far (p := ⟨gb589, 4, none⟩) (Kd.R_far (p := ⟨gb589, 3, none⟩) (Kd.R_far (p := ⟨gb589, 2, none⟩) (Kd.R_far (p := ⟨gb589, 1, none⟩) (Kd.R_far (p := ⟨gb589, 0, none⟩) (Kd.R_types HO586.out BK589.out (by decide)) (fun _ hk => hk.2) (.int .i64 t577)) (fun _ hk => hk.2) (.slice Ao33 t578.length co33)) (fun _ hk => hk.2) (.slice Ao34 t581.length co34)) (fun _ hk => hk.2) (.slice Ao35 t584.length co35)) (fun _ hk => hk.2) (.int .i64 t587)) (fun _ h_ => h_.1))) hb); replace BK570 := mA (blk_below (g := gb570) (o := .cells #[.int .i64 t558, .slice Ao22 t559.length co22, .slice Ao23 t562.length co23, .slice Ao24 t565.length co24, .int .i64 t568] 37 (0, 0)) (by (with_reducible repeat (first | refine blk_drewN ?_ _ | refine blk_drew ?_ | refine blk_alloc ?_ _)); refine blk_far ?_ NB570_589.out _; (with_reducible repeat (first | refine blk_drewN ?_ _ | refine blk_drew ?_ | refine blk_alloc ?_ _)); refine blk_far ?_ NB570_589.out _; (with_reducible repeat (first | refine blk_drewN ?_ _ | refine blk_drew ?_ | refine blk_alloc ?_ _)); refine blk_far ?_ NB570_589.out _; (with_reducible repeat (first | refine blk_drewN ?_ _ | refine blk_drew ?_ | refine blk_alloc ?_ _)); refine blk_far ?_ NB570_589.out _; (with_reducible repeat (first | refine blk_drewN ?_ _ | refine blk_drew ?_ | refine blk_alloc ?_ _)); refine blk_far ?_ NB570_589.out _; (with_reducible repeat (first | refine blk_drewN ?_ _ | refine blk_drew ?_ | refine blk_alloc ?_ _)); exact BK570.out) hb); replace BK589 := mA (blk_below (g := gb589) (o := .cells #[.int .i64 t577, .slice Ao33 t578.length co33, .slice Ao34 t581.length co34, .slice Ao35 t584.length co35, .int .i64 t587] 37 (0, 0)) (by (with_reducible repeat (first | refine blk_drewN ?_ _ | refine blk_drew ?_ | refine blk_alloc ?_ _)); refine blk_put (cs := #[.int .i64 t577, .slice Ao33 t578.length co33, .slice Ao34 t581.length co34, .slice Ao35 t584.length co35, .int .i64 0]) ?_ 4 _ rfl; (with_reducible repeat (first | refine blk_drewN ?_ _ | refine blk_drew ?_ | refine blk_alloc ?_ _)); refine blk_put (cs := #[.int .i64 t577, .slice Ao33 t578.length co33, .slice Ao34 t581.length co34, .slice none 0 0, .int .i64 0]) ?_ 3 _ rfl; (with_reducible repeat (first | refine blk_drewN ?_ _ | refine blk_drew ?_ | refine blk_alloc ?_ _)); refine blk_put (cs := #[.int .i64 t577, .slice Ao33 t578.length co33, .slice none 0 0, .slice none 0 0, .int .i64 0]) ?_ 2 _ rfl; (with_reducible repeat (first | refine blk_drewN ?_ _ | refine blk_drew ?_ | refine blk_alloc ?_ _)); refine blk_put (cs := #[.int .i64 t577, .slice none 0 0, .slice none 0 0, .slice none 0 0, .int .i64 0]) ?_ 1 _ rfl; (with_reducible repeat (first | refine blk_drewN ?_ _ | refine blk_drew ?_ | refine blk_alloc ?_ _)); refine blk_put (cs := #[.int .i64 0, .slice none 0 0, .slice none 0 0, .slice none 0 0, .int .i64 0]) ?_ 0 _ rfl; (with_reducible repeat (first | refine blk_drewN ?_ _ | refine blk_drew ?_ | refine blk_alloc ?_ _)); exact BK589.out) hb); replace HB := mA (below_step (bT2 HB GE570 GE589) hb); (try clear hb); (try clear hk)))
     go_meet
     case rel => exact ⟨_, ((t588 != t569)), sT, H', ⟨by first | omega | exact Nat.le_refl _⟩, ⟨by (with_reducible repeat (first | apply Kd.R_alloc | apply Kd.R_drewN | apply Kd.R_drew)); exact Kd.R_mono HO573.out (fun _ hk => ⟨hk.1.1.2, ⟨hk.1.1.1.1.2, ⟨hk.1.1.1.2, ⟨hk.1.2, hk.2⟩⟩⟩⟩)⟩, ⟨by (with_reducible repeat (first | apply Kd.R_alloc | apply Kd.R_drewN | apply Kd.R_drew)); exact Kd.R_mono HO576.out (fun _ hk => ⟨hk.1.1.2, ⟨hk.1.1.1.1.2, ⟨hk.1.1.1.2, ⟨hk.1.2, hk.2⟩⟩⟩⟩)⟩, ⟨by (with_reducible repeat (first | apply Kd.R_alloc | apply Kd.R_drewN | apply Kd.R_drew)); exact Kd.R_mono HO561.out (fun _ hk => ⟨hk.1.1.1.2, ⟨hk.1.1.2, ⟨hk.1.1.1.1.1.1, ⟨hk.1.2, hk.2⟩⟩⟩⟩)⟩, ⟨by (with_reducible repeat (first | apply Kd.R_alloc | apply Kd.R_drewN | apply Kd.R_drew)); exact Kd.R_mono HO564.out (fun _ hk => ⟨hk.1.1.1.2, ⟨hk.1.1.2, ⟨hk.1.1.1.1.1.1, ⟨hk.1.2, hk.2⟩⟩⟩⟩)⟩, ⟨by (with_reducible repeat (first | apply Kd.R_alloc | apply Kd.R_drewN | apply Kd.R_drew)); exact Kd.R_mono HO567.out (fun _ hk => hk.2)⟩, ⟨by (with_reducible repeat (first | apply Kd.R_alloc | apply Kd.R_drewN | apply Kd.R_drew)); exact Kd.R_mono HO580.out (fun _ hk => ⟨hk.1.2, ⟨hk.2, ⟨hk.1.1.1.2, ⟨hk.1.1.2, hk.1.1.1.1.1.1⟩⟩⟩⟩)⟩, ⟨by (with_reducible repeat (first | apply Kd.R_alloc | apply Kd.R_drewN | apply Kd.R_drew)); exact Kd.R_mono HO583.out (fun _ hk => ⟨hk.1.2, ⟨hk.2, ⟨hk.1.1.1.2, ⟨hk.1.1.2, hk.1.1.1.1.1.1⟩⟩⟩⟩)⟩, ⟨by (with_reducible repeat (first | apply Kd.R_alloc | apply Kd.R_drewN | apply Kd.R_drew)); exact Kd.R_mono HO586.out (fun _ hk => hk.2)⟩, ⟨kT BK570⟩, ⟨kT BK589⟩, ⟨bT2 HB GE570 GE589⟩⟩
    ·
     replace c37 := Bool.eq_false_iff.mpr c37
     subst c37
     rw [if_neg (show ¬ (false = true) by decide)] at H
     have H' := mA H
     clear H
     have hnb42 := NB589_570.out
     have hnc42 := NB570_589.out
     have hcz43_0 : w30.cell? ⟨gb589, 0, none⟩ = some (.int .i64 0) := (blk_cell BK589.out 0).trans rfl
     have hcz43_1 : w30.cell? ⟨gb589, 1, none⟩ = some (.slice none 0 0) := (blk_cell BK589.out 1).trans rfl
     have hcz43_2 : w30.cell? ⟨gb589, 2, none⟩ = some (.slice none 0 0) := (blk_cell BK589.out 2).trans rfl
     have hcz43_3 : w30.cell? ⟨gb589, 3, none⟩ = some (.slice none 0 0) := (blk_cell BK589.out 3).trans rfl
     have hcz43_4 : w30.cell? ⟨gb589, 4, none⟩ = some (.int .i64 0) := (blk_cell BK589.out 4).trans rfl
     have hfz43_0 := blk_frozen BK589.out 0
     have hfz43_1 := blk_frozen BK589.out 1
     have hfz43_2 := blk_frozen BK589.out 2
     have hfz43_3 := blk_frozen BK589.out 3
     have hfz43_4 := blk_frozen BK589.out 4
     have hcz44_0 : w30.cell? ⟨gb570, 0, none⟩ = some (.int .i64 t558) := (blk_cell BK570.out 0).trans rfl
     have hcz44_1 : w30.cell? ⟨gb570, 1, none⟩ = some (.slice Ao22 t559.length co22) := (blk_cell BK570.out 1).trans rfl
     have hcz44_2 : w30.cell? ⟨gb570, 2, none⟩ = some (.slice Ao23 t562.length co23) := (blk_cell BK570.out 2).trans rfl
     have hcz44_3 : w30.cell? ⟨gb570, 3, none⟩ = some (.slice Ao24 t565.length co24) := (blk_cell BK570.out 3).trans rfl
     have hcz44_4 : w30.cell? ⟨gb570, 4, none⟩ = some (.int .i64 t568) := (blk_cell BK570.out 4).trans rfl
     have hfz44_0 := blk_frozen BK570.out 0
     have hfz44_1 := blk_frozen BK570.out 1
     have hfz44_2 := blk_frozen BK570.out 2
     have hfz44_3 := blk_frozen BK570.out 3
     have hfz44_4 := blk_frozen BK570.out 4
     go_wp2_with (first | ((with_reducible refine gate_callee (f := 26) rfl ?_); refine goesT (some 51) Try.func26 #[.agg #[.int .i64 t577, .slice Ao33 t578.length co33, .slice Ao34 t581.length co34, .slice Ao35 t584.length co35, .int .i64 t587], .agg #[.int .i64 t558, .slice Ao22 t559.length co22, .slice Ao23 t562.length co23, .slice Ao24 t565.length co24, .int .i64 t568]] ?_; (with_reducible refine (laws_eqTask.calls k t577 _ _ t578 _ _ t581 _ _ t584 t587 t558 _ _ t559 _ _ t562 _ _ t565 t568 false _ ?side1 ?side2 ?side3 ?side4 ?side5 ?side6 ?side7 ?side8 ?side9 ?side10 ?side11 ?side12 A36.out).mono ?_); (case side1 => refine (Kd.R_reads' (e := 62) (base := w.heap.size) (ok := fun k_ => ((((((some k_ ≠ (.slice Ao34 t581.length co34 : Value).ownBlock ∧ some k_ ≠ (.slice Ao17 t552.length co17 : Value).ownBlock) ∧ some k_ ≠ (.slice Ao18 t555.length co18 : Value).ownBlock) ∧ some k_ ≠ (.slice Ao22 t559.length co22 : Value).ownBlock) ∧ some k_ ≠ (.slice Ao23 t562.length co23 : Value).ownBlock) ∧ some k_ ≠ (.slice Ao27 t571.length co27 : Value).ownBlock) ∧ some k_ ≠ (.slice Ao28 t574.length co28 : Value).ownBlock)) (n := t578.length) (c := co33) ?_).2.2; exact (by (with_reducible repeat (first | apply Kd.R_alloc | apply Kd.R_drewN | apply Kd.R_drew)); exact (Kd.R_mono (Kd.R_far (p := ⟨gb589, 4, none⟩) (Kd.R_far (p := ⟨gb589, 3, none⟩) (Kd.R_far (p := ⟨gb589, 2, none⟩) (Kd.R_far (p := ⟨gb589, 1, none⟩) (Kd.R_far (p := ⟨gb589, 0, none⟩) (Kd.R_types HO580.out BK589.out (by decide)) (fun _ hk => hk.2) (.int .i64 t577)) (fun _ hk => hk.2) (.slice Ao33 t578.length co33)) (fun _ hk => hk.2) (.slice Ao34 t581.length co34)) (fun _ hk => hk.2) (.slice Ao35 t584.length co35)) (fun _ hk => hk.2) (.int .i64 t587)) (fun _ h_ => h_.1)))); (case side2 => exact (Kd.R_reads' HO580.out).2.1); (case side3 => refine (Kd.R_reads' (e := 62) (base := w.heap.size) (ok := fun k_ => ((((((some k_ ≠ (.slice Ao33 t578.length co33 : Value).ownBlock ∧ some k_ ≠ (.slice Ao17 t552.length co17 : Value).ownBlock) ∧ some k_ ≠ (.slice Ao18 t555.length co18 : Value).ownBlock) ∧ some k_ ≠ (.slice Ao22 t559.length co22 : Value).ownBlock) ∧ some k_ ≠ (.slice Ao23 t562.length co23 : Value).ownBlock) ∧ some k_ ≠ (.slice Ao27 t571.length co27 : Value).ownBlock) ∧ some k_ ≠ (.slice Ao28 t574.length co28 : Value).ownBlock)) (n := t581.length) (c := co34) ?_).2.2; exact (by (with_reducible repeat (first | apply Kd.R_alloc | apply Kd.R_drewN | apply Kd.R_drew)); exact (Kd.R_mono (Kd.R_far (p := ⟨gb589, 4, none⟩) (Kd.R_far (p := ⟨gb589, 3, none⟩) (Kd.R_far (p := ⟨gb589, 2, none⟩) (Kd.R_far (p := ⟨gb589, 1, none⟩) (Kd.R_far (p := ⟨gb589, 0, none⟩) (Kd.R_types HO583.out BK589.out (by decide)) (fun _ hk => hk.2) (.int .i64 t577)) (fun _ hk => hk.2) (.slice Ao33 t578.length co33)) (fun _ hk => hk.2) (.slice Ao34 t581.length co34)) (fun _ hk => hk.2) (.slice Ao35 t584.length co35)) (fun _ hk => hk.2) (.int .i64 t587)) (fun _ h_ => h_.1)))); (case side4 => exact (Kd.R_reads' HO583.out).2.1); (case side5 => refine (Kd.R_reads' (e := 4) (base := w.heap.size) (ok := fun k_ => (True ∧ some k_ ≠ (.slice Ao24 t565.length co24 : Value).ownBlock)) (n := t584.length) (c := co35) ?_).2.2; exact (by (with_reducible repeat (first | apply Kd.R_alloc | apply Kd.R_drewN | apply Kd.R_drew)); exact (Kd.R_mono (Kd.R_far (p := ⟨gb589, 4, none⟩) (Kd.R_far (p := ⟨gb589, 3, none⟩) (Kd.R_far (p := ⟨gb589, 2, none⟩) (Kd.R_far (p := ⟨gb589, 1, none⟩) (Kd.R_far (p := ⟨gb589, 0, none⟩) (Kd.R_types HO586.out BK589.out (by decide)) (fun _ hk => hk.2) (.int .i64 t577)) (fun _ hk => hk.2) (.slice Ao33 t578.length co33)) (fun _ hk => hk.2) (.slice Ao34 t581.length co34)) (fun _ hk => hk.2) (.slice Ao35 t584.length co35)) (fun _ hk => hk.2) (.int .i64 t587)) (fun _ h_ => h_.1)))); (case side6 => exact (Kd.R_reads' HO586.out).2.1); (case side7 => refine (Kd.R_reads' (e := 62) (base := w.heap.size) (ok := fun k_ => ((((((some k_ ≠ (.slice Ao23 t562.length co23 : Value).ownBlock ∧ some k_ ≠ (.slice Ao17 t552.length co17 : Value).ownBlock) ∧ some k_ ≠ (.slice Ao18 t555.length co18 : Value).ownBlock) ∧ some k_ ≠ (.slice Ao27 t571.length co27 : Value).ownBlock) ∧ some k_ ≠ (.slice Ao28 t574.length co28 : Value).ownBlock) ∧ some k_ ≠ (.slice Ao33 t578.length co33 : Value).ownBlock) ∧ some k_ ≠ (.slice Ao34 t581.length co34 : Value).ownBlock)) (n := t559.length) (c := co22) ?_).2.2; exact (by (with_reducible repeat (first | apply Kd.R_alloc | apply Kd.R_drewN | apply Kd.R_drew)); exact (Kd.R_mono (Kd.R_far (p := ⟨gb589, 4, none⟩) (Kd.R_far (p := ⟨gb589, 3, none⟩) (Kd.R_far (p := ⟨gb589, 2, none⟩) (Kd.R_far (p := ⟨gb589, 1, none⟩) (Kd.R_far (p := ⟨gb589, 0, none⟩) (Kd.R_types HO561.out BK589.out (by decide)) (fun _ hk => hk.2) (.int .i64 t577)) (fun _ hk => hk.2) (.slice Ao33 t578.length co33)) (fun _ hk => hk.2) (.slice Ao34 t581.length co34)) (fun _ hk => hk.2) (.slice Ao35 t584.length co35)) (fun _ hk => hk.2) (.int .i64 t587)) (fun _ h_ => h_.1)))); (case side8 => exact (Kd.R_reads' HO561.out).2.1); (case side9 => refine (Kd.R_reads' (e := 62) (base := w.heap.size) (ok := fun k_ => ((((((some k_ ≠ (.slice Ao22 t559.length co22 : Value).ownBlock ∧ some k_ ≠ (.slice Ao17 t552.length co17 : Value).ownBlock) ∧ some k_ ≠ (.slice Ao18 t555.length co18 : Value).ownBlock) ∧ some k_ ≠ (.slice Ao27 t571.length co27 : Value).ownBlock) ∧ some k_ ≠ (.slice Ao28 t574.length co28 : Value).ownBlock) ∧ some k_ ≠ (.slice Ao33 t578.length co33 : Value).ownBlock) ∧ some k_ ≠ (.slice Ao34 t581.length co34 : Value).ownBlock)) (n := t562.length) (c := co23) ?_).2.2; exact (by (with_reducible repeat (first | apply Kd.R_alloc | apply Kd.R_drewN | apply Kd.R_drew)); exact (Kd.R_mono (Kd.R_far (p := ⟨gb589, 4, none⟩) (Kd.R_far (p := ⟨gb589, 3, none⟩) (Kd.R_far (p := ⟨gb589, 2, none⟩) (Kd.R_far (p := ⟨gb589, 1, none⟩) (Kd.R_far (p := ⟨gb589, 0, none⟩) (Kd.R_types HO564.out BK589.out (by decide)) (fun _ hk => hk.2) (.int .i64 t577)) (fun _ hk => hk.2) (.slice Ao33 t578.length co33)) (fun _ hk => hk.2) (.slice Ao34 t581.length co34)) (fun _ hk => hk.2) (.slice Ao35 t584.length co35)) (fun _ hk => hk.2) (.int .i64 t587)) (fun _ h_ => h_.1)))); (case side10 => exact (Kd.R_reads' HO564.out).2.1); (case side11 => refine (Kd.R_reads' (e := 4) (base := w.heap.size) (ok := fun k_ => (True ∧ some k_ ≠ (.slice Ao35 t584.length co35 : Value).ownBlock)) (n := t565.length) (c := co24) ?_).2.2; exact (by (with_reducible repeat (first | apply Kd.R_alloc | apply Kd.R_drewN | apply Kd.R_drew)); exact (Kd.R_mono (Kd.R_far (p := ⟨gb589, 4, none⟩) (Kd.R_far (p := ⟨gb589, 3, none⟩) (Kd.R_far (p := ⟨gb589, 2, none⟩) (Kd.R_far (p := ⟨gb589, 1, none⟩) (Kd.R_far (p := ⟨gb589, 0, none⟩) (Kd.R_types HO567.out BK589.out (by decide)) (fun _ hk => hk.2) (.int .i64 t577)) (fun _ hk => hk.2) (.slice Ao33 t578.length co33)) (fun _ hk => hk.2) (.slice Ao34 t581.length co34)) (fun _ hk => hk.2) (.slice Ao35 t584.length co35)) (fun _ hk => hk.2) (.int .i64 t587)) (fun _ h_ => h_.1)))); (case side12 => exact (Kd.R_reads' HO567.out).2.1); rintro e w45 ⟨rfl, hb⟩; refine ⟨_, rfl, ?_⟩; replace HO561 := mA (Kd.R_below (by (with_reducible repeat (first | apply Kd.R_alloc | apply Kd.R_drewN | apply Kd.R_drew)); exact (Kd.R_mono (Kd.R_far (p := ⟨gb589, 4, none⟩) (Kd.R_far (p := ⟨gb589, 3, none⟩) (Kd.R_far (p := ⟨gb589, 2, none⟩) (Kd.R_far (p := ⟨gb589, 1, none⟩) (Kd.R_far (p := ⟨gb589, 0, none⟩) (Kd.R_types HO561.out BK589.out (by decide)) (fun _ hk => hk.2) (.int .i64 t577)) (fun _ hk => hk.2) (.slice Ao33 t578.length co33)) (fun _ hk => hk.2) (.slice Ao34 t581.length co34)) (fun _ hk => hk.2) (.slice Ao35 t584.length co35)) (fun _ hk => hk.2) (.int .i64 t587)) (fun _ h_ => h_.1))) hb); replace HO564 := mA (Kd.R_below (by (with_reducible repeat (first | apply Kd.R_alloc | apply Kd.R_drewN | apply Kd.R_drew)); exact (Kd.R_mono (Kd.R_far (p := ⟨gb589, 4, none⟩) (Kd.R_far (p := ⟨gb589, 3, none⟩) (Kd.R_far (p := ⟨gb589, 2, none⟩) (Kd.R_far (p := ⟨gb589, 1, none⟩) (Kd.R_far (p := ⟨gb589, 0, none⟩) (Kd.R_types HO564.out BK589.out (by decide)) (fun _ hk => hk.2) (.int .i64 t577)) (fun _ hk => hk.2) (.slice Ao33 t578.length co33)) (fun _ hk => hk.2) (.slice Ao34 t581.length co34)) (fun _ hk => hk.2) (.slice Ao35 t584.length co35)) (fun _ hk => hk.2) (.int .i64 t587)) (fun _ h_ => h_.1))) hb); replace HO567 := mA (Kd.R_below (by (with_reducible repeat (first | apply Kd.R_alloc | apply Kd.R_drewN | apply Kd.R_drew)); exact (Kd.R_mono (Kd.R_far (p := ⟨gb589, 4, none⟩) (Kd.R_far (p := ⟨gb589, 3, none⟩) (Kd.R_far (p := ⟨gb589, 2, none⟩) (Kd.R_far (p := ⟨gb589, 1, none⟩) (Kd.R_far (p := ⟨gb589, 0, none⟩) (Kd.R_types HO567.out BK589.out (by decide)) (fun _ hk => hk.2) (.int .i64 t577)) (fun _ hk => hk.2) (.slice Ao33 t578.length co33)) (fun _ hk => hk.2) (.slice Ao34 t581.length co34)) (fun _ hk => hk.2) (.slice Ao35 t584.length co35)) (fun _ hk => hk.2) (.int .i64 t587)) (fun _ h_ => h_.1))) hb); replace HO573 := mA (Kd.R_below (by (with_reducible repeat (first | apply Kd.R_alloc | apply Kd.R_drewN | apply Kd.R_drew)); exact (Kd.R_mono (Kd.R_far (p := ⟨gb589, 4, none⟩) (Kd.R_far (p := ⟨gb589, 3, none⟩) (Kd.R_far (p := ⟨gb589, 2, none⟩) (Kd.R_far (p := ⟨gb589, 1, none⟩) (Kd.R_far (p := ⟨gb589, 0, none⟩) (Kd.R_types HO573.out BK589.out (by decide)) (fun _ hk => hk.2) (.int .i64 t577)) (fun _ hk => hk.2) (.slice Ao33 t578.length co33)) (fun _ hk => hk.2) (.slice Ao34 t581.length co34)) (fun _ hk => hk.2) (.slice Ao35 t584.length co35)) (fun _ hk => hk.2) (.int .i64 t587)) (fun _ h_ => h_.1))) hb); replace HO576 := mA (Kd.R_below (by (with_reducible repeat (first | apply Kd.R_alloc | apply Kd.R_drewN | apply Kd.R_drew)); exact (Kd.R_mono (Kd.R_far (p := ⟨gb589, 4, none⟩) (Kd.R_far (p := ⟨gb589, 3, none⟩) (Kd.R_far (p := ⟨gb589, 2, none⟩) (Kd.R_far (p := ⟨gb589, 1, none⟩) (Kd.R_far (p := ⟨gb589, 0, none⟩) (Kd.R_types HO576.out BK589.out (by decide)) (fun _ hk => hk.2) (.int .i64 t577)) (fun _ hk => hk.2) (.slice Ao33 t578.length co33)) (fun _ hk => hk.2) (.slice Ao34 t581.length co34)) (fun _ hk => hk.2) (.slice Ao35 t584.length co35)) (fun _ hk => hk.2) (.int .i64 t587)) (fun _ h_ => h_.1))) hb); replace HO580 := mA (Kd.R_below (by (with_reducible repeat (first | apply Kd.R_alloc | apply Kd.R_drewN | apply Kd.R_drew)); exact (Kd.R_mono (Kd.R_far (p := ⟨gb589, 4, none⟩) (Kd.R_far (p := ⟨gb589, 3, none⟩) (Kd.R_far (p := ⟨gb589, 2, none⟩) (Kd.R_far (p := ⟨gb589, 1, none⟩) (Kd.R_far (p := ⟨gb589, 0, none⟩) (Kd.R_types HO580.out BK589.out (by decide)) (fun _ hk => hk.2) (.int .i64 t577)) (fun _ hk => hk.2) (.slice Ao33 t578.length co33)) (fun _ hk => hk.2) (.slice Ao34 t581.length co34)) (fun _ hk => hk.2) (.slice Ao35 t584.length co35)) (fun _ hk => hk.2) (.int .i64 t587)) (fun _ h_ => h_.1))) hb); replace HO583 := mA (Kd.R_below (by (with_reducible repeat (first | apply Kd.R_alloc | apply Kd.R_drewN | apply Kd.R_drew)); exact (Kd.R_mono (Kd.R_far (p := ⟨gb589, 4, none⟩) (Kd.R_far (p := ⟨gb589, 3, none⟩) (Kd.R_far (p := ⟨gb589, 2, none⟩) (Kd.R_far (p := ⟨gb589, 1, none⟩) (Kd.R_far (p := ⟨gb589, 0, none⟩) (Kd.R_types HO583.out BK589.out (by decide)) (fun _ hk => hk.2) (.int .i64 t577)) (fun _ hk => hk.2) (.slice Ao33 t578.length co33)) (fun _ hk => hk.2) (.slice Ao34 t581.length co34)) (fun _ hk => hk.2) (.slice Ao35 t584.length co35)) (fun _ hk => hk.2) (.int .i64 t587)) (fun _ h_ => h_.1))) hb); replace HO586 := mA (Kd.R_below (by (with_reducible repeat (first | apply Kd.R_alloc | apply Kd.R_drewN | apply Kd.R_drew)); exact (Kd.R_mono (Kd.R_far (p := ⟨gb589, 4, none⟩) (Kd.R_far (p := ⟨gb589, 3, none⟩) (Kd.R_far (p := ⟨gb589, 2, none⟩) (Kd.R_far (p := ⟨gb589, 1, none⟩) (Kd.R_far (p := ⟨gb589, 0, none⟩) (Kd.R_types HO586.out BK589.out (by decide)) (fun _ hk => hk.2) (.int .i64 t577)) (fun _ hk => hk.2) (.slice Ao33 t578.length co33)) (fun _ hk => hk.2) (.slice Ao34 t581.length co34)) (fun _ hk => hk.2) (.slice Ao35 t584.length co35)) (fun _ hk => hk.2) (.int .i64 t587)) (fun _ h_ => h_.1))) hb); replace BK570 := mA (blk_below (g := gb570) (o := .cells #[.int .i64 t558, .slice Ao22 t559.length co22, .slice Ao23 t562.length co23, .slice Ao24 t565.length co24, .int .i64 t568] 37 (0, 0)) (by (with_reducible repeat (first | refine blk_drewN ?_ _ | refine blk_drew ?_ | refine blk_alloc ?_ _)); refine blk_far ?_ NB570_589.out _; (with_reducible repeat (first | refine blk_drewN ?_ _ | refine blk_drew ?_ | refine blk_alloc ?_ _)); refine blk_far ?_ NB570_589.out _; (with_reducible repeat (first | refine blk_drewN ?_ _ | refine blk_drew ?_ | refine blk_alloc ?_ _)); refine blk_far ?_ NB570_589.out _; (with_reducible repeat (first | refine blk_drewN ?_ _ | refine blk_drew ?_ | refine blk_alloc ?_ _)); refine blk_far ?_ NB570_589.out _; (with_reducible repeat (first | refine blk_drewN ?_ _ | refine blk_drew ?_ | refine blk_alloc ?_ _)); refine blk_far ?_ NB570_589.out _; (with_reducible repeat (first | refine blk_drewN ?_ _ | refine blk_drew ?_ | refine blk_alloc ?_ _)); exact BK570.out) hb); replace BK589 := mA (blk_below (g := gb589) (o := .cells #[.int .i64 t577, .slice Ao33 t578.length co33, .slice Ao34 t581.length co34, .slice Ao35 t584.length co35, .int .i64 t587] 37 (0, 0)) (by (with_reducible repeat (first | refine blk_drewN ?_ _ | refine blk_drew ?_ | refine blk_alloc ?_ _)); refine blk_put (cs := #[.int .i64 t577, .slice Ao33 t578.length co33, .slice Ao34 t581.length co34, .slice Ao35 t584.length co35, .int .i64 0]) ?_ 4 _ rfl; (with_reducible repeat (first | refine blk_drewN ?_ _ | refine blk_drew ?_ | refine blk_alloc ?_ _)); refine blk_put (cs := #[.int .i64 t577, .slice Ao33 t578.length co33, .slice Ao34 t581.length co34, .slice none 0 0, .int .i64 0]) ?_ 3 _ rfl; (with_reducible repeat (first | refine blk_drewN ?_ _ | refine blk_drew ?_ | refine blk_alloc ?_ _)); refine blk_put (cs := #[.int .i64 t577, .slice Ao33 t578.length co33, .slice none 0 0, .slice none 0 0, .int .i64 0]) ?_ 2 _ rfl; (with_reducible repeat (first | refine blk_drewN ?_ _ | refine blk_drew ?_ | refine blk_alloc ?_ _)); refine blk_put (cs := #[.int .i64 t577, .slice none 0 0, .slice none 0 0, .slice none 0 0, .int .i64 0]) ?_ 1 _ rfl; (with_reducible repeat (first | refine blk_drewN ?_ _ | refine blk_drew ?_ | refine blk_alloc ?_ _)); refine blk_put (cs := #[.int .i64 0, .slice none 0 0, .slice none 0 0, .slice none 0 0, .int .i64 0]) ?_ 0 _ rfl; (with_reducible repeat (first | refine blk_drewN ?_ _ | refine blk_drew ?_ | refine blk_alloc ?_ _)); exact BK589.out) hb); replace HB := mA (below_step (bT2 HB GE570 GE589) hb); (try clear hb); (try clear hk)))
     go_meet
     case rel => exact ⟨_, (true), sT, H', ⟨by first | omega | exact Nat.le_refl _⟩, ⟨by (with_reducible repeat (first | apply Kd.R_alloc | apply Kd.R_drewN | apply Kd.R_drew)); exact Kd.R_mono HO573.out (fun _ hk => ⟨hk.1.1.2, ⟨hk.1.1.1.1.2, ⟨hk.1.1.1.2, ⟨hk.1.2, hk.2⟩⟩⟩⟩)⟩, ⟨by (with_reducible repeat (first | apply Kd.R_alloc | apply Kd.R_drewN | apply Kd.R_drew)); exact Kd.R_mono HO576.out (fun _ hk => ⟨hk.1.1.2, ⟨hk.1.1.1.1.2, ⟨hk.1.1.1.2, ⟨hk.1.2, hk.2⟩⟩⟩⟩)⟩, ⟨by (with_reducible repeat (first | apply Kd.R_alloc | apply Kd.R_drewN | apply Kd.R_drew)); exact Kd.R_mono HO561.out (fun _ hk => ⟨hk.1.1.1.2, ⟨hk.1.1.2, ⟨hk.1.1.1.1.1.1, ⟨hk.1.2, hk.2⟩⟩⟩⟩)⟩, ⟨by (with_reducible repeat (first | apply Kd.R_alloc | apply Kd.R_drewN | apply Kd.R_drew)); exact Kd.R_mono HO564.out (fun _ hk => ⟨hk.1.1.1.2, ⟨hk.1.1.2, ⟨hk.1.1.1.1.1.1, ⟨hk.1.2, hk.2⟩⟩⟩⟩)⟩, ⟨by (with_reducible repeat (first | apply Kd.R_alloc | apply Kd.R_drewN | apply Kd.R_drew)); exact Kd.R_mono HO567.out (fun _ hk => hk.2)⟩, ⟨by (with_reducible repeat (first | apply Kd.R_alloc | apply Kd.R_drewN | apply Kd.R_drew)); exact Kd.R_mono HO580.out (fun _ hk => ⟨hk.1.2, ⟨hk.2, ⟨hk.1.1.1.2, ⟨hk.1.1.2, hk.1.1.1.1.1.1⟩⟩⟩⟩)⟩, ⟨by (with_reducible repeat (first | apply Kd.R_alloc | apply Kd.R_drewN | apply Kd.R_drew)); exact Kd.R_mono HO583.out (fun _ hk => ⟨hk.1.2, ⟨hk.2, ⟨hk.1.1.1.2, ⟨hk.1.1.2, hk.1.1.1.1.1.1⟩⟩⟩⟩)⟩, ⟨by (with_reducible repeat (first | apply Kd.R_alloc | apply Kd.R_drewN | apply Kd.R_drew)); exact Kd.R_mono HO586.out (fun _ hk => hk.2)⟩, ⟨kT BK570⟩, ⟨kT BK589⟩, ⟨bT2 HB GE570 GE589⟩⟩
   case rest =>
    clear HC14
    try clear c1
    try clear c2
    try clear p2
    try clear c3
    try clear c4
    try clear c5
    try clear c5b0
    try clear c7
    try clear c7b0
    try clear c8
    try clear c15
    try clear c17
    try clear c26
    try clear c31
    try clear c33
    try clear c34
    try clear c37
    try clear c38
    try clear c42
    try clear hcz21_0
    try clear hcz21_1
    try clear hcz21_2
    try clear hcz21_3
    try clear hcz21_4
    try clear hcz32_0
    try clear hcz32_1
    try clear hcz32_2
    try clear hcz32_3
    try clear hcz32_4
    try clear hcz39_0
    try clear hcz39_1
    try clear hcz39_2
    try clear hcz39_3
    try clear hcz39_4
    try clear hcz40_0
    try clear hcz40_1
    try clear hcz40_2
    try clear hcz40_3
    try clear hcz40_4
    try clear hcz43_0
    try clear hcz43_1
    try clear hcz43_2
    try clear hcz43_3
    try clear hcz43_4
    try clear hcz44_0
    try clear hcz44_1
    try clear hcz44_2
    try clear hcz44_3
    try clear hcz44_4
    try clear hfz21_0
    try clear hfz21_1
    try clear hfz21_2
    try clear hfz21_3
    try clear hfz21_4
    try clear hfz32_0
    try clear hfz32_1
    try clear hfz32_2
    try clear hfz32_3
    try clear hfz32_4
    try clear hfz39_0
    try clear hfz39_1
    try clear hfz39_2
    try clear hfz39_3
    try clear hfz39_4
    try clear hfz40_0
    try clear hfz40_1
    try clear hfz40_2
    try clear hfz40_3
    try clear hfz40_4
    try clear hfz43_0
    try clear hfz43_1
    try clear hfz43_2
    try clear hfz43_3
    try clear hfz43_4
    try clear hfz44_0
    try clear hfz44_1
    try clear hfz44_2
    try clear hfz44_3
    try clear hfz44_4
    obtain ⟨kq, x57_13, rfl, HA, HJ13, HO_10, HO_11, HO_571001, HO_571002, HO_571003, HO_590001, HO_590002, HO_590003, BK570, BK589, HB⟩ := hcut
    cases kq with
    | zero => exact absurd HA.out (by simp [laws_FnExactNewTask.j0])
    | succ kj13 =>
     have H := HA.out
     clear HA
     simp only [laws_FnExactNewTask.j0] at H
     by_cases c46 : x57_13 = true
     ·
      subst c46
      rw [if_pos rfl] at H
      exact absurd ((Option.some.inj H).trans HT.out) (by simp)
     ·
      replace c46 := Bool.eq_false_iff.mpr c46
      subst c46
      rw [if_neg (show ¬ (false = true) by decide)] at H
      obtain ⟨t591, A47, H⟩ := Option.bind_eq_some_iff.mp H
      replace A47 := mA A47
      try dsimp only at H
      obtain ⟨t594, A48, H⟩ := Option.bind_eq_some_iff.mp H
      replace A48 := mA A48
      try dsimp only at H
      by_cases c49 : t594 = true
      ·
       subst c49
       rw [if_pos rfl] at H
       obtain ⟨t595, A50, H⟩ := Option.bind_eq_some_iff.mp H
       replace A50 := mA A50
       try dsimp only at H
       obtain ⟨t598, A51, H⟩ := Option.bind_eq_some_iff.mp H
       replace A51 := mA A51
       try dsimp only at H
       by_cases c52 : t598 = true
       ·
        subst c52
        rw [if_pos rfl] at H
        obtain ⟨⟨t599, t600⟩, A53, H⟩ := Option.bind_eq_some_iff.mp H
        replace A53 := mA A53
        try dsimp only at H
        obtain ⟨⟨t601, t602⟩, A54, H⟩ := Option.bind_eq_some_iff.mp H
        replace A54 := mA A54
        try dsimp only at H
        have HC55 := mA H
        clear H
        go_upto_region 21 with (first | ((with_reducible refine gate_callee (f := 17) rfl ?_); refine goesT (some 60) Try.func17 #[.slice A1 l1.length c1] ?_; (with_reducible refine (laws_toRowS.calls kj13 _ _ l1 t591 _ ?side1 ?side2 A47.out).mono ?_); (case side1 => exact cT (Kd.C_below HR1.out HB.out)); (case side2 => exact HC1.out); rintro e w56 ⟨v592, rfl, ho0, hb⟩; refine ⟨_, rfl, ?_⟩; replace HO_571003 := rBR HO_571003 hb; replace HO_590003 := rBR HO_590003 hb; have HO593 := mA (Kd.R_lower (Kd.R_new' (Kd.R_new' (Kd.R_new' (Kd.R_new' (Kd.R_new' (Kd.R_new' ho0 (Kd.R_lt (rTR HO_10))) (Kd.R_lt (rTR HO_11))) (Kd.R_lt (rTR HO_571001))) (Kd.R_lt (rTR HO_571002))) (Kd.R_lt (rTR HO_590001))) (Kd.R_lt (rTR HO_590002))) (below_size (bT2 HB GE570 GE589))); replace HO_10 := mA (Kd.R_elder' (rTR HO_10) (Kd.R_base ho0) hb); replace HO_11 := mA (Kd.R_elder' (rTR HO_11) (Kd.R_base ho0) hb); replace HO_571001 := mA (Kd.R_elder' (rTR HO_571001) (Kd.R_base ho0) hb); replace HO_571002 := mA (Kd.R_elder' (rTR HO_571002) (Kd.R_base ho0) hb); replace HO_590001 := mA (Kd.R_elder' (rTR HO_590001) (Kd.R_base ho0) hb); replace HO_590002 := mA (Kd.R_elder' (rTR HO_590002) (Kd.R_base ho0) hb); replace BK570 := kB BK570 hb; replace BK589 := kB BK589 hb; replace HB := mA (below_step (bT2 HB GE570 GE589) hb); (try clear hb); (try clear ho0); obtain ⟨Ao57, co57, eo57⟩ := Kd.R_slice HO593.out; subst eo57) | ((with_reducible refine gate_callee (f := 19) rfl ?_); refine goesT (some 61) Try.func19 #[.slice Ao27 t571.length co27, .slice Ao57 t591.length co57] ?_; (with_reducible refine (laws_eqRowS.calls kj13 _ _ t571 _ _ t591 true _ ?side1 ?side2 ?side3 ?side4 A48.out).mono ?_); (case side1 => exact cT ((Kd.R_reads' HO_10.out).2.2)); (case side2 => exact (Kd.R_reads' HO_10.out).2.1); (case side3 => exact cT ((Kd.R_reads' HO593.out).2.2)); (case side4 => exact (Kd.R_reads' HO593.out).2.1); rintro e w58 ⟨rfl, hb⟩; refine ⟨_, rfl, ?_⟩; replace HO_10 := rBR HO_10 hb; replace HO_11 := rBR HO_11 hb; replace HO_571001 := rBR HO_571001 hb; replace HO_571002 := rBR HO_571002 hb; replace HO_571003 := rBR HO_571003 hb; replace HO_590001 := rBR HO_590001 hb; replace HO_590002 := rBR HO_590002 hb; replace HO_590003 := rBR HO_590003 hb; replace HO593 := rBR HO593 hb; replace BK570 := kB BK570 hb; replace BK589 := kB BK589 hb; replace HB := mA (below_step (bT2 HB GE570 GE589) hb); (try clear hb)) | ((with_reducible refine gate_callee (f := 17) rfl ?_); refine goesT (some 65) Try.func17 #[.slice A2 l2.length c2] ?_; (with_reducible refine (laws_toRowS.calls kj13 _ _ l2 t595 _ ?side1 ?side2 A50.out).mono ?_); (case side1 => exact cT (Kd.C_below HR2.out HB.out)); (case side2 => exact HC2.out); rintro e w59 ⟨v596, rfl, ho0, hb⟩; refine ⟨_, rfl, ?_⟩; replace HO_571003 := rBR HO_571003 hb; replace HO_590003 := rBR HO_590003 hb; have HO597 := mA (Kd.R_lower (Kd.R_new' (Kd.R_new' (Kd.R_new' (Kd.R_new' (Kd.R_new' (Kd.R_new' (Kd.R_new' ho0 (Kd.R_lt (rTR HO_10))) (Kd.R_lt (rTR HO_11))) (Kd.R_lt (rTR HO_571001))) (Kd.R_lt (rTR HO_571002))) (Kd.R_lt (rTR HO_590001))) (Kd.R_lt (rTR HO_590002))) (Kd.R_lt (rTR HO593))) (below_size (bT2 HB GE570 GE589))); replace HO_10 := mA (Kd.R_elder' (rTR HO_10) (Kd.R_base ho0) hb); replace HO_11 := mA (Kd.R_elder' (rTR HO_11) (Kd.R_base ho0) hb); replace HO_571001 := mA (Kd.R_elder' (rTR HO_571001) (Kd.R_base ho0) hb); replace HO_571002 := mA (Kd.R_elder' (rTR HO_571002) (Kd.R_base ho0) hb); replace HO_590001 := mA (Kd.R_elder' (rTR HO_590001) (Kd.R_base ho0) hb); replace HO_590002 := mA (Kd.R_elder' (rTR HO_590002) (Kd.R_base ho0) hb); replace BK570 := kB BK570 hb; replace BK589 := kB BK589 hb; replace HB := mA (below_step (bT2 HB GE570 GE589) hb); (try clear hb); (try clear ho0); obtain ⟨Ao60, co60, eo60⟩ := Kd.R_slice HO597.out; subst eo60) | ((with_reducible refine gate_callee (f := 19) rfl ?_); refine goesT (some 66) Try.func19 #[.slice Ao28 t574.length co28, .slice Ao60 t595.length co60] ?_; (with_reducible refine (laws_eqRowS.calls kj13 _ _ t574 _ _ t595 true _ ?side1 ?side2 ?side3 ?side4 A51.out).mono ?_); (case side1 => exact cT ((Kd.R_reads' HO_11.out).2.2)); (case side2 => exact (Kd.R_reads' HO_11.out).2.1); (case side3 => exact cT ((Kd.R_reads' HO597.out).2.2)); (case side4 => exact (Kd.R_reads' HO597.out).2.1); rintro e w61 ⟨rfl, hb⟩; refine ⟨_, rfl, ?_⟩; replace HO_10 := rBR HO_10 hb; replace HO_11 := rBR HO_11 hb; replace HO_571001 := rBR HO_571001 hb; replace HO_571002 := rBR HO_571002 hb; replace HO_571003 := rBR HO_571003 hb; replace HO_590001 := rBR HO_590001 hb; replace HO_590002 := rBR HO_590002 hb; replace HO_590003 := rBR HO_590003 hb; replace BK570 := kB BK570 hb; replace BK589 := kB BK589 hb; replace HB := mA (below_step (bT2 HB GE570 GE589) hb); (try clear hb)) | ((with_reducible refine gate_callee (f := 20) rfl ?_); refine goesT (some 70) Try.func20 #[.slice Ao27 t571.length co27, .int .i64 1] ?_; (with_reducible refine (laws_markRowS.calls kj13 (fun k_ => some k_ = (.slice Ao27 t571.length co27 : Value).ownBlock) (.slice Ao27 t571.length co27) t571 1 t599 t600 w _ ?side1 ?side2 A53.out).mono ?_); (case side1 => repeat (first | (with_reducible first | exact HB.out | apply below_alloc | apply pw_below_drewN | apply below_drew1 | refine below_set ?_ GE570.out | refine below_set ?_ GE589.out) | exact HB.out)); (case side2 => exact Kd.R_tight rfl HO_10.out); rintro e w62 ⟨rfl, hy0, hb, hkp⟩; refine ⟨_, rfl, ?_⟩; replace HO_11 := mA (Kd.R_mono (ok' := fun k_ => some k_ ≠ (.slice Ao27 t571.length co27 : Value).ownBlock ∧ some k_ ≠ (.slice Ao22 t559.length co22 : Value).ownBlock ∧ some k_ ≠ (.slice Ao23 t562.length co23 : Value).ownBlock ∧ some k_ ≠ (.slice Ao33 t578.length co33 : Value).ownBlock ∧ some k_ ≠ (.slice Ao34 t581.length co34 : Value).ownBlock ∧ some k_ ≠ (.slice Ao57 t591.length co57 : Value).ownBlock ∧ some k_ ≠ (.slice Ao60 t595.length co60 : Value).ownBlock) (Kd.R_keptB (HO_11.out) hkp (fun k_ hk_ hs_ => (hk_.1.1.1) hs_)) (fun k_ hk_ => ⟨hk_.1.1.1.1, hk_.1.1.1.2.1, hk_.1.1.1.2.2.1, hk_.1.1.1.2.2.2.1, hk_.1.1.1.2.2.2.2, hk_.1.1.2, hk_.1.2⟩)); replace HO_571001 := mA (Kd.R_mono (ok' := fun k_ => some k_ ≠ (.slice Ao27 t571.length co27 : Value).ownBlock ∧ some k_ ≠ (.slice Ao28 t574.length co28 : Value).ownBlock ∧ some k_ ≠ (.slice Ao23 t562.length co23 : Value).ownBlock ∧ some k_ ≠ (.slice Ao33 t578.length co33 : Value).ownBlock ∧ some k_ ≠ (.slice Ao34 t581.length co34 : Value).ownBlock ∧ some k_ ≠ (.slice Ao57 t591.length co57 : Value).ownBlock ∧ some k_ ≠ (.slice Ao60 t595.length co60 : Value).ownBlock) (Kd.R_keptB (HO_571001.out) hkp (fun k_ hk_ hs_ => (hk_.1.1.1) hs_)) (fun k_ hk_ => ⟨hk_.1.1.1.1, hk_.1.1.1.2.1, hk_.1.1.1.2.2.1, hk_.1.1.1.2.2.2.1, hk_.1.1.1.2.2.2.2, hk_.1.1.2, hk_.1.2⟩)); replace HO_571002 := mA (Kd.R_mono (ok' := fun k_ => some k_ ≠ (.slice Ao27 t571.length co27 : Value).ownBlock ∧ some k_ ≠ (.slice Ao28 t574.length co28 : Value).ownBlock ∧ some k_ ≠ (.slice Ao22 t559.length co22 : Value).ownBlock ∧ some k_ ≠ (.slice Ao33 t578.length co33 : Value).ownBlock ∧ some k_ ≠ (.slice Ao34 t581.length co34 : Value).ownBlock ∧ some k_ ≠ (.slice Ao57 t591.length co57 : Value).ownBlock ∧ some k_ ≠ (.slice Ao60 t595.length co60 : Value).ownBlock) (Kd.R_keptB (HO_571002.out) hkp (fun k_ hk_ hs_ => (hk_.1.1.1) hs_)) (fun k_ hk_ => ⟨hk_.1.1.1.1, hk_.1.1.1.2.1, hk_.1.1.1.2.2.1, hk_.1.1.1.2.2.2.1, hk_.1.1.1.2.2.2.2, hk_.1.1.2, hk_.1.2⟩)); replace HO_571003 := mA (Kd.R_mono (ok' := fun k_ => some k_ ≠ (.slice Ao35 t584.length co35 : Value).ownBlock) (Kd.R_keptB ((Kd.R_apart' HO_571003.out (Kd.R_typed HO_10.out) (by decide))) hkp (fun k_ hk_ hs_ => (hk_.2) hs_)) (fun k_ hk_ => hk_.1.1)); replace HO_590001 := mA (Kd.R_mono (ok' := fun k_ => some k_ ≠ (.slice Ao27 t571.length co27 : Value).ownBlock ∧ some k_ ≠ (.slice Ao28 t574.length co28 : Value).ownBlock ∧ some k_ ≠ (.slice Ao22 t559.length co22 : Value).ownBlock ∧ some k_ ≠ (.slice Ao23 t562.length co23 : Value).ownBlock ∧ some k_ ≠ (.slice Ao34 t581.length co34 : Value).ownBlock ∧ some k_ ≠ (.slice Ao57 t591.length co57 : Value).ownBlock ∧ some k_ ≠ (.slice Ao60 t595.length co60 : Value).ownBlock) (Kd.R_keptB (HO_590001.out) hkp (fun k_ hk_ hs_ => (hk_.1.1.1) hs_)) (fun k_ hk_ => ⟨hk_.1.1.1.1, hk_.1.1.1.2.1, hk_.1.1.1.2.2.1, hk_.1.1.1.2.2.2.1, hk_.1.1.1.2.2.2.2, hk_.1.1.2, hk_.1.2⟩)); replace HO_590002 := mA (Kd.R_mono (ok' := fun k_ => some k_ ≠ (.slice Ao27 t571.length co27 : Value).ownBlock ∧ some k_ ≠ (.slice Ao28 t574.length co28 : Value).ownBlock ∧ some k_ ≠ (.slice Ao22 t559.length co22 : Value).ownBlock ∧ some k_ ≠ (.slice Ao23 t562.length co23 : Value).ownBlock ∧ some k_ ≠ (.slice Ao33 t578.length co33 : Value).ownBlock ∧ some k_ ≠ (.slice Ao57 t591.length co57 : Value).ownBlock ∧ some k_ ≠ (.slice Ao60 t595.length co60 : Value).ownBlock) (Kd.R_keptB (HO_590002.out) hkp (fun k_ hk_ hs_ => (hk_.1.1.1) hs_)) (fun k_ hk_ => ⟨hk_.1.1.1.1, hk_.1.1.1.2.1, hk_.1.1.1.2.2.1, hk_.1.1.1.2.2.2.1, hk_.1.1.1.2.2.2.2, hk_.1.1.2, hk_.1.2⟩)); replace HO_590003 := mA (Kd.R_mono (ok' := fun k_ => some k_ ≠ (.slice Ao24 t565.length co24 : Value).ownBlock) (Kd.R_keptB ((Kd.R_apart' HO_590003.out (Kd.R_typed HO_10.out) (by decide))) hkp (fun k_ hk_ hs_ => (hk_.2) hs_)) (fun k_ hk_ => hk_.1.1)); replace BK570 := mA (blk_kept (kT BK570) hkp (fun hs_ => (fun e_ => (Kd.R_ne HO_10.out BK570.out (by decide)) e_) hs_)); replace BK589 := mA (blk_kept (kT BK589) hkp (fun hs_ => (fun e_ => (Kd.R_ne HO_10.out BK589.out (by decide)) e_) hs_)); replace HB := mA (hb); (try clear hb); (try clear hkp); (try clear hy0)) | ((with_reducible refine gate_callee (f := 20) rfl ?_); refine goesT (some 73) Try.func20 #[.slice Ao28 t574.length co28, .int .i64 t599] ?_; (with_reducible refine (laws_markRowS.calls kj13 (fun k_ => some k_ = (.slice Ao28 t574.length co28 : Value).ownBlock) (.slice Ao28 t574.length co28) t574 t599 t601 t602 w _ ?side1 ?side2 A54.out).mono ?_); (case side1 => repeat (first | (with_reducible first | exact HB.out | apply below_alloc | apply pw_below_drewN | apply below_drew1 | refine below_set ?_ GE570.out | refine below_set ?_ GE589.out) | exact HB.out)); (case side2 => exact Kd.R_tight rfl HO_11.out); rintro e w63 ⟨rfl, hy0, hb, hkp⟩; refine ⟨_, rfl, ?_⟩; replace HO_571001 := mA (Kd.R_mono (ok' := fun k_ => some k_ ≠ (.slice Ao27 t571.length co27 : Value).ownBlock ∧ some k_ ≠ (.slice Ao28 t574.length co28 : Value).ownBlock ∧ some k_ ≠ (.slice Ao23 t562.length co23 : Value).ownBlock ∧ some k_ ≠ (.slice Ao33 t578.length co33 : Value).ownBlock ∧ some k_ ≠ (.slice Ao34 t581.length co34 : Value).ownBlock ∧ some k_ ≠ (.slice Ao57 t591.length co57 : Value).ownBlock ∧ some k_ ≠ (.slice Ao60 t595.length co60 : Value).ownBlock) (Kd.R_keptB (HO_571001.out) hkp (fun k_ hk_ hs_ => (hk_.2.1) hs_)) (fun k_ hk_ => ⟨hk_.1.1, hk_.1.2.1, hk_.1.2.2.1, hk_.1.2.2.2.1, hk_.1.2.2.2.2.1, hk_.1.2.2.2.2.2.1, hk_.1.2.2.2.2.2.2⟩)); replace HO_571002 := mA (Kd.R_mono (ok' := fun k_ => some k_ ≠ (.slice Ao27 t571.length co27 : Value).ownBlock ∧ some k_ ≠ (.slice Ao28 t574.length co28 : Value).ownBlock ∧ some k_ ≠ (.slice Ao22 t559.length co22 : Value).ownBlock ∧ some k_ ≠ (.slice Ao33 t578.length co33 : Value).ownBlock ∧ some k_ ≠ (.slice Ao34 t581.length co34 : Value).ownBlock ∧ some k_ ≠ (.slice Ao57 t591.length co57 : Value).ownBlock ∧ some k_ ≠ (.slice Ao60 t595.length co60 : Value).ownBlock) (Kd.R_keptB (HO_571002.out) hkp (fun k_ hk_ hs_ => (hk_.2.1) hs_)) (fun k_ hk_ => ⟨hk_.1.1, hk_.1.2.1, hk_.1.2.2.1, hk_.1.2.2.2.1, hk_.1.2.2.2.2.1, hk_.1.2.2.2.2.2.1, hk_.1.2.2.2.2.2.2⟩)); replace HO_571003 := mA (Kd.R_mono (ok' := fun k_ => some k_ ≠ (.slice Ao35 t584.length co35 : Value).ownBlock) (Kd.R_keptB ((Kd.R_apart' HO_571003.out (Kd.R_typed HO_11.out) (by decide))) hkp (fun k_ hk_ hs_ => (hk_.2) hs_)) (fun k_ hk_ => hk_.1.1)); replace HO_590001 := mA (Kd.R_mono (ok' := fun k_ => some k_ ≠ (.slice Ao27 t571.length co27 : Value).ownBlock ∧ some k_ ≠ (.slice Ao28 t574.length co28 : Value).ownBlock ∧ some k_ ≠ (.slice Ao22 t559.length co22 : Value).ownBlock ∧ some k_ ≠ (.slice Ao23 t562.length co23 : Value).ownBlock ∧ some k_ ≠ (.slice Ao34 t581.length co34 : Value).ownBlock ∧ some k_ ≠ (.slice Ao57 t591.length co57 : Value).ownBlock ∧ some k_ ≠ (.slice Ao60 t595.length co60 : Value).ownBlock) (Kd.R_keptB (HO_590001.out) hkp (fun k_ hk_ hs_ => (hk_.2.1) hs_)) (fun k_ hk_ => ⟨hk_.1.1, hk_.1.2.1, hk_.1.2.2.1, hk_.1.2.2.2.1, hk_.1.2.2.2.2.1, hk_.1.2.2.2.2.2.1, hk_.1.2.2.2.2.2.2⟩)); replace HO_590002 := mA (Kd.R_mono (ok' := fun k_ => some k_ ≠ (.slice Ao27 t571.length co27 : Value).ownBlock ∧ some k_ ≠ (.slice Ao28 t574.length co28 : Value).ownBlock ∧ some k_ ≠ (.slice Ao22 t559.length co22 : Value).ownBlock ∧ some k_ ≠ (.slice Ao23 t562.length co23 : Value).ownBlock ∧ some k_ ≠ (.slice Ao33 t578.length co33 : Value).ownBlock ∧ some k_ ≠ (.slice Ao57 t591.length co57 : Value).ownBlock ∧ some k_ ≠ (.slice Ao60 t595.length co60 : Value).ownBlock) (Kd.R_keptB (HO_590002.out) hkp (fun k_ hk_ hs_ => (hk_.2.1) hs_)) (fun k_ hk_ => ⟨hk_.1.1, hk_.1.2.1, hk_.1.2.2.1, hk_.1.2.2.2.1, hk_.1.2.2.2.2.1, hk_.1.2.2.2.2.2.1, hk_.1.2.2.2.2.2.2⟩)); replace HO_590003 := mA (Kd.R_mono (ok' := fun k_ => some k_ ≠ (.slice Ao24 t565.length co24 : Value).ownBlock) (Kd.R_keptB ((Kd.R_apart' HO_590003.out (Kd.R_typed HO_11.out) (by decide))) hkp (fun k_ hk_ hs_ => (hk_.2) hs_)) (fun k_ hk_ => hk_.1.1)); replace BK570 := mA (blk_kept (kT BK570) hkp (fun hs_ => (fun e_ => (Kd.R_ne HO_11.out BK570.out (by decide)) e_) hs_)); replace BK589 := mA (blk_kept (kT BK589) hkp (fun hs_ => (fun e_ => (Kd.R_ne HO_11.out BK589.out (by decide)) e_) hs_)); replace HB := mA (hb); (try clear hb); (try clear hkp); (try clear hy0)))
        (try simp only [Act.put, List.setIfInBounds_toArray, List.set_cons_zero, List.set_cons_succ])
        go_cut [86] (fun v86 wc => ∃ (kq : Nat) (x86_54 : Bool), v86 = .bool x86_54 ∧ Aside0 (laws_FnExactNewTask.j1 kq a0 l1 l2 t569 x86_54 t558 t559 t562 t565 t568 t577 t578 t581 t584 t587 = some r) ∧ Aside0 (kq ≤ kj13) ∧ Aside0 (Kd.R k62 62 wc w.heap.size (fun k_ => some k_ ≠ ((.slice Ao23 t562.length co23) : Value).ownBlock ∧ some k_ ≠ ((.slice Ao33 t578.length co33) : Value).ownBlock ∧ some k_ ≠ ((.slice Ao34 t581.length co34) : Value).ownBlock) (.slice Ao22 t559.length co22) t559) ∧ Aside0 (Kd.R k62 62 wc w.heap.size (fun k_ => some k_ ≠ ((.slice Ao22 t559.length co22) : Value).ownBlock ∧ some k_ ≠ ((.slice Ao33 t578.length co33) : Value).ownBlock ∧ some k_ ≠ ((.slice Ao34 t581.length co34) : Value).ownBlock) (.slice Ao23 t562.length co23) t562) ∧ Aside0 (Kd.R Kd.bool 4 wc w.heap.size (fun k_ => some k_ ≠ ((.slice Ao35 t584.length co35) : Value).ownBlock) (.slice Ao24 t565.length co24) t565) ∧ Aside0 (Kd.R k62 62 wc w.heap.size (fun k_ => some k_ ≠ ((.slice Ao22 t559.length co22) : Value).ownBlock ∧ some k_ ≠ ((.slice Ao23 t562.length co23) : Value).ownBlock ∧ some k_ ≠ ((.slice Ao34 t581.length co34) : Value).ownBlock) (.slice Ao33 t578.length co33) t578) ∧ Aside0 (Kd.R k62 62 wc w.heap.size (fun k_ => some k_ ≠ ((.slice Ao22 t559.length co22) : Value).ownBlock ∧ some k_ ≠ ((.slice Ao23 t562.length co23) : Value).ownBlock ∧ some k_ ≠ ((.slice Ao33 t578.length co33) : Value).ownBlock) (.slice Ao34 t581.length co34) t581) ∧ Aside0 (Kd.R Kd.bool 4 wc w.heap.size (fun k_ => some k_ ≠ ((.slice Ao24 t565.length co24) : Value).ownBlock) (.slice Ao35 t584.length co35) t584) ∧ Aside0 (wc.heap[gb570]? = some (.cells #[.int .i64 t558, (.slice Ao22 t559.length co22), (.slice Ao23 t562.length co23), (.slice Ao24 t565.length co24), .int .i64 t568] 37 (0, 0))) ∧ Aside0 (wc.heap[gb589]? = some (.cells #[.int .i64 t577, (.slice Ao33 t578.length co33), (.slice Ao34 t581.length co34), (.slice Ao35 t584.length co35), .int .i64 t587] 37 (0, 0))) ∧ Aside0 (Below w.heap.size w wc))
        case first =>
         have H := HC55.out
         clear HC55
         by_cases c64 : t601 < 0
         ·
          rw [if_pos c64] at H
          have c64b0 : decide (t601 < 0) = true := decide_eq_true c64
          clear c64
          (first | rw [c64b0] | (simp only [i64_w, i32_w]; rw [c64b0]) | skip)
          have H' := mA H
          clear H
          go_wp2
          go_meet
          case rel => exact ⟨_, (true), sT, H', ⟨by have := HJ13.out; first | omega | exact Nat.le_refl _⟩, ⟨by (with_reducible repeat (first | apply Kd.R_alloc | apply Kd.R_drewN | apply Kd.R_drew)); exact Kd.R_mono HO_571001.out (fun _ hk => ⟨hk.2.2.1, ⟨hk.2.2.2.1, hk.2.2.2.2.1⟩⟩)⟩, ⟨by (with_reducible repeat (first | apply Kd.R_alloc | apply Kd.R_drewN | apply Kd.R_drew)); exact Kd.R_mono HO_571002.out (fun _ hk => ⟨hk.2.2.1, ⟨hk.2.2.2.1, hk.2.2.2.2.1⟩⟩)⟩, ⟨rTR HO_571003⟩, ⟨by (with_reducible repeat (first | apply Kd.R_alloc | apply Kd.R_drewN | apply Kd.R_drew)); exact Kd.R_mono HO_590001.out (fun _ hk => ⟨hk.2.2.1, ⟨hk.2.2.2.1, hk.2.2.2.2.1⟩⟩)⟩, ⟨by (with_reducible repeat (first | apply Kd.R_alloc | apply Kd.R_drewN | apply Kd.R_drew)); exact Kd.R_mono HO_590002.out (fun _ hk => ⟨hk.2.2.1, ⟨hk.2.2.2.1, hk.2.2.2.2.1⟩⟩)⟩, ⟨rTR HO_590003⟩, ⟨kT BK570⟩, ⟨kT BK589⟩, ⟨bT2 HB GE570 GE589⟩⟩
         ·
          rw [if_neg c64] at H
          have c64b0 : decide (t601 < 0) = false := decide_eq_false c64
          clear c64
          (first | rw [c64b0] | (simp only [i64_w, i32_w]; rw [c64b0]) | skip)
          obtain ⟨t603, A65, H⟩ := Option.bind_eq_some_iff.mp H
          replace A65 := mA A65
          try dsimp only at H
          by_cases c66 : t603 = true
          ·
           subst c66
           rw [if_pos rfl] at H
           have H' := mA H
           clear H
           have hnb67 := NB589_570.out
           have hnc67 := NB570_589.out
           have hcz68_0 : w63.cell? ⟨gb589, 0, none⟩ = some (.int .i64 t577) := (blk_cell BK589.out 0).trans rfl
           have hcz68_1 : w63.cell? ⟨gb589, 1, none⟩ = some (.slice Ao33 t578.length co33) := (blk_cell BK589.out 1).trans rfl
           have hcz68_2 : w63.cell? ⟨gb589, 2, none⟩ = some (.slice Ao34 t581.length co34) := (blk_cell BK589.out 2).trans rfl
           have hcz68_3 : w63.cell? ⟨gb589, 3, none⟩ = some (.slice Ao35 t584.length co35) := (blk_cell BK589.out 3).trans rfl
           have hcz68_4 : w63.cell? ⟨gb589, 4, none⟩ = some (.int .i64 t587) := (blk_cell BK589.out 4).trans rfl
           have hfz68_0 := blk_frozen BK589.out 0
           have hfz68_1 := blk_frozen BK589.out 1
           have hfz68_2 := blk_frozen BK589.out 2
           have hfz68_3 := blk_frozen BK589.out 3
           have hfz68_4 := blk_frozen BK589.out 4
           have hcz69_0 : w63.cell? ⟨gb570, 0, none⟩ = some (.int .i64 t558) := (blk_cell BK570.out 0).trans rfl
           have hcz69_1 : w63.cell? ⟨gb570, 1, none⟩ = some (.slice Ao22 t559.length co22) := (blk_cell BK570.out 1).trans rfl
           have hcz69_2 : w63.cell? ⟨gb570, 2, none⟩ = some (.slice Ao23 t562.length co23) := (blk_cell BK570.out 2).trans rfl
           have hcz69_3 : w63.cell? ⟨gb570, 3, none⟩ = some (.slice Ao24 t565.length co24) := (blk_cell BK570.out 3).trans rfl
           have hcz69_4 : w63.cell? ⟨gb570, 4, none⟩ = some (.int .i64 t568) := (blk_cell BK570.out 4).trans rfl
           have hfz69_0 := blk_frozen BK570.out 0
           have hfz69_1 := blk_frozen BK570.out 1
           have hfz69_2 := blk_frozen BK570.out 2
           have hfz69_3 := blk_frozen BK570.out 3
           have hfz69_4 := blk_frozen BK570.out 4
           go_wp2_with (first | (go_at_call 26; (with_reducible refine (laws_eqTask.calls kj13 t577 _ _ t578 _ _ t581 _ _ t584 t587 t558 _ _ t559 _ _ t562 _ _ t565 t568 true _ ?side1 ?side2 ?side3 ?side4 ?side5 ?side6 ?side7 ?side8 ?side9 ?side10 ?side11 ?side12 A65.out).mono ?_); (case side1 => exact cT ((Kd.R_reads' HO_590001.out).2.2)); (case side2 => exact (Kd.R_reads' HO_590001.out).2.1); (case side3 => exact cT ((Kd.R_reads' HO_590002.out).2.2)); (case side4 => exact (Kd.R_reads' HO_590002.out).2.1); (case side5 => exact cT ((Kd.R_reads' HO_590003.out).2.2)); (case side6 => exact (Kd.R_reads' HO_590003.out).2.1); (case side7 => exact cT ((Kd.R_reads' HO_571001.out).2.2)); (case side8 => exact (Kd.R_reads' HO_571001.out).2.1); (case side9 => exact cT ((Kd.R_reads' HO_571002.out).2.2)); (case side10 => exact (Kd.R_reads' HO_571002.out).2.1); (case side11 => exact cT ((Kd.R_reads' HO_571003.out).2.2)); (case side12 => exact (Kd.R_reads' HO_571003.out).2.1); rintro e w70 ⟨rfl, hb⟩; replace HO_571001 := rBR HO_571001 hb; replace HO_571002 := rBR HO_571002 hb; replace HO_571003 := rBR HO_571003 hb; replace HO_590001 := rBR HO_590001 hb; replace HO_590002 := rBR HO_590002 hb; replace HO_590003 := rBR HO_590003 hb; replace BK570 := kB BK570 hb; replace BK589 := kB BK589 hb; replace HB := mA (below_step (bT2 HB GE570 GE589) hb); (try clear hb)))
           go_meet
           case rel => exact ⟨_, ((t588 != t569)), sT, H', ⟨by have := HJ13.out; first | omega | exact Nat.le_refl _⟩, ⟨by (with_reducible repeat (first | apply Kd.R_alloc | apply Kd.R_drewN | apply Kd.R_drew)); exact Kd.R_mono HO_571001.out (fun _ hk => ⟨hk.2.2.1, ⟨hk.2.2.2.1, hk.2.2.2.2.1⟩⟩)⟩, ⟨by (with_reducible repeat (first | apply Kd.R_alloc | apply Kd.R_drewN | apply Kd.R_drew)); exact Kd.R_mono HO_571002.out (fun _ hk => ⟨hk.2.2.1, ⟨hk.2.2.2.1, hk.2.2.2.2.1⟩⟩)⟩, ⟨rTR HO_571003⟩, ⟨by (with_reducible repeat (first | apply Kd.R_alloc | apply Kd.R_drewN | apply Kd.R_drew)); exact Kd.R_mono HO_590001.out (fun _ hk => ⟨hk.2.2.1, ⟨hk.2.2.2.1, hk.2.2.2.2.1⟩⟩)⟩, ⟨by (with_reducible repeat (first | apply Kd.R_alloc | apply Kd.R_drewN | apply Kd.R_drew)); exact Kd.R_mono HO_590002.out (fun _ hk => ⟨hk.2.2.1, ⟨hk.2.2.2.1, hk.2.2.2.2.1⟩⟩)⟩, ⟨rTR HO_590003⟩, ⟨kT BK570⟩, ⟨kT BK589⟩, ⟨bT2 HB GE570 GE589⟩⟩
          ·
           replace c66 := Bool.eq_false_iff.mpr c66
           subst c66
           rw [if_neg (show ¬ (false = true) by decide)] at H
           have H' := mA H
           clear H
           have hnb71 := NB589_570.out
           have hnc71 := NB570_589.out
           have hcz72_0 : w63.cell? ⟨gb589, 0, none⟩ = some (.int .i64 t577) := (blk_cell BK589.out 0).trans rfl
           have hcz72_1 : w63.cell? ⟨gb589, 1, none⟩ = some (.slice Ao33 t578.length co33) := (blk_cell BK589.out 1).trans rfl
           have hcz72_2 : w63.cell? ⟨gb589, 2, none⟩ = some (.slice Ao34 t581.length co34) := (blk_cell BK589.out 2).trans rfl
           have hcz72_3 : w63.cell? ⟨gb589, 3, none⟩ = some (.slice Ao35 t584.length co35) := (blk_cell BK589.out 3).trans rfl
           have hcz72_4 : w63.cell? ⟨gb589, 4, none⟩ = some (.int .i64 t587) := (blk_cell BK589.out 4).trans rfl
           have hfz72_0 := blk_frozen BK589.out 0
           have hfz72_1 := blk_frozen BK589.out 1
           have hfz72_2 := blk_frozen BK589.out 2
           have hfz72_3 := blk_frozen BK589.out 3
           have hfz72_4 := blk_frozen BK589.out 4
           have hcz73_0 : w63.cell? ⟨gb570, 0, none⟩ = some (.int .i64 t558) := (blk_cell BK570.out 0).trans rfl
           have hcz73_1 : w63.cell? ⟨gb570, 1, none⟩ = some (.slice Ao22 t559.length co22) := (blk_cell BK570.out 1).trans rfl
           have hcz73_2 : w63.cell? ⟨gb570, 2, none⟩ = some (.slice Ao23 t562.length co23) := (blk_cell BK570.out 2).trans rfl
           have hcz73_3 : w63.cell? ⟨gb570, 3, none⟩ = some (.slice Ao24 t565.length co24) := (blk_cell BK570.out 3).trans rfl
           have hcz73_4 : w63.cell? ⟨gb570, 4, none⟩ = some (.int .i64 t568) := (blk_cell BK570.out 4).trans rfl
           have hfz73_0 := blk_frozen BK570.out 0
           have hfz73_1 := blk_frozen BK570.out 1
           have hfz73_2 := blk_frozen BK570.out 2
           have hfz73_3 := blk_frozen BK570.out 3
           have hfz73_4 := blk_frozen BK570.out 4
           go_wp2_with (first | (go_at_call 26; (with_reducible refine (laws_eqTask.calls kj13 t577 _ _ t578 _ _ t581 _ _ t584 t587 t558 _ _ t559 _ _ t562 _ _ t565 t568 false _ ?side1 ?side2 ?side3 ?side4 ?side5 ?side6 ?side7 ?side8 ?side9 ?side10 ?side11 ?side12 A65.out).mono ?_); (case side1 => exact cT ((Kd.R_reads' HO_590001.out).2.2)); (case side2 => exact (Kd.R_reads' HO_590001.out).2.1); (case side3 => exact cT ((Kd.R_reads' HO_590002.out).2.2)); (case side4 => exact (Kd.R_reads' HO_590002.out).2.1); (case side5 => exact cT ((Kd.R_reads' HO_590003.out).2.2)); (case side6 => exact (Kd.R_reads' HO_590003.out).2.1); (case side7 => exact cT ((Kd.R_reads' HO_571001.out).2.2)); (case side8 => exact (Kd.R_reads' HO_571001.out).2.1); (case side9 => exact cT ((Kd.R_reads' HO_571002.out).2.2)); (case side10 => exact (Kd.R_reads' HO_571002.out).2.1); (case side11 => exact cT ((Kd.R_reads' HO_571003.out).2.2)); (case side12 => exact (Kd.R_reads' HO_571003.out).2.1); rintro e w74 ⟨rfl, hb⟩; replace HO_571001 := rBR HO_571001 hb; replace HO_571002 := rBR HO_571002 hb; replace HO_571003 := rBR HO_571003 hb; replace HO_590001 := rBR HO_590001 hb; replace HO_590002 := rBR HO_590002 hb; replace HO_590003 := rBR HO_590003 hb; replace BK570 := kB BK570 hb; replace BK589 := kB BK589 hb; replace HB := mA (below_step (bT2 HB GE570 GE589) hb); (try clear hb)))
           go_meet
           case rel => exact ⟨_, (true), sT, H', ⟨by have := HJ13.out; first | omega | exact Nat.le_refl _⟩, ⟨by (with_reducible repeat (first | apply Kd.R_alloc | apply Kd.R_drewN | apply Kd.R_drew)); exact Kd.R_mono HO_571001.out (fun _ hk => ⟨hk.2.2.1, ⟨hk.2.2.2.1, hk.2.2.2.2.1⟩⟩)⟩, ⟨by (with_reducible repeat (first | apply Kd.R_alloc | apply Kd.R_drewN | apply Kd.R_drew)); exact Kd.R_mono HO_571002.out (fun _ hk => ⟨hk.2.2.1, ⟨hk.2.2.2.1, hk.2.2.2.2.1⟩⟩)⟩, ⟨rTR HO_571003⟩, ⟨by (with_reducible repeat (first | apply Kd.R_alloc | apply Kd.R_drewN | apply Kd.R_drew)); exact Kd.R_mono HO_590001.out (fun _ hk => ⟨hk.2.2.1, ⟨hk.2.2.2.1, hk.2.2.2.2.1⟩⟩)⟩, ⟨by (with_reducible repeat (first | apply Kd.R_alloc | apply Kd.R_drewN | apply Kd.R_drew)); exact Kd.R_mono HO_590002.out (fun _ hk => ⟨hk.2.2.1, ⟨hk.2.2.2.1, hk.2.2.2.2.1⟩⟩)⟩, ⟨rTR HO_590003⟩, ⟨kT BK570⟩, ⟨kT BK589⟩, ⟨bT2 HB GE570 GE589⟩⟩
        case rest =>
         clear HC55
         try clear c1
         try clear c2
         try clear p2
         try clear c3
         try clear c4
         try clear c5
         try clear c5b0
         try clear c6
         try clear c7
         try clear c7b0
         try clear c8
         try clear c15
         try clear c17
         try clear c19
         try clear c20
         try clear c26
         try clear c31
         try clear c33
         try clear c34
         try clear c37
         try clear c38
         try clear c42
         try clear c46
         try clear c49
         try clear c52
         try clear c64
         try clear c64b0
         try clear c66
         try clear c67
         try clear c71
         try clear hcz21_0
         try clear hcz21_1
         try clear hcz21_2
         try clear hcz21_3
         try clear hcz21_4
         try clear hcz32_0
         try clear hcz32_1
         try clear hcz32_2
         try clear hcz32_3
         try clear hcz32_4
         try clear hcz39_0
         try clear hcz39_1
         try clear hcz39_2
         try clear hcz39_3
         try clear hcz39_4
         try clear hcz40_0
         try clear hcz40_1
         try clear hcz40_2
         try clear hcz40_3
         try clear hcz40_4
         try clear hcz43_0
         try clear hcz43_1
         try clear hcz43_2
         try clear hcz43_3
         try clear hcz43_4
         try clear hcz44_0
         try clear hcz44_1
         try clear hcz44_2
         try clear hcz44_3
         try clear hcz44_4
         try clear hcz68_0
         try clear hcz68_1
         try clear hcz68_2
         try clear hcz68_3
         try clear hcz68_4
         try clear hcz69_0
         try clear hcz69_1
         try clear hcz69_2
         try clear hcz69_3
         try clear hcz69_4
         try clear hcz72_0
         try clear hcz72_1
         try clear hcz72_2
         try clear hcz72_3
         try clear hcz72_4
         try clear hcz73_0
         try clear hcz73_1
         try clear hcz73_2
         try clear hcz73_3
         try clear hcz73_4
         try clear hfz21_0
         try clear hfz21_1
         try clear hfz21_2
         try clear hfz21_3
         try clear hfz21_4
         try clear hfz32_0
         try clear hfz32_1
         try clear hfz32_2
         try clear hfz32_3
         try clear hfz32_4
         try clear hfz39_0
         try clear hfz39_1
         try clear hfz39_2
         try clear hfz39_3
         try clear hfz39_4
         try clear hfz40_0
         try clear hfz40_1
         try clear hfz40_2
         try clear hfz40_3
         try clear hfz40_4
         try clear hfz43_0
         try clear hfz43_1
         try clear hfz43_2
         try clear hfz43_3
         try clear hfz43_4
         try clear hfz44_0
         try clear hfz44_1
         try clear hfz44_2
         try clear hfz44_3
         try clear hfz44_4
         try clear hfz68_0
         try clear hfz68_1
         try clear hfz68_2
         try clear hfz68_3
         try clear hfz68_4
         try clear hfz69_0
         try clear hfz69_1
         try clear hfz69_2
         try clear hfz69_3
         try clear hfz69_4
         try clear hfz72_0
         try clear hfz72_1
         try clear hfz72_2
         try clear hfz72_3
         try clear hfz72_4
         try clear hfz73_0
         try clear hfz73_1
         try clear hfz73_2
         try clear hfz73_3
         try clear hfz73_4
         try clear p2
         obtain ⟨kq, x86_54, rfl, HA, HJ54, HO_571001, HO_571002, HO_571003, HO_590001, HO_590002, HO_590003, BK570, BK589, HB⟩ := hcut
         cases kq with
         | zero => exact absurd HA.out (by simp [laws_FnExactNewTask.j1])
         | succ kj54 =>
          have H := HA.out
          clear HA
          simp only [laws_FnExactNewTask.j1] at H
          by_cases c75 : x86_54 = true
          ·
           subst c75
           rw [if_pos rfl] at H
           exact absurd ((Option.some.inj H).trans HT.out) (by simp)
          ·
           replace c75 := Bool.eq_false_iff.mpr c75
           subst c75
           rw [if_neg (show ¬ (false = true) by decide)] at H
           obtain ⟨⟨t604, t605, t606, t607⟩, A76, H⟩ := Option.bind_eq_some_iff.mp H
           replace A76 := mA A76
           try dsimp only at H
           obtain ⟨t608, A77, H⟩ := Option.bind_eq_some_iff.mp H
           replace A77 := mA A77
           try dsimp only at H
           by_cases c78 : t608 < 0
           ·
            rw [if_pos c78] at H
            have c78b0 : decide (t608 < 0) = true := decide_eq_true c78
            clear c78
            exact absurd ((Option.some.inj H).trans HT.out) (by simp)
           ·
            rw [if_neg c78] at H
            have c78b0 : decide (t608 < 0) = false := decide_eq_false c78
            clear c78
            by_cases c79 : t608 = t604
            ·
             rw [if_pos c79] at H
             have c79b0 : (t608 == t604) = true := beq_iff_eq.mpr c79
             have c79b1 : (t608 != t604) = false := bne_eq_false_iff_eq.mpr c79
             clear c79
             obtain ⟨t609, A80, H⟩ := Option.bind_eq_some_iff.mp H
             replace A80 := mA A80
             try dsimp only at H
             obtain ⟨t612, A81, H⟩ := Option.bind_eq_some_iff.mp H
             replace A81 := mA A81
             try dsimp only at H
             obtain ⟨⟨t615, t616, t619, t622, t625, t626⟩, A82, H⟩ := Option.bind_eq_some_iff.mp H
             replace A82 := mA A82
             try dsimp only at H
             obtain ⟨t628, A83, H⟩ := Option.bind_eq_some_iff.mp H
             replace A83 := mA A83
             try dsimp only at H
             by_cases c84 : t628 = true
             ·
              subst c84
              rw [if_pos rfl] at H
              by_cases c85 : (t626 != t569) = true
              ·
               rw [if_pos c85] at H
               have c85b0 : (t626 != t569) = true := c85
               (try (have c85b1 : decide (t626 = t569) = false := by simpa using c85))
               (try (have c85b2 : (t626 == t569) = false := by simpa using c85))
               (try (have c85b3 : ¬ (t626 = t569) := by simpa using c85))
               clear c85
               exact absurd ((Option.some.inj H).trans HT.out) (by simp)
              ·
               rw [if_neg c85] at H
               have c85b0 : (t626 != t569) = false := by simpa using c85
               (try (have c85b1 : decide (t626 = t569) = true := by simpa using c85))
               (try (have c85b2 : (t626 == t569) = true := by simpa using c85))
               clear c85
               obtain ⟨t629, A86, H⟩ := Option.bind_eq_some_iff.mp H
               replace A86 := mA A86
               try dsimp only at H
               by_cases c87 : t629 < 0
               ·
                rw [if_pos c87] at H
                have c87b0 : decide (t629 < 0) = true := decide_eq_true c87
                clear c87
                exact absurd ((Option.some.inj H).trans HT.out) (by simp)
               ·
                rw [if_neg c87] at H
                have c87b0 : decide (t629 < 0) = false := decide_eq_false c87
                clear c87
                by_cases c88 : t629 = t604
                ·
                 rw [if_pos c88] at H
                 have c88b0 : (t629 == t604) = true := beq_iff_eq.mpr c88
                 have c88b1 : (t629 != t604) = false := bne_eq_false_iff_eq.mpr c88
                 clear c88
                 obtain rfl := Option.some.inj H
                 have hnb89 := NB589_570.out
                 have hnc89 := NB570_589.out
                 have hcz90_0 : wc.cell? ⟨gb589, 0, none⟩ = some (.int .i64 t577) := (blk_cell BK589.out 0).trans rfl
                 have hcz90_1 : wc.cell? ⟨gb589, 1, none⟩ = some (.slice Ao33 t578.length co33) := (blk_cell BK589.out 1).trans rfl
                 have hcz90_2 : wc.cell? ⟨gb589, 2, none⟩ = some (.slice Ao34 t581.length co34) := (blk_cell BK589.out 2).trans rfl
                 have hcz90_3 : wc.cell? ⟨gb589, 3, none⟩ = some (.slice Ao35 t584.length co35) := (blk_cell BK589.out 3).trans rfl
                 have hcz90_4 : wc.cell? ⟨gb589, 4, none⟩ = some (.int .i64 t587) := (blk_cell BK589.out 4).trans rfl
                 have hfz90_0 := blk_frozen BK589.out 0
                 have hfz90_1 := blk_frozen BK589.out 1
                 have hfz90_2 := blk_frozen BK589.out 2
                 have hfz90_3 := blk_frozen BK589.out 3
                 have hfz90_4 := blk_frozen BK589.out 4
                 go_wp2_with (first | ((with_reducible refine gate_callee (f := 35) rfl ?_); refine goesT (some 89) Try.func35 #[.agg #[.int .i64 t577, .slice Ao33 t578.length co33, .slice Ao34 t581.length co34, .slice Ao35 t584.length co35, .int .i64 t587], .int .i64 1] ?_; (with_reducible refine (laws_markTask.calls kj54 t577 (fun k_ => some k_ = (.slice Ao33 t578.length co33 : Value).ownBlock) (.slice Ao33 t578.length co33) t578 (fun k_ => some k_ = (.slice Ao34 t581.length co34 : Value).ownBlock) (.slice Ao34 t581.length co34) t581 (fun k_ => some k_ = (.slice Ao35 t584.length co35 : Value).ownBlock) (.slice Ao35 t584.length co35) t584 t587 1 t604 t605 t606 t607 w _ ?side1 ?side2 ?side3 ?side4 ?side5 ?side6 A76.out).mono ?_); (case side1 => repeat (first | (with_reducible first | exact HB.out | apply below_alloc | apply pw_below_drewN | apply below_drew1 | refine below_set ?_ GE570.out | refine below_set ?_ GE589.out) | exact HB.out)); (case side2 => exact Kd.R_tight rfl HO_590001.out); (case side3 => exact fun k_ e_ => (HO_590001.out.1 k_ e_.symm).2.2); (case side4 => exact Kd.R_tight rfl HO_590002.out); (case side5 => exact fun k_ e_ => (HO_590002.out.1 k_ e_.symm).2.2); (case side6 => exact Kd.R_tight rfl HO_590003.out); rintro e w91 ⟨rfl, hy0, hy1, hy2, hb, hkp⟩; refine ⟨_, rfl, ?_⟩; replace HO_571001 := mA (Kd.R_mono (ok' := fun k_ => some k_ ≠ (.slice Ao23 t562.length co23 : Value).ownBlock ∧ some k_ ≠ (.slice Ao33 t578.length co33 : Value).ownBlock ∧ some k_ ≠ (.slice Ao34 t581.length co34 : Value).ownBlock) (Kd.R_keptB ((Kd.R_apart' HO_571001.out (Kd.R_typed HO_590003.out) (by decide))) hkp (fun k_ hk_ hs_ => Or.elim hs_ (fun e_ => (hk_.1.2.1) e_) (fun e_ => Or.elim e_ (fun e_ => (hk_.1.2.2) e_) (fun e_ => (hk_.2) e_)))) (fun k_ hk_ => ⟨hk_.1.1.1, hk_.1.1.2.1, hk_.1.1.2.2⟩)); replace HO_571002 := mA (Kd.R_mono (ok' := fun k_ => some k_ ≠ (.slice Ao22 t559.length co22 : Value).ownBlock ∧ some k_ ≠ (.slice Ao33 t578.length co33 : Value).ownBlock ∧ some k_ ≠ (.slice Ao34 t581.length co34 : Value).ownBlock) (Kd.R_keptB ((Kd.R_apart' HO_571002.out (Kd.R_typed HO_590003.out) (by decide))) hkp (fun k_ hk_ hs_ => Or.elim hs_ (fun e_ => (hk_.1.2.1) e_) (fun e_ => Or.elim e_ (fun e_ => (hk_.1.2.2) e_) (fun e_ => (hk_.2) e_)))) (fun k_ hk_ => ⟨hk_.1.1.1, hk_.1.1.2.1, hk_.1.1.2.2⟩)); replace HO_571003 := mA (Kd.R_mono (ok' := fun k_ => some k_ ≠ (.slice Ao35 t584.length co35 : Value).ownBlock) (Kd.R_keptB ((Kd.R_apart' (Kd.R_apart' HO_571003.out (Kd.R_typed HO_590001.out) (by decide)) (Kd.R_typed HO_590002.out) (by decide))) hkp (fun k_ hk_ hs_ => Or.elim hs_ (fun e_ => (hk_.1.2) e_) (fun e_ => Or.elim e_ (fun e_ => (hk_.2) e_) (fun e_ => (hk_.1.1) e_)))) (fun k_ hk_ => hk_.1.1.1)); replace BK570 := mA (blk_kept (kT BK570) hkp (fun hs_ => Or.elim hs_ (fun e_ => (fun e_ => (Kd.R_ne HO_590001.out BK570.out (by decide)) e_) e_) (fun e_ => Or.elim e_ (fun e_ => (fun e_ => (Kd.R_ne HO_590002.out BK570.out (by decide)) e_) e_) (fun e_ => (fun e_ => (Kd.R_ne HO_590003.out BK570.out (by decide)) e_) e_)))); replace BK589 := mA (blk_kept (kT BK589) hkp (fun hs_ => Or.elim hs_ (fun e_ => (fun e_ => (Kd.R_ne HO_590001.out BK589.out (by decide)) e_) e_) (fun e_ => Or.elim e_ (fun e_ => (fun e_ => (Kd.R_ne HO_590002.out BK589.out (by decide)) e_) e_) (fun e_ => (fun e_ => (Kd.R_ne HO_590003.out BK589.out (by decide)) e_) e_)))); replace HO_590001 := mA (Kd.R_reok rfl hy0 (fun k_ e_ => HO_590001.out.1 k_ e_)); replace HO_590002 := mA (Kd.R_reok rfl hy1 (fun k_ e_ => HO_590002.out.1 k_ e_)); replace HO_590003 := mA (Kd.R_reok rfl hy2 (fun k_ e_ => HO_590003.out.1 k_ e_)); replace HB := mA (hb); (try clear hb); (try clear hkp); (try clear hy0); (try clear hy1); (try clear hy2); obtain ⟨hcz92_0, hcz92_1, hcz92_2, hcz92_3, hcz92_4, hfz92_0, hfz92_1, hfz92_2, hfz92_3, hfz92_4⟩ := blk5 BK589.out) | ((with_reducible refine gate_callee (f := 36) rfl ?_); refine goesL_ (some 92) rfl rfl Try.func36 (by kernel_rfl) rfl #[.agg #[.int .i64 t577, .slice Ao33 t605.length co33, .slice Ao34 t606.length co34, .slice Ao35 t607.length co35, .int .i64 t587], .int .i64 1] rfl (by (try simp only [List.map_toArray, List.map_cons, List.map_nil]); first | done | (rw [show t605.length = t578.length from (Kd.R_reads' HO_590001.out).1.symm, show t606.length = t581.length from (Kd.R_reads' HO_590002.out).1.symm, show t607.length = t584.length from (Kd.R_reads' HO_590003.out).1.symm] <;> rfl) | rfl | (simp only [List.length_drop, List.length_take]; rfl)) ?_; (with_reducible refine (laws_heldTask.calls kj54 t577 _ _ t605 _ _ t606 _ _ t607 t587 1 t608 _ ?side1 ?side2 ?side3 ?side4 ?side5 ?side6 A77.out).mono ?_); (case side1 => exact cT ((Kd.R_reads' HO_590001.out).2.2)); (case side2 => rw [show t605.length = t578.length from (Kd.R_reads' HO_590001.out).1.symm]; exact (Kd.R_reads' HO_590001.out).2.1); (case side3 => exact cT ((Kd.R_reads' HO_590002.out).2.2)); (case side4 => rw [show t606.length = t581.length from (Kd.R_reads' HO_590002.out).1.symm]; exact (Kd.R_reads' HO_590002.out).2.1); (case side5 => exact cT ((Kd.R_reads' HO_590003.out).2.2)); (case side6 => rw [show t607.length = t584.length from (Kd.R_reads' HO_590003.out).1.symm]; exact (Kd.R_reads' HO_590003.out).2.1); rintro e w93 ⟨rfl, hb⟩; refine ⟨_, rfl, ?_⟩; replace HO_571001 := rBR HO_571001 hb; replace HO_571002 := rBR HO_571002 hb; replace HO_571003 := rBR HO_571003 hb; replace HO_590001 := rBR HO_590001 hb; replace HO_590002 := rBR HO_590002 hb; replace HO_590003 := rBR HO_590003 hb; replace BK570 := kB BK570 hb; replace BK589 := kB BK589 hb; replace HB := mA (below_step (bT2 HB GE570 GE589) hb); (try clear hb); (try clear hk)) | ((with_reducible refine gate_callee (f := 17) rfl ?_); refine goesT (some 101) Try.func17 #[.slice A1 l1.length c1] ?_; (with_reducible refine (laws_toRowS.calls kj54 _ _ l1 t609 _ ?side1 ?side2 A80.out).mono ?_); (case side1 => exact cT (Kd.C_below HR1.out HB.out)); (case side2 => exact HC1.out); rintro e w94 ⟨v610, rfl, ho0, hb⟩; refine ⟨_, rfl, ?_⟩; replace HO_571003 := rBR HO_571003 hb; replace HO_590003 := rBR HO_590003 hb; have HO611 := mA (Kd.R_lower (Kd.R_new' (Kd.R_new' (Kd.R_new' (Kd.R_new' ho0 (Kd.R_lt (rTR HO_571001))) (Kd.R_lt (rTR HO_571002))) (Kd.R_lt (rTR HO_590001))) (Kd.R_lt (rTR HO_590002))) (below_size (bT2 HB GE570 GE589))); replace HO_571001 := mA (Kd.R_elder' (rTR HO_571001) (Kd.R_base ho0) hb); replace HO_571002 := mA (Kd.R_elder' (rTR HO_571002) (Kd.R_base ho0) hb); replace HO_590001 := mA (Kd.R_elder' (rTR HO_590001) (Kd.R_base ho0) hb); replace HO_590002 := mA (Kd.R_elder' (rTR HO_590002) (Kd.R_base ho0) hb); replace BK570 := kB BK570 hb; replace BK589 := kB BK589 hb; replace HB := mA (below_step (bT2 HB GE570 GE589) hb); (try clear hb); (try clear hk); (try clear ho0)) | ((with_reducible refine gate_callee (f := 17) rfl ?_); refine goesT (some 103) Try.func17 #[.slice A2 l2.length c2] ?_; (with_reducible refine (laws_toRowS.calls kj54 _ _ l2 t612 _ ?side1 ?side2 A81.out).mono ?_); (case side1 => exact cT (Kd.C_below HR2.out HB.out)); (case side2 => exact HC2.out); rintro e w95 ⟨v613, rfl, ho0, hb⟩; refine ⟨_, rfl, ?_⟩; replace HO_571003 := rBR HO_571003 hb; replace HO_590003 := rBR HO_590003 hb; have HO614 := mA (Kd.R_lower (Kd.R_new' (Kd.R_new' (Kd.R_new' (Kd.R_new' (Kd.R_new' ho0 (Kd.R_lt (rTR HO_571001))) (Kd.R_lt (rTR HO_571002))) (Kd.R_lt (rTR HO_590001))) (Kd.R_lt (rTR HO_590002))) (Kd.R_lt (rTR HO611))) (below_size (bT2 HB GE570 GE589))); replace HO_571001 := mA (Kd.R_elder' (rTR HO_571001) (Kd.R_base ho0) hb); replace HO_571002 := mA (Kd.R_elder' (rTR HO_571002) (Kd.R_base ho0) hb); replace HO_590001 := mA (Kd.R_elder' (rTR HO_590001) (Kd.R_base ho0) hb); replace HO_590002 := mA (Kd.R_elder' (rTR HO_590002) (Kd.R_base ho0) hb); replace HO611 := mA (Kd.R_elder' (rTR HO611) (Kd.R_base ho0) hb); replace BK570 := kB BK570 hb; replace BK589 := kB BK589 hb; replace HB := mA (below_step (bT2 HB GE570 GE589) hb); (try clear hb); (try clear hk); (try clear ho0); obtain ⟨Ao96, co96, eo96⟩ := Kd.R_slice HO611.out; subst eo96; obtain ⟨Ao97, co97, eo97⟩ := Kd.R_slice HO614.out; subst eo97) | ((with_reducible refine gate_callee (f := 34) rfl ?_); refine goesT (some 104) Try.func34 #[.int .i64 a0, .slice Ao96 t609.length co96, .slice Ao97 t612.length co97] ?_; (with_reducible refine (impl_NewTask.calls kj54 a0 _ _ t609 _ _ t612 t615 t616 t619 t622 t625 t626 _ ?side1 ?side2 ?side3 ?side4 A82.out).mono ?_); (case side1 => exact cT ((Kd.R_reads' HO611.out).2.2)); (case side2 => exact (Kd.R_reads' HO611.out).2.1); (case side3 => exact cT ((Kd.R_reads' HO614.out).2.2)); (case side4 => exact (Kd.R_reads' HO614.out).2.1); rintro e w98 ⟨v617, v620, v623, rfl, ho0, ho1, ho2, hb⟩; refine ⟨_, rfl, ?_⟩; have HO618 := mA (Kd.R_lower (Kd.R_new' (Kd.R_new' (Kd.R_new' (Kd.R_new' (Kd.R_new' (Kd.R_new' ho0 (Kd.R_lt (rTR HO_571001))) (Kd.R_lt (rTR HO_571002))) (Kd.R_lt (rTR HO_590001))) (Kd.R_lt (rTR HO_590002))) (Kd.R_lt (rTR HO611))) (Kd.R_lt (rTR HO614))) (below_size (bT2 HB GE570 GE589))); have HO621 := mA (Kd.R_lower (Kd.R_new' (Kd.R_new' (Kd.R_new' (Kd.R_new' (Kd.R_new' (Kd.R_new' ho1 (Kd.R_lt (rTR HO_571001))) (Kd.R_lt (rTR HO_571002))) (Kd.R_lt (rTR HO_590001))) (Kd.R_lt (rTR HO_590002))) (Kd.R_lt (rTR HO611))) (Kd.R_lt (rTR HO614))) (below_size (bT2 HB GE570 GE589))); replace HO_571001 := mA (Kd.R_mono (Kd.R_told (Kd.R_told (Kd.R_old (rTR HO_571001) hb) (Kd.R_base ho0)) (Kd.R_base ho1)) (fun _ h_ => h_.1)); replace HO_571002 := mA (Kd.R_mono (Kd.R_told (Kd.R_told (Kd.R_old (rTR HO_571002) hb) (Kd.R_base ho0)) (Kd.R_base ho1)) (fun _ h_ => h_.1)); replace HO_590001 := mA (Kd.R_mono (Kd.R_told (Kd.R_told (Kd.R_old (rTR HO_590001) hb) (Kd.R_base ho0)) (Kd.R_base ho1)) (fun _ h_ => h_.1)); replace HO_590002 := mA (Kd.R_mono (Kd.R_told (Kd.R_told (Kd.R_old (rTR HO_590002) hb) (Kd.R_base ho0)) (Kd.R_base ho1)) (fun _ h_ => h_.1)); have HO624 := mA (Kd.R_lower (Kd.R_new' (Kd.R_new' ho2 (Kd.R_lt (rTR HO_571003))) (Kd.R_lt (rTR HO_590003))) (below_size (bT2 HB GE570 GE589))); replace HO_571003 := mA (Kd.R_elder' (rTR HO_571003) (Kd.R_base ho2) hb); replace HO_590003 := mA (Kd.R_elder' (rTR HO_590003) (Kd.R_base ho2) hb); replace BK570 := kB BK570 hb; replace BK589 := kB BK589 hb; replace HB := mA (below_step (bT2 HB GE570 GE589) hb); (try clear hb); (try clear hk); (try clear ho0); (try clear ho1); (try clear ho2)) | ((with_reducible refine gate_dst (N := 17) rfl ?_); refine boxT 17 #[.int .i64 0, .slice none 0 0, .slice none 0 0, .slice none 0 0, .int .i64 0] 37 ?_; intro gb627 hg w99 hbox hb; replace HO_571001 := rBR HO_571001 hb; replace HO_571002 := rBR HO_571002 hb; replace HO_571003 := rBR HO_571003 hb; replace HO_590001 := rBR HO_590001 hb; replace HO_590002 := rBR HO_590002 hb; replace HO_590003 := rBR HO_590003 hb; replace HO618 := rBR HO618 hb; replace HO621 := rBR HO621 hb; replace HO624 := rBR HO624 hb; have BK627 := mA (hbox); have GW627 := mA ((by rw [hg]; exact (below_size (bT2 HB GE570 GE589)) : w.heap.size ≤ gb627)); have GE627 := GW627; replace HB := mA (below_step (bT2 HB GE570 GE589) hb); have NB570_627 : Aside0 (gb570 ≠ gb627) := nL BK570 hg; have NB627_570 : Aside0 (gb627 ≠ gb570) := nG BK570 hg; replace BK570 := kB BK570 hb; have NB589_627 : Aside0 (gb589 ≠ gb627) := nL BK589 hg; have NB627_589 : Aside0 (gb627 ≠ gb589) := nG BK589 hg; replace BK589 := kB BK589 hb; clear hb hbox hg; have hnb100 := NB627_570.out; have hnc100 := NB570_627.out; have hnb101 := NB627_589.out; have hnc101 := NB589_627.out; obtain ⟨hcz102_0, hcz102_1, hcz102_2, hcz102_3, hcz102_4, hfz102_0, hfz102_1, hfz102_2, hfz102_3, hfz102_4⟩ := blk5 BK627.out; obtain ⟨Ao103, co103, eo103⟩ := Kd.R_slice HO618.out; subst eo103; obtain ⟨Ao104, co104, eo104⟩ := Kd.R_slice HO621.out; subst eo104; obtain ⟨Ao105, co105, eo105⟩ := Kd.R_slice HO624.out; subst eo105; obtain ⟨hcz106_0, hcz106_1, hcz106_2, hcz106_3, hcz106_4, hfz106_0, hfz106_1, hfz106_2, hfz106_3, hfz106_4⟩ := blk5 BK570.out) | ((with_reducible refine gate_callee (f := 26) rfl ?_); refine goesT (some 109) Try.func26 #[.agg #[.int .i64 t615, .slice Ao103 t616.length co103, .slice Ao104 t619.length co104, .slice Ao105 t622.length co105, .int .i64 t625], .agg #[.int .i64 t558, .slice Ao22 t559.length co22, .slice Ao23 t562.length co23, .slice Ao24 t565.length co24, .int .i64 t568]] ?_; (with_reducible refine (laws_eqTask.calls kj54 t615 _ _ t616 _ _ t619 _ _ t622 t625 t558 _ _ t559 _ _ t562 _ _ t565 t568 true _ ?side1 ?side2 ?side3 ?side4 ?side5 ?side6 ?side7 ?side8 ?side9 ?side10 ?side11 ?side12 A83.out).mono ?_); (case side1 => refine (Kd.R_reads' (e := 62) (base := w.heap.size) (ok := fun k_ => ((((((some k_ ≠ (.slice Ao104 t619.length co104 : Value).ownBlock ∧ some k_ ≠ (.slice Ao22 t559.length co22 : Value).ownBlock) ∧ some k_ ≠ (.slice Ao23 t562.length co23 : Value).ownBlock) ∧ some k_ ≠ (.slice Ao33 t578.length co33 : Value).ownBlock) ∧ some k_ ≠ (.slice Ao34 t581.length co34 : Value).ownBlock) ∧ some k_ ≠ (.slice Ao96 t609.length co96 : Value).ownBlock) ∧ some k_ ≠ (.slice Ao97 t612.length co97 : Value).ownBlock)) (n := t616.length) (c := co103) ?_).2.2; exact (by (with_reducible repeat (first | apply Kd.R_alloc | apply Kd.R_drewN | apply Kd.R_drew)); exact (Kd.R_mono (Kd.R_far (p := ⟨gb627, 4, none⟩) (Kd.R_far (p := ⟨gb627, 3, none⟩) (Kd.R_far (p := ⟨gb627, 2, none⟩) (Kd.R_far (p := ⟨gb627, 1, none⟩) (Kd.R_far (p := ⟨gb627, 0, none⟩) (Kd.R_types HO618.out BK627.out (by decide)) (fun _ hk => hk.2) (.int .i64 t615)) (fun _ hk => hk.2) (.slice Ao103 t616.length co103)) (fun _ hk => hk.2) (.slice Ao104 t619.length co104)) (fun _ hk => hk.2) (.slice Ao105 t622.length co105)) (fun _ hk => hk.2) (.int .i64 t625)) (fun _ h_ => h_.1)))); (case side2 => exact (Kd.R_reads' HO618.out).2.1); (case side3 => refine (Kd.R_reads' (e := 62) (base := w.heap.size) (ok := fun k_ => ((((((some k_ ≠ (.slice Ao103 t616.length co103 : Value).ownBlock ∧ some k_ ≠ (.slice Ao22 t559.length co22 : Value).ownBlock) ∧ some k_ ≠ (.slice Ao23 t562.length co23 : Value).ownBlock) ∧ some k_ ≠ (.slice Ao33 t578.length co33 : Value).ownBlock) ∧ some k_ ≠ (.slice Ao34 t581.length co34 : Value).ownBlock) ∧ some k_ ≠ (.slice Ao96 t609.length co96 : Value).ownBlock) ∧ some k_ ≠ (.slice Ao97 t612.length co97 : Value).ownBlock)) (n := t619.length) (c := co104) ?_).2.2; exact (by (with_reducible repeat (first | apply Kd.R_alloc | apply Kd.R_drewN | apply Kd.R_drew)); exact (Kd.R_mono (Kd.R_far (p := ⟨gb627, 4, none⟩) (Kd.R_far (p := ⟨gb627, 3, none⟩) (Kd.R_far (p := ⟨gb627, 2, none⟩) (Kd.R_far (p := ⟨gb627, 1, none⟩) (Kd.R_far (p := ⟨gb627, 0, none⟩) (Kd.R_types HO621.out BK627.out (by decide)) (fun _ hk => hk.2) (.int .i64 t615)) (fun _ hk => hk.2) (.slice Ao103 t616.length co103)) (fun _ hk => hk.2) (.slice Ao104 t619.length co104)) (fun _ hk => hk.2) (.slice Ao105 t622.length co105)) (fun _ hk => hk.2) (.int .i64 t625)) (fun _ h_ => h_.1)))); (case side4 => exact (Kd.R_reads' HO621.out).2.1); (case side5 => refine (Kd.R_reads' (e := 4) (base := w.heap.size) (ok := fun k_ => ((True ∧ some k_ ≠ (.slice Ao24 t565.length co24 : Value).ownBlock) ∧ some k_ ≠ (.slice Ao35 t584.length co35 : Value).ownBlock)) (n := t622.length) (c := co105) ?_).2.2; exact (by (with_reducible repeat (first | apply Kd.R_alloc | apply Kd.R_drewN | apply Kd.R_drew)); exact (Kd.R_mono (Kd.R_far (p := ⟨gb627, 4, none⟩) (Kd.R_far (p := ⟨gb627, 3, none⟩) (Kd.R_far (p := ⟨gb627, 2, none⟩) (Kd.R_far (p := ⟨gb627, 1, none⟩) (Kd.R_far (p := ⟨gb627, 0, none⟩) (Kd.R_types HO624.out BK627.out (by decide)) (fun _ hk => hk.2) (.int .i64 t615)) (fun _ hk => hk.2) (.slice Ao103 t616.length co103)) (fun _ hk => hk.2) (.slice Ao104 t619.length co104)) (fun _ hk => hk.2) (.slice Ao105 t622.length co105)) (fun _ hk => hk.2) (.int .i64 t625)) (fun _ h_ => h_.1)))); (case side6 => exact (Kd.R_reads' HO624.out).2.1); (case side7 => refine (Kd.R_reads' (e := 62) (base := w.heap.size) (ok := fun k_ => (((((some k_ ≠ (.slice Ao23 t562.length co23 : Value).ownBlock ∧ (some k_ ≠ (.slice Ao33 t578.length co33 : Value).ownBlock ∧ some k_ ≠ (.slice Ao34 t581.length co34 : Value).ownBlock)) ∧ some k_ ≠ (.slice Ao96 t609.length co96 : Value).ownBlock) ∧ some k_ ≠ (.slice Ao97 t612.length co97 : Value).ownBlock) ∧ some k_ ≠ (.slice Ao103 t616.length co103 : Value).ownBlock) ∧ some k_ ≠ (.slice Ao104 t619.length co104 : Value).ownBlock)) (n := t559.length) (c := co22) ?_).2.2; exact (by (with_reducible repeat (first | apply Kd.R_alloc | apply Kd.R_drewN | apply Kd.R_drew)); exact (Kd.R_mono (Kd.R_far (p := ⟨gb627, 4, none⟩) (Kd.R_far (p := ⟨gb627, 3, none⟩) (Kd.R_far (p := ⟨gb627, 2, none⟩) (Kd.R_far (p := ⟨gb627, 1, none⟩) (Kd.R_far (p := ⟨gb627, 0, none⟩) (Kd.R_types HO_571001.out BK627.out (by decide)) (fun _ hk => hk.2) (.int .i64 t615)) (fun _ hk => hk.2) (.slice Ao103 t616.length co103)) (fun _ hk => hk.2) (.slice Ao104 t619.length co104)) (fun _ hk => hk.2) (.slice Ao105 t622.length co105)) (fun _ hk => hk.2) (.int .i64 t625)) (fun _ h_ => h_.1)))); (case side8 => exact (Kd.R_reads' HO_571001.out).2.1); (case side9 => refine (Kd.R_reads' (e := 62) (base := w.heap.size) (ok := fun k_ => (((((some k_ ≠ (.slice Ao22 t559.length co22 : Value).ownBlock ∧ (some k_ ≠ (.slice Ao33 t578.length co33 : Value).ownBlock ∧ some k_ ≠ (.slice Ao34 t581.length co34 : Value).ownBlock)) ∧ some k_ ≠ (.slice Ao96 t609.length co96 : Value).ownBlock) ∧ some k_ ≠ (.slice Ao97 t612.length co97 : Value).ownBlock) ∧ some k_ ≠ (.slice Ao103 t616.length co103 : Value).ownBlock) ∧ some k_ ≠ (.slice Ao104 t619.length co104 : Value).ownBlock)) (n := t562.length) (c := co23) ?_).2.2; exact (by (with_reducible repeat (first | apply Kd.R_alloc | apply Kd.R_drewN | apply Kd.R_drew)); exact (Kd.R_mono (Kd.R_far (p := ⟨gb627, 4, none⟩) (Kd.R_far (p := ⟨gb627, 3, none⟩) (Kd.R_far (p := ⟨gb627, 2, none⟩) (Kd.R_far (p := ⟨gb627, 1, none⟩) (Kd.R_far (p := ⟨gb627, 0, none⟩) (Kd.R_types HO_571002.out BK627.out (by decide)) (fun _ hk => hk.2) (.int .i64 t615)) (fun _ hk => hk.2) (.slice Ao103 t616.length co103)) (fun _ hk => hk.2) (.slice Ao104 t619.length co104)) (fun _ hk => hk.2) (.slice Ao105 t622.length co105)) (fun _ hk => hk.2) (.int .i64 t625)) (fun _ h_ => h_.1)))); (case side10 => exact (Kd.R_reads' HO_571002.out).2.1); (case side11 => refine (Kd.R_reads' (e := 4) (base := w.heap.size) (ok := fun k_ => (some k_ ≠ (.slice Ao35 t584.length co35 : Value).ownBlock ∧ some k_ ≠ (.slice Ao105 t622.length co105 : Value).ownBlock)) (n := t565.length) (c := co24) ?_).2.2; exact (by (with_reducible repeat (first | apply Kd.R_alloc | apply Kd.R_drewN | apply Kd.R_drew)); exact (Kd.R_mono (Kd.R_far (p := ⟨gb627, 4, none⟩) (Kd.R_far (p := ⟨gb627, 3, none⟩) (Kd.R_far (p := ⟨gb627, 2, none⟩) (Kd.R_far (p := ⟨gb627, 1, none⟩) (Kd.R_far (p := ⟨gb627, 0, none⟩) (Kd.R_types HO_571003.out BK627.out (by decide)) (fun _ hk => hk.2) (.int .i64 t615)) (fun _ hk => hk.2) (.slice Ao103 t616.length co103)) (fun _ hk => hk.2) (.slice Ao104 t619.length co104)) (fun _ hk => hk.2) (.slice Ao105 t622.length co105)) (fun _ hk => hk.2) (.int .i64 t625)) (fun _ h_ => h_.1)))); (case side12 => exact (Kd.R_reads' HO_571003.out).2.1); rintro e w107 ⟨rfl, hb⟩; refine ⟨_, rfl, ?_⟩; replace HO_590001 := mA (Kd.R_below (by (with_reducible repeat (first | apply Kd.R_alloc | apply Kd.R_drewN | apply Kd.R_drew)); exact (Kd.R_mono (Kd.R_far (p := ⟨gb627, 4, none⟩) (Kd.R_far (p := ⟨gb627, 3, none⟩) (Kd.R_far (p := ⟨gb627, 2, none⟩) (Kd.R_far (p := ⟨gb627, 1, none⟩) (Kd.R_far (p := ⟨gb627, 0, none⟩) (Kd.R_types HO_590001.out BK627.out (by decide)) (fun _ hk => hk.2) (.int .i64 t615)) (fun _ hk => hk.2) (.slice Ao103 t616.length co103)) (fun _ hk => hk.2) (.slice Ao104 t619.length co104)) (fun _ hk => hk.2) (.slice Ao105 t622.length co105)) (fun _ hk => hk.2) (.int .i64 t625)) (fun _ h_ => h_.1))) hb); replace HO_590002 := mA (Kd.R_below (by (with_reducible repeat (first | apply Kd.R_alloc | apply Kd.R_drewN | apply Kd.R_drew)); exact (Kd.R_mono (Kd.R_far (p := ⟨gb627, 4, none⟩) (Kd.R_far (p := ⟨gb627, 3, none⟩) (Kd.R_far (p := ⟨gb627, 2, none⟩) (Kd.R_far (p := ⟨gb627, 1, none⟩) (Kd.R_far (p := ⟨gb627, 0, none⟩) (Kd.R_types HO_590002.out BK627.out (by decide)) (fun _ hk => hk.2) (.int .i64 t615)) (fun _ hk => hk.2) (.slice Ao103 t616.length co103)) (fun _ hk => hk.2) (.slice Ao104 t619.length co104)) (fun _ hk => hk.2) (.slice Ao105 t622.length co105)) (fun _ hk => hk.2) (.int .i64 t625)) (fun _ h_ => h_.1))) hb); replace HO_590003 := mA (Kd.R_below (by (with_reducible repeat (first | apply Kd.R_alloc | apply Kd.R_drewN | apply Kd.R_drew)); exact (Kd.R_mono (Kd.R_far (p := ⟨gb627, 4, none⟩) (Kd.R_far (p := ⟨gb627, 3, none⟩) (Kd.R_far (p := ⟨gb627, 2, none⟩) (Kd.R_far (p := ⟨gb627, 1, none⟩) (Kd.R_far (p := ⟨gb627, 0, none⟩) (Kd.R_types HO_590003.out BK627.out (by decide)) (fun _ hk => hk.2) (.int .i64 t615)) (fun _ hk => hk.2) (.slice Ao103 t616.length co103)) (fun _ hk => hk.2) (.slice Ao104 t619.length co104)) (fun _ hk => hk.2) (.slice Ao105 t622.length co105)) (fun _ hk => hk.2) (.int .i64 t625)) (fun _ h_ => h_.1))) hb); replace BK589 := mA (blk_below (g := gb589) (o := .cells #[.int .i64 t577, .slice Ao33 t578.length co33, .slice Ao34 t581.length co34, .slice Ao35 t584.length co35, .int .i64 t587] 37 (0, 0)) (by (with_reducible repeat (first | refine blk_drewN ?_ _ | refine blk_drew ?_ | refine blk_alloc ?_ _)); refine blk_far ?_ NB589_627.out _; (with_reducible repeat (first | refine blk_drewN ?_ _ | refine blk_drew ?_ | refine blk_alloc ?_ _)); refine blk_far ?_ NB589_627.out _; (with_reducible repeat (first | refine blk_drewN ?_ _ | refine blk_drew ?_ | refine blk_alloc ?_ _)); refine blk_far ?_ NB589_627.out _; (with_reducible repeat (first | refine blk_drewN ?_ _ | refine blk_drew ?_ | refine blk_alloc ?_ _)); refine blk_far ?_ NB589_627.out _; (with_reducible repeat (first | refine blk_drewN ?_ _ | refine blk_drew ?_ | refine blk_alloc ?_ _)); refine blk_far ?_ NB589_627.out _; (with_reducible repeat (first | refine blk_drewN ?_ _ | refine blk_drew ?_ | refine blk_alloc ?_ _)); exact BK589.out) hb); replace HB := mA (below_step (bT3 HB GE570 GE589 GE627) hb); (try clear hb); (try clear hk); obtain ⟨hcz108_0, hcz108_1, hcz108_2, hcz108_3, hcz108_4, hfz108_0, hfz108_1, hfz108_2, hfz108_3, hfz108_4⟩ := blk5 BK589.out) | ((with_reducible refine gate_callee (f := 36) rfl ?_); refine goesL_ (some 118) rfl rfl Try.func36 (by kernel_rfl) rfl #[.agg #[.int .i64 t577, .slice Ao33 t605.length co33, .slice Ao34 t606.length co34, .slice Ao35 t607.length co35, .int .i64 t587], .int .i64 1] rfl (by (try simp only [List.map_toArray, List.map_cons, List.map_nil]); first | done | (rw [show t605.length = t578.length from (Kd.R_reads' HO_590001.out).1.symm, show t606.length = t581.length from (Kd.R_reads' HO_590002.out).1.symm, show t607.length = t584.length from (Kd.R_reads' HO_590003.out).1.symm] <;> rfl) | rfl | (simp only [List.length_drop, List.length_take]; rfl)) ?_; (with_reducible refine (laws_heldTask.calls kj54 t577 _ _ t605 _ _ t606 _ _ t607 t587 1 t629 _ ?side1 ?side2 ?side3 ?side4 ?side5 ?side6 A86.out).mono ?_); (case side1 => exact cT ((Kd.R_reads' HO_590001.out).2.2)); (case side2 => rw [show t605.length = t578.length from (Kd.R_reads' HO_590001.out).1.symm]; exact (Kd.R_reads' HO_590001.out).2.1); (case side3 => exact cT ((Kd.R_reads' HO_590002.out).2.2)); (case side4 => rw [show t606.length = t581.length from (Kd.R_reads' HO_590002.out).1.symm]; exact (Kd.R_reads' HO_590002.out).2.1); (case side5 => exact cT ((Kd.R_reads' HO_590003.out).2.2)); (case side6 => rw [show t607.length = t584.length from (Kd.R_reads' HO_590003.out).1.symm]; exact (Kd.R_reads' HO_590003.out).2.1); rintro e w109 ⟨rfl, hb⟩; refine ⟨_, rfl, ?_⟩; replace HB := mA (below_step (bT3 HB GE570 GE589 GE627) hb); (try clear hb); (try clear hk)))
                 go_ret
                 exact ⟨eT, bT3 HB GE570 GE589 GE627⟩
                ·
                 rw [if_neg c88] at H
                 have c88b0 : (t629 == t604) = false := beq_eq_false_iff_ne.mpr c88
                 have c88b1 : (t629 != t604) = true := bne_iff_ne.mpr c88
                 exact absurd ((Option.some.inj H).trans HT.out) (by simp)
             ·
              replace c84 := Bool.eq_false_iff.mpr c84
              subst c84
              rw [if_neg (show ¬ (false = true) by decide)] at H
              exact absurd ((Option.some.inj H).trans HT.out) (by simp)
            ·
             rw [if_neg c79] at H
             have c79b0 : (t608 == t604) = false := beq_eq_false_iff_ne.mpr c79
             have c79b1 : (t608 != t604) = true := bne_iff_ne.mpr c79
             exact absurd ((Option.some.inj H).trans HT.out) (by simp)
       ·
        replace c52 := Bool.eq_false_iff.mpr c52
        subst c52
        rw [if_neg (show ¬ (false = true) by decide)] at H
        exact absurd ((Option.some.inj H).trans HT.out) (by simp)
      ·
       replace c49 := Bool.eq_false_iff.mpr c49
       subst c49
       rw [if_neg (show ¬ (false = true) by decide)] at H
       exact absurd ((Option.some.inj H).trans HT.out) (by simp)

end Go.Proofs.Ythciieopabndcaa.P
