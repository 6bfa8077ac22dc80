/- Written by tools/seatprint.py over the translation. Lean checks it. -/
import Derived.Test.YthciieopabndcaaP0
import Derived.Test.YthciieopabndcaaP2d0c0
import Derived.Test.YthciieopabndcaaP81c0
import Derived.Test.YthciieopabndcaaPad1c0
import Derived.Test.YthciieopabndcaaPfffc0
namespace Go.Proofs.Ythciieopabndcaa.P
open Go.RowKit Go.Proofs.YthciieopabndcaaW.PrintWords Go.Proofs.YthciieopabndcaaW.PrintLast Go.Proofs.YthciieopabndcaaW.PrintMore
attribute [local go_sem] max2_int min2_int max_two min_two max_three min_three max_four min_four
set_option linter.unusedVariables false
set_option linter.unusedSimpArgs false

/-! ### laws_FnExactNextChunk: function 3 -/
mutual
def laws_FnExactNextChunk.j0 : Nat → List (S64) → Int → List (S62) → List (S62) → List (S62) → List (S62) → List (S62) → Bool → Option (Bool)
 | 0, _, _, _, _, _, _, _, _ => none
 | k + 1, x0, x1, x6, x7, x8, x9, x10, x45 => if x45 = true then (some false) else ((laws_toRowS.f k x0).bind fun t205 => ((laws_eqRowS.f k x8 t205).bind fun t208 => (if t208 = true then ((laws_markRowS.f k x8 1).bind fun bt209 => (if bt209.1 < 0 then (laws_FnExactNextChunk.j1 k x0 x1 x6 x7 x9 x10 true) else ((laws_eqRowS.f k x9 x6).bind fun t211 => (if t211 = true then ((laws_eqRowS.f k x10 x7).bind fun t212 => (laws_FnExactNextChunk.j1 k x0 x1 x6 x7 x9 x10 (!t212))) else (laws_FnExactNextChunk.j1 k x0 x1 x6 x7 x9 x10 true))))) else (some false))))
def laws_FnExactNextChunk.j1 : Nat → List (S64) → Int → List (S62) → List (S62) → List (S62) → List (S62) → Bool → Option (Bool)
 | 0, _, _, _, _, _, _, _ => none
 | k + 1, x0, x1, x6, x7, x9, x10, x67 => if x67 = true then (some false) else ((laws_markRowS.f k x9 1).bind fun bt213 => ((laws_markRowS.f k x10 bt213.1).bind fun bt215 => ((laws_heldRowS.f k bt213.2 1).bind fun t217 => (if t217 < 0 then (some false) else ((laws_heldRowS.f k bt215.2 t217).bind fun t218 => (if t218 < 0 then (some false) else (if t218 = bt215.1 then ((laws_toRowS.f k x0).bind fun t219 => ((impl_NextChunk.f k t219 x1).bind fun bt222 => ((laws_eqRowS.f k bt222.1 x6).bind fun t228 => (if t228 = true then ((laws_eqRowS.f k bt222.2 x7).bind fun t229 => (laws_FnExactNextChunk.j2 k bt213.2 bt215.2 bt215.1 (!t229))) else (laws_FnExactNextChunk.j2 k bt213.2 bt215.2 bt215.1 true))))) else (some false))))))))
def laws_FnExactNextChunk.j2 : Nat → List (S62) → List (S62) → Int → Bool → Option (Bool)
 | 0, _, _, _, _ => none
 | k + 1, x9, x10, x12, x103 => if x103 = true then (some false) else ((laws_heldRowS.f k x9 1).bind fun t230 => (if t230 < 0 then (some false) else ((laws_heldRowS.f k x10 t230).bind fun t231 => (if t231 < 0 then (some false) else (if t231 = x12 then (some true) else (some false))))))
end
def laws_FnExactNextChunk.f (k : Nat) (l0 : List (S64)) (a1 : Int) : Option (Bool) := (laws_szRowS.f l0 1048576).bind fun t184 => (if t184 < 0 then (some true) else ((laws_toRowS.f k l0).bind fun t185 => ((spec_NextChunk.f k t185 a1).bind fun bt188 => ((laws_toRowS.f k l0).bind fun t194 => ((impl_NextChunk.f k t194 a1).bind fun bt197 => ((laws_eqRowS.f k bt197.1 bt188.1).bind fun t203 => (if t203 = true then ((laws_eqRowS.f k bt197.2 bt188.2).bind fun t204 => (laws_FnExactNextChunk.j0 k l0 a1 bt188.1 bt188.2 t194 bt197.1 bt197.2 (!t204))) else (laws_FnExactNextChunk.j0 k l0 a1 bt188.1 bt188.2 t194 bt197.1 bt197.2 true))))))))
theorem laws_FnExactNextChunk.mono_l : ∀ k, (∀ y0 y1 y2 y3 y4 y5 y6 y7, LeO (laws_FnExactNextChunk.j0 k y0 y1 y2 y3 y4 y5 y6 y7) (laws_FnExactNextChunk.j0 (k + 1) y0 y1 y2 y3 y4 y5 y6 y7)) ∧ (∀ y0 y1 y2 y3 y4 y5 y6, LeO (laws_FnExactNextChunk.j1 k y0 y1 y2 y3 y4 y5 y6) (laws_FnExactNextChunk.j1 (k + 1) y0 y1 y2 y3 y4 y5 y6)) ∧ (∀ y0 y1 y2 y3, LeO (laws_FnExactNextChunk.j2 k y0 y1 y2 y3) (laws_FnExactNextChunk.j2 (k + 1) y0 y1 y2 y3))
 | 0 => ⟨fun _ _ _ _ _ _ _ _ r h => by simp [laws_FnExactNextChunk.j0] at h, fun _ _ _ _ _ _ _ r h => by simp [laws_FnExactNextChunk.j1] at h, fun _ _ _ _ r h => by simp [laws_FnExactNextChunk.j2] at h⟩
 | k + 1 => by
  obtain ⟨ih0, ih1, ih2⟩ := laws_FnExactNextChunk.mono_l k
  refine ⟨?_, ?_, ?_⟩
  ·
   intro y0 y1 y2 y3 y4 y5 y6 y7
   unfold laws_FnExactNextChunk.j0
   repeat' first
   | (with_reducible exact ih0 _ _ _ _ _ _ _ _)
   | (with_reducible exact ih1 _ _ _ _ _ _ _)
   | (with_reducible exact ih2 _ _ _ _)
   | (with_reducible exact impl_NextChunk.mono _ _ _)
   | (with_reducible exact laws_eqRowS.mono _ _ _)
   | (with_reducible exact laws_heldRowS.mono _ _ _)
   | (with_reducible exact laws_markRowS.mono _ _ _)
   | (with_reducible exact laws_toRowS.mono _ _)
   | (with_reducible exact spec_NextChunk.mono _ _ _)
   | (with_reducible exact LeO.refl _)
   | (with_reducible exact LeO.none _)
   | (with_reducible refine LeO.ite ?_ ?_)
   | (with_reducible refine LeO.bind ?_ (fun _ => ?_))
   | exact ih0 _ _ _ _ _ _ _ _
   | exact ih1 _ _ _ _ _ _ _
   | exact ih2 _ _ _ _
   | exact impl_NextChunk.mono _ _ _
   | exact laws_eqRowS.mono _ _ _
   | exact laws_heldRowS.mono _ _ _
   | exact laws_markRowS.mono _ _ _
   | exact laws_toRowS.mono _ _
   | exact spec_NextChunk.mono _ _ _
   | exact LeO.none _
   | refine LeO.ite ?_ ?_
   | refine LeO.bind ?_ (fun _ => ?_)
  ·
   intro y0 y1 y2 y3 y4 y5 y6
   unfold laws_FnExactNextChunk.j1
   repeat' first
   | (with_reducible exact ih0 _ _ _ _ _ _ _ _)
   | (with_reducible exact ih1 _ _ _ _ _ _ _)
   | (with_reducible exact ih2 _ _ _ _)
   | (with_reducible exact impl_NextChunk.mono _ _ _)
   | (with_reducible exact laws_eqRowS.mono _ _ _)
   | (with_reducible exact laws_heldRowS.mono _ _ _)
   | (with_reducible exact laws_markRowS.mono _ _ _)
   | (with_reducible exact laws_toRowS.mono _ _)
   | (with_reducible exact spec_NextChunk.mono _ _ _)
   | (with_reducible exact LeO.refl _)
   | (with_reducible exact LeO.none _)
   | (with_reducible refine LeO.ite ?_ ?_)
   | (with_reducible refine LeO.bind ?_ (fun _ => ?_))
   | exact ih0 _ _ _ _ _ _ _ _
   | exact ih1 _ _ _ _ _ _ _
   | exact ih2 _ _ _ _
   | exact impl_NextChunk.mono _ _ _
   | exact laws_eqRowS.mono _ _ _
   | exact laws_heldRowS.mono _ _ _
   | exact laws_markRowS.mono _ _ _
   | exact laws_toRowS.mono _ _
   | exact spec_NextChunk.mono _ _ _
   | exact LeO.none _
   | refine LeO.ite ?_ ?_
   | refine LeO.bind ?_ (fun _ => ?_)
  ·
   intro y0 y1 y2 y3
   unfold laws_FnExactNextChunk.j2
   repeat' first
   | (with_reducible exact ih0 _ _ _ _ _ _ _ _)
   | (with_reducible exact ih1 _ _ _ _ _ _ _)
   | (with_reducible exact ih2 _ _ _ _)
   | (with_reducible exact impl_NextChunk.mono _ _ _)
   | (with_reducible exact laws_eqRowS.mono _ _ _)
   | (with_reducible exact laws_heldRowS.mono _ _ _)
   | (with_reducible exact laws_markRowS.mono _ _ _)
   | (with_reducible exact laws_toRowS.mono _ _)
   | (with_reducible exact spec_NextChunk.mono _ _ _)
   | (with_reducible exact LeO.refl _)
   | (with_reducible exact LeO.none _)
   | (with_reducible refine LeO.ite ?_ ?_)
   | (with_reducible refine LeO.bind ?_ (fun _ => ?_))
   | exact ih0 _ _ _ _ _ _ _ _
   | exact ih1 _ _ _ _ _ _ _
   | exact ih2 _ _ _ _
   | exact impl_NextChunk.mono _ _ _
   | exact laws_eqRowS.mono _ _ _
   | exact laws_heldRowS.mono _ _ _
   | exact laws_markRowS.mono _ _ _
   | exact laws_toRowS.mono _ _
   | exact spec_NextChunk.mono _ _ _
   | exact LeO.none _
   | refine LeO.ite ?_ ?_
   | refine LeO.bind ?_ (fun _ => ?_)
theorem laws_FnExactNextChunk.mono : ∀ a0 a1 k, LeO (laws_FnExactNextChunk.f k a0 a1) (laws_FnExactNextChunk.f (k + 1) a0 a1) := by
 intro a0 a1 k
 obtain ⟨ih0, ih1, ih2⟩ := laws_FnExactNextChunk.mono_l k
 unfold laws_FnExactNextChunk.f
 repeat' first
   | (with_reducible exact ih0 _ _ _ _ _ _ _ _)
   | (with_reducible exact ih1 _ _ _ _ _ _ _)
   | (with_reducible exact ih2 _ _ _ _)
   | (with_reducible exact impl_NextChunk.mono _ _ _)
   | (with_reducible exact laws_eqRowS.mono _ _ _)
   | (with_reducible exact laws_heldRowS.mono _ _ _)
   | (with_reducible exact laws_markRowS.mono _ _ _)
   | (with_reducible exact laws_toRowS.mono _ _)
   | (with_reducible exact spec_NextChunk.mono _ _ _)
   | (with_reducible exact LeO.refl _)
   | (with_reducible exact LeO.none _)
   | (with_reducible refine LeO.ite ?_ ?_)
   | (with_reducible refine LeO.bind ?_ (fun _ => ?_))
   | exact ih0 _ _ _ _ _ _ _ _
   | exact ih1 _ _ _ _ _ _ _
   | exact ih2 _ _ _ _
   | exact impl_NextChunk.mono _ _ _
   | exact laws_eqRowS.mono _ _ _
   | exact laws_heldRowS.mono _ _ _
   | exact laws_markRowS.mono _ _ _
   | exact laws_toRowS.mono _ _
   | exact spec_NextChunk.mono _ _ _
   | exact LeO.none _
   | refine LeO.ite ?_ ?_
   | refine LeO.bind ?_ (fun _ => ?_)
set_option maxHeartbeats 8000000 in
set_option maxRecDepth 100000 in
theorem laws_FnExactNextChunk.calls (k : Nat) (A0 : Option Addr) (c0 : Nat) (l0 : List (S64)) (a1 : Int) (r : Bool) (w : World) (hr0 : Kd.C k64 w A0 l0.length l0) (hc0 : l0.length ≤ c0) (ht : r = true) (h : laws_FnExactNextChunk.f k l0 a1 = some r) :
  Calls Try.prog 3 #[.slice A0 l0.length c0, .int .i64 a1] w fun e w' => e = .returned (.bool r) ∧ Below w.heap.size w w' := by
 have HR0 := mA hr0
 have HC0 := mA hc0
 clear hr0 hc0
 have HB := mA (Below.refl w.heap.size w)
 have HT := mA ht
 clear ht
 have H : ((laws_szRowS.f l0 1048576).bind fun t184 => (if t184 < 0 then (some true) else ((laws_toRowS.f k l0).bind fun t185 => ((spec_NextChunk.f k t185 a1).bind fun bt188 => ((laws_toRowS.f k l0).bind fun t194 => ((impl_NextChunk.f k t194 a1).bind fun bt197 => ((laws_eqRowS.f k bt197.1 bt188.1).bind fun t203 => (if t203 = true then ((laws_eqRowS.f k bt197.2 bt188.2).bind fun t204 => (laws_FnExactNextChunk.j0 k l0 a1 bt188.1 bt188.2 t194 bt197.1 bt197.2 (!t204))) else (laws_FnExactNextChunk.j0 k l0 a1 bt188.1 bt188.2 t194 bt197.1 bt197.2 true))))))))) = some r := h
 clear h
 obtain ⟨t184, A3, H⟩ := Option.bind_eq_some_iff.mp H
 replace A3 := mA A3
 try dsimp only at H
 by_cases c4 : t184 < 0
 ·
  rw [if_pos c4] at H
  have c4b0 : decide (t184 < 0) = true := decide_eq_true c4
  clear c4
  obtain rfl := Option.some.inj H
  go_enter Try.func3, Try.ntmps3
  go_wp2_with (first | ((with_reducible refine gate_callee (f := 15) rfl ?_); refine goesT (some 18) Try.func15 #[.slice A0 l0.length c0, .int .i64 1048576] ?_; (with_reducible refine (laws_szRowS.calls _ _ l0 1048576 t184 _ ?side1 ?side2 A3.out).mono ?_); (case side1 => exact cT HR0.out); (case side2 => exact HC0.out); rintro e w' ⟨rfl, ⟨nd, rfl⟩⟩; refine ⟨_, rfl, ?_⟩))
  go_ret
  exact ⟨eT, bT HB⟩
 ·
  rw [if_neg c4] at H
  have c4b0 : decide (t184 < 0) = false := decide_eq_false c4
  clear c4
  obtain ⟨t185, A5, H⟩ := Option.bind_eq_some_iff.mp H
  replace A5 := mA A5
  try dsimp only at H
  obtain ⟨⟨t188, t189⟩, A6, H⟩ := Option.bind_eq_some_iff.mp H
  replace A6 := mA A6
  try dsimp only at H
  obtain ⟨t194, A7, H⟩ := Option.bind_eq_some_iff.mp H
  replace A7 := mA A7
  try dsimp only at H
  obtain ⟨⟨t197, t198⟩, A8, H⟩ := Option.bind_eq_some_iff.mp H
  replace A8 := mA A8
  try dsimp only at H
  have HC9 := mA H
  clear H
  go_enter Try.func3, Try.ntmps3
  go_upto_region 8 with (first | ((with_reducible refine gate_callee (f := 15) rfl ?_); refine goesT (some 18) Try.func15 #[.slice A0 l0.length c0, .int .i64 1048576] ?_; (with_reducible refine (laws_szRowS.calls _ _ l0 1048576 t184 _ ?side1 ?side2 A3.out).mono ?_); (case side1 => exact cT HR0.out); (case side2 => exact HC0.out); rintro e w' ⟨rfl, ⟨nd, rfl⟩⟩; refine ⟨_, rfl, ?_⟩) | ((with_reducible refine gate_callee (f := 17) rfl ?_); refine goesT (some 23) Try.func17 #[.slice A0 l0.length c0] ?_; (with_reducible refine (laws_toRowS.calls k _ _ l0 t185 _ ?side1 ?side2 A5.out).mono ?_); (case side1 => exact cT HR0.out); (case side2 => exact HC0.out); rintro e w10 ⟨v186, rfl, ho0, hb⟩; refine ⟨_, rfl, ?_⟩; have HO187 := mA (Kd.R_lower ho0 (below_size (bT HB))); replace HB := mA (below_step (bT HB) hb); (try clear hb); (try clear ho0); obtain ⟨Ao11, co11, eo11⟩ := Kd.R_slice HO187.out; subst eo11) | ((with_reducible refine gate_callee (f := 16) rfl ?_); refine goesT (some 25) Try.func16 #[.slice Ao11 t185.length co11, .int .i64 a1] ?_; (with_reducible refine (spec_NextChunk.calls k _ _ t185 a1 t188 t189 _ ?side1 ?side2 A6.out).mono ?_); (case side1 => exact cT ((Kd.R_reads' HO187.out).2.2)); (case side2 => exact (Kd.R_reads' HO187.out).2.1); rintro e w12 ⟨v190, v192, rfl, ho0, ho1, hb⟩; refine ⟨_, rfl, ?_⟩; have HO191 := mA (Kd.R_lower (Kd.R_new' ho0 (Kd.R_lt (rTR HO187))) (below_size (bT HB))); have HO193 := mA (Kd.R_lower (Kd.R_new' ho1 (Kd.R_lt (rTR HO187))) (below_size (bT HB))); replace HO187 := mA (Kd.R_mono (Kd.R_told (Kd.R_told (Kd.R_old (rTR HO187) hb) (Kd.R_base ho0)) (Kd.R_base ho1)) (fun _ h_ => h_.1)); replace HB := mA (below_step (bT HB) hb); (try clear hb); (try clear ho0); (try clear ho1)) | ((with_reducible refine gate_callee (f := 17) rfl ?_); refine goesT (some 29) Try.func17 #[.slice A0 l0.length c0] ?_; (with_reducible refine (laws_toRowS.calls k _ _ l0 t194 _ ?side1 ?side2 A7.out).mono ?_); (case side1 => exact cT (Kd.C_below HR0.out HB.out)); (case side2 => exact HC0.out); rintro e w13 ⟨v195, rfl, ho0, hb⟩; refine ⟨_, rfl, ?_⟩; have HO196 := mA (Kd.R_lower (Kd.R_new' (Kd.R_new' (Kd.R_new' ho0 (Kd.R_lt (rTR HO187))) (Kd.R_lt (rTR HO191))) (Kd.R_lt (rTR HO193))) (below_size (bT HB))); replace HO187 := mA (Kd.R_elder' (rTR HO187) (Kd.R_base ho0) hb); replace HO191 := mA (Kd.R_elder' (rTR HO191) (Kd.R_base ho0) hb); replace HO193 := mA (Kd.R_elder' (rTR HO193) (Kd.R_base ho0) hb); replace HB := mA (below_step (bT HB) hb); (try clear hb); (try clear ho0); obtain ⟨Ao14, co14, eo14⟩ := Kd.R_slice HO196.out; subst eo14) | ((with_reducible refine gate_callee (f := 18) rfl ?_); refine goesT (some 33) Try.func18 #[.slice Ao14 t194.length co14, .int .i64 a1] ?_; (with_reducible refine (impl_NextChunk.calls k _ _ t194 a1 t197 t198 _ ?side1 ?side2 A8.out).mono ?_); (case side1 => exact cT ((Kd.R_reads' HO196.out).2.2)); (case side2 => exact (Kd.R_reads' HO196.out).2.1); rintro e w15 ⟨v199, v201, rfl, ho0, ho1, hb⟩; refine ⟨_, rfl, ?_⟩; have HO200 := mA (Kd.R_lower (Kd.R_new' (Kd.R_new' (Kd.R_new' (Kd.R_new' ho0 (Kd.R_lt (rTR HO187))) (Kd.R_lt (rTR HO191))) (Kd.R_lt (rTR HO193))) (Kd.R_lt (rTR HO196))) (below_size (bT HB))); have HO202 := mA (Kd.R_lower (Kd.R_new' (Kd.R_new' (Kd.R_new' (Kd.R_new' ho1 (Kd.R_lt (rTR HO187))) (Kd.R_lt (rTR HO191))) (Kd.R_lt (rTR HO193))) (Kd.R_lt (rTR HO196))) (below_size (bT HB))); replace HO191 := mA (Kd.R_mono (Kd.R_told (Kd.R_told (Kd.R_old (rTR HO191) hb) (Kd.R_base ho0)) (Kd.R_base ho1)) (fun _ h_ => h_.1)); replace HO193 := mA (Kd.R_mono (Kd.R_told (Kd.R_told (Kd.R_old (rTR HO193) hb) (Kd.R_base ho0)) (Kd.R_base ho1)) (fun _ h_ => h_.1)); replace HO196 := mA (Kd.R_mono (Kd.R_told (Kd.R_told (Kd.R_old (rTR HO196) hb) (Kd.R_base ho0)) (Kd.R_base ho1)) (fun _ h_ => h_.1)); replace HB := mA (below_step (bT HB) hb); (try clear hb); (try clear ho0); (try clear ho1)))
  (try simp only [Act.put, List.setIfInBounds_toArray, List.set_cons_zero, List.set_cons_succ])
  go_cut [45] (fun v45 wc => ∃ (kq : Nat) (x45_8 : Bool), v45 = .bool x45_8 ∧ Aside0 (laws_FnExactNextChunk.j0 kq l0 a1 t188 t189 t194 t197 t198 x45_8 = some r) ∧ Aside0 (kq ≤ k) ∧ Aside0 (Kd.R k62 62 wc w.heap.size (fun k_ => some k_ ≠ (v192 : Value).ownBlock ∧ some k_ ≠ ((.slice Ao14 t194.length co14) : Value).ownBlock ∧ some k_ ≠ (v199 : Value).ownBlock ∧ some k_ ≠ (v201 : Value).ownBlock) v190 t188) ∧ Aside0 (Kd.R k62 62 wc w.heap.size (fun k_ => some k_ ≠ (v190 : Value).ownBlock ∧ some k_ ≠ ((.slice Ao14 t194.length co14) : Value).ownBlock ∧ some k_ ≠ (v199 : Value).ownBlock ∧ some k_ ≠ (v201 : Value).ownBlock) v192 t189) ∧ Aside0 (Kd.R k62 62 wc w.heap.size (fun k_ => some k_ ≠ (v190 : Value).ownBlock ∧ some k_ ≠ (v192 : Value).ownBlock ∧ some k_ ≠ (v199 : Value).ownBlock ∧ some k_ ≠ (v201 : Value).ownBlock) (.slice Ao14 t194.length co14) t194) ∧ Aside0 (Kd.R k62 62 wc w.heap.size (fun k_ => some k_ ≠ (v190 : Value).ownBlock ∧ some k_ ≠ (v192 : Value).ownBlock ∧ some k_ ≠ ((.slice Ao14 t194.length co14) : Value).ownBlock ∧ some k_ ≠ (v201 : Value).ownBlock) v199 t197) ∧ Aside0 (Kd.R k62 62 wc w.heap.size (fun k_ => some k_ ≠ (v190 : Value).ownBlock ∧ some k_ ≠ (v192 : Value).ownBlock ∧ some k_ ≠ ((.slice Ao14 t194.length co14) : Value).ownBlock ∧ some k_ ≠ (v199 : Value).ownBlock) v201 t198) ∧ Aside0 (Below w.heap.size w wc))
  case first =>
   have H := HC9.out
   clear HC9
   obtain ⟨t203, A16, H⟩ := Option.bind_eq_some_iff.mp H
   replace A16 := mA A16
   try dsimp only at H
   by_cases c17 : t203 = true
   ·
    subst c17
    rw [if_pos rfl] at H
    obtain ⟨t204, A18, H⟩ := Option.bind_eq_some_iff.mp H
    replace A18 := mA A18
    try dsimp only at H
    have H' := mA H
    clear H
    obtain ⟨Ao19, co19, eo19⟩ := Kd.R_slice HO200.out
    subst eo19
    obtain ⟨Ao20, co20, eo20⟩ := Kd.R_slice HO191.out
    subst eo20
    go_wp2_with (first | ((with_reducible refine gate_callee (f := 19) rfl ?_); refine goesT (some 38) Try.func19 #[.slice Ao19 t197.length co19, .slice Ao20 t188.length co20] ?_; (with_reducible refine (laws_eqRowS.calls k _ _ t197 _ _ t188 true _ ?side1 ?side2 ?side3 ?side4 A16.out).mono ?_); (case side1 => exact cT ((Kd.R_reads' HO200.out).2.2)); (case side2 => exact (Kd.R_reads' HO200.out).2.1); (case side3 => exact cT ((Kd.R_reads' HO191.out).2.2)); (case side4 => exact (Kd.R_reads' HO191.out).2.1); rintro e w21 ⟨rfl, hb⟩; refine ⟨_, rfl, ?_⟩; replace HO191 := rBR HO191 hb; replace HO193 := rBR HO193 hb; replace HO196 := rBR HO196 hb; replace HO200 := rBR HO200 hb; replace HO202 := rBR HO202 hb; replace HB := mA (below_step (bT HB) hb); (try clear hb); obtain ⟨Ao22, co22, eo22⟩ := Kd.R_slice HO202.out; subst eo22; obtain ⟨Ao23, co23, eo23⟩ := Kd.R_slice HO193.out; subst eo23) | (go_at_call 19; (with_reducible refine (laws_eqRowS.calls k _ _ t198 _ _ t189 t204 _ ?side1 ?side2 ?side3 ?side4 A18.out).mono ?_); (case side1 => exact cT ((Kd.R_reads' HO202.out).2.2)); (case side2 => exact (Kd.R_reads' HO202.out).2.1); (case side3 => exact cT ((Kd.R_reads' HO193.out).2.2)); (case side4 => exact (Kd.R_reads' HO193.out).2.1); rintro e w24 ⟨rfl, hb⟩; replace HO191 := rBR HO191 hb; replace HO193 := rBR HO193 hb; replace HO196 := rBR HO196 hb; replace HO200 := rBR HO200 hb; replace HO202 := rBR HO202 hb; replace HB := mA (below_step (bT HB) hb); (try clear hb)))
    go_meet
    case rel => exact ⟨_, (!t204), sT, H', ⟨by first | omega | exact Nat.le_refl _⟩, ⟨by (with_reducible repeat (first | apply Kd.R_alloc | apply Kd.R_drewN | apply Kd.R_drew)); exact Kd.R_mono HO191.out (fun _ hk => ⟨hk.1.1.1.1, ⟨hk.1.1.2, ⟨hk.1.2, hk.2⟩⟩⟩)⟩, ⟨by (with_reducible repeat (first | apply Kd.R_alloc | apply Kd.R_drewN | apply Kd.R_drew)); exact Kd.R_mono HO193.out (fun _ hk => ⟨hk.1.1.1.1, ⟨hk.1.1.2, ⟨hk.1.2, hk.2⟩⟩⟩)⟩, ⟨by (with_reducible repeat (first | apply Kd.R_alloc | apply Kd.R_drewN | apply Kd.R_drew)); exact Kd.R_mono HO196.out (fun _ hk => ⟨hk.1.1.1.2, ⟨hk.1.1.2, ⟨hk.1.2, hk.2⟩⟩⟩)⟩, ⟨by (with_reducible repeat (first | apply Kd.R_alloc | apply Kd.R_drewN | apply Kd.R_drew)); exact Kd.R_mono HO200.out (fun _ hk => ⟨hk.1.1.2, ⟨hk.1.2, ⟨hk.2, hk.1.1.1.1⟩⟩⟩)⟩, ⟨by (with_reducible repeat (first | apply Kd.R_alloc | apply Kd.R_drewN | apply Kd.R_drew)); exact Kd.R_mono HO202.out (fun _ hk => ⟨hk.1.1.2, ⟨hk.1.2, ⟨hk.2, hk.1.1.1.1⟩⟩⟩)⟩, ⟨bT HB⟩⟩
   ·
    replace c17 := Bool.eq_false_iff.mpr c17
    subst c17
    rw [if_neg (show ¬ (false = true) by decide)] at H
    have H' := mA H
    clear H
    obtain ⟨Ao25, co25, eo25⟩ := Kd.R_slice HO200.out
    subst eo25
    obtain ⟨Ao26, co26, eo26⟩ := Kd.R_slice HO191.out
    subst eo26
    go_wp2_with (first | ((with_reducible refine gate_callee (f := 19) rfl ?_); refine goesT (some 38) Try.func19 #[.slice Ao25 t197.length co25, .slice Ao26 t188.length co26] ?_; (with_reducible refine (laws_eqRowS.calls k _ _ t197 _ _ t188 false _ ?side1 ?side2 ?side3 ?side4 A16.out).mono ?_); (case side1 => exact cT ((Kd.R_reads' HO200.out).2.2)); (case side2 => exact (Kd.R_reads' HO200.out).2.1); (case side3 => exact cT ((Kd.R_reads' HO191.out).2.2)); (case side4 => exact (Kd.R_reads' HO191.out).2.1); rintro e w27 ⟨rfl, hb⟩; refine ⟨_, rfl, ?_⟩; replace HO191 := rBR HO191 hb; replace HO193 := rBR HO193 hb; replace HO196 := rBR HO196 hb; replace HO200 := rBR HO200 hb; replace HO202 := rBR HO202 hb; replace HB := mA (below_step (bT HB) hb); (try clear hb)))
    go_meet
    case rel => exact ⟨_, (true), sT, H', ⟨by first | omega | exact Nat.le_refl _⟩, ⟨by (with_reducible repeat (first | apply Kd.R_alloc | apply Kd.R_drewN | apply Kd.R_drew)); exact Kd.R_mono HO191.out (fun _ hk => ⟨hk.1.1.1.1, ⟨hk.1.1.2, ⟨hk.1.2, hk.2⟩⟩⟩)⟩, ⟨by (with_reducible repeat (first | apply Kd.R_alloc | apply Kd.R_drewN | apply Kd.R_drew)); exact Kd.R_mono HO193.out (fun _ hk => ⟨hk.1.1.1.1, ⟨hk.1.1.2, ⟨hk.1.2, hk.2⟩⟩⟩)⟩, ⟨by (with_reducible repeat (first | apply Kd.R_alloc | apply Kd.R_drewN | apply Kd.R_drew)); exact Kd.R_mono HO196.out (fun _ hk => ⟨hk.1.1.1.2, ⟨hk.1.1.2, ⟨hk.1.2, hk.2⟩⟩⟩)⟩, ⟨by (with_reducible repeat (first | apply Kd.R_alloc | apply Kd.R_drewN | apply Kd.R_drew)); exact Kd.R_mono HO200.out (fun _ hk => ⟨hk.1.1.2, ⟨hk.1.2, ⟨hk.2, hk.1.1.1.1⟩⟩⟩)⟩, ⟨by (with_reducible repeat (first | apply Kd.R_alloc | apply Kd.R_drewN | apply Kd.R_drew)); exact Kd.R_mono HO202.out (fun _ hk => ⟨hk.1.1.2, ⟨hk.1.2, ⟨hk.2, hk.1.1.1.1⟩⟩⟩)⟩, ⟨bT HB⟩⟩
  case rest =>
   clear HC9
   try clear c1
   try clear p2
   try clear c3
   try clear c4
   try clear c4b0
   try clear c15
   try clear c16
   try clear c17
   try clear c18
   try clear c19
   obtain ⟨kq, x45_8, rfl, HA, HJ8, HO_6, HO_7, HO_8, HO_9, HO_10, HB⟩ := hcut
   cases kq with
   | zero => exact absurd HA.out (by simp [laws_FnExactNextChunk.j0])
   | succ kj8 =>
    have H := HA.out
    clear HA
    simp only [laws_FnExactNextChunk.j0] at H
    by_cases c28 : x45_8 = true
    ·
     subst c28
     rw [if_pos rfl] at H
     exact absurd ((Option.some.inj H).trans HT.out) (by simp)
    ·
     replace c28 := Bool.eq_false_iff.mpr c28
     subst c28
     rw [if_neg (show ¬ (false = true) by decide)] at H
     obtain ⟨t205, A29, H⟩ := Option.bind_eq_some_iff.mp H
     replace A29 := mA A29
     try dsimp only at H
     obtain ⟨t208, A30, H⟩ := Option.bind_eq_some_iff.mp H
     replace A30 := mA A30
     try dsimp only at H
     by_cases c31 : t208 = true
     ·
      subst c31
      rw [if_pos rfl] at H
      obtain ⟨⟨t209, t210⟩, A32, H⟩ := Option.bind_eq_some_iff.mp H
      replace A32 := mA A32
      try dsimp only at H
      have HC33 := mA H
      clear H
      go_upto_region 14 with (first | ((with_reducible refine gate_callee (f := 17) rfl ?_); refine goesT (some 48) Try.func17 #[.slice A0 l0.length c0] ?_; (with_reducible refine (laws_toRowS.calls kj8 _ _ l0 t205 _ ?side1 ?side2 A29.out).mono ?_); (case side1 => exact cT (Kd.C_below HR0.out HB.out)); (case side2 => exact HC0.out); rintro e w34 ⟨v206, rfl, ho0, hb⟩; refine ⟨_, rfl, ?_⟩; have HO207 := mA (Kd.R_lower (Kd.R_new' (Kd.R_new' (Kd.R_new' (Kd.R_new' (Kd.R_new' ho0 (Kd.R_lt (rTR HO_6))) (Kd.R_lt (rTR HO_7))) (Kd.R_lt (rTR HO_8))) (Kd.R_lt (rTR HO_9))) (Kd.R_lt (rTR HO_10))) (below_size (bT HB))); replace HO_6 := mA (Kd.R_elder' (rTR HO_6) (Kd.R_base ho0) hb); replace HO_7 := mA (Kd.R_elder' (rTR HO_7) (Kd.R_base ho0) hb); replace HO_8 := mA (Kd.R_elder' (rTR HO_8) (Kd.R_base ho0) hb); replace HO_9 := mA (Kd.R_elder' (rTR HO_9) (Kd.R_base ho0) hb); replace HO_10 := mA (Kd.R_elder' (rTR HO_10) (Kd.R_base ho0) hb); replace HB := mA (below_step (bT HB) hb); (try clear hb); (try clear ho0); obtain ⟨Ao35, co35, eo35⟩ := Kd.R_slice HO207.out; subst eo35) | ((with_reducible refine gate_callee (f := 19) rfl ?_); refine goesT (some 49) Try.func19 #[.slice Ao14 t194.length co14, .slice Ao35 t205.length co35] ?_; (with_reducible refine (laws_eqRowS.calls kj8 _ _ t194 _ _ t205 true _ ?side1 ?side2 ?side3 ?side4 A30.out).mono ?_); (case side1 => exact cT ((Kd.R_reads' HO_8.out).2.2)); (case side2 => exact (Kd.R_reads' HO_8.out).2.1); (case side3 => exact cT ((Kd.R_reads' HO207.out).2.2)); (case side4 => exact (Kd.R_reads' HO207.out).2.1); rintro e w36 ⟨rfl, hb⟩; refine ⟨_, rfl, ?_⟩; replace HO_6 := rBR HO_6 hb; replace HO_7 := rBR HO_7 hb; replace HO_8 := rBR HO_8 hb; replace HO_9 := rBR HO_9 hb; replace HO_10 := rBR HO_10 hb; replace HB := mA (below_step (bT HB) hb); (try clear hb)) | ((with_reducible refine gate_callee (f := 20) rfl ?_); refine goesT (some 53) Try.func20 #[.slice Ao14 t194.length co14, .int .i64 1] ?_; (with_reducible refine (laws_markRowS.calls kj8 (fun k_ => some k_ = (.slice Ao14 t194.length co14 : Value).ownBlock) (.slice Ao14 t194.length co14) t194 1 t209 t210 w _ ?side1 ?side2 A32.out).mono ?_); (case side1 => repeat (first | (with_reducible first | exact HB.out | apply below_alloc | apply pw_below_drewN | apply below_drew1) | exact HB.out)); (case side2 => exact Kd.R_tight rfl HO_8.out); rintro e w37 ⟨rfl, hy0, hb, hkp⟩; refine ⟨_, rfl, ?_⟩; replace HO_6 := mA (Kd.R_mono (ok' := fun k_ => some k_ ≠ (v192 : Value).ownBlock ∧ some k_ ≠ (.slice Ao14 t194.length co14 : Value).ownBlock ∧ some k_ ≠ (v199 : Value).ownBlock ∧ some k_ ≠ (v201 : Value).ownBlock ∧ some k_ ≠ (.slice Ao35 t205.length co35 : Value).ownBlock) (Kd.R_keptB (HO_6.out) hkp (fun k_ hk_ hs_ => (hk_.1.2.1) hs_)) (fun k_ hk_ => ⟨hk_.1.1.1, hk_.1.1.2.1, hk_.1.1.2.2.1, hk_.1.1.2.2.2, hk_.1.2⟩)); replace HO_7 := mA (Kd.R_mono (ok' := fun k_ => some k_ ≠ (v190 : Value).ownBlock ∧ some k_ ≠ (.slice Ao14 t194.length co14 : Value).ownBlock ∧ some k_ ≠ (v199 : Value).ownBlock ∧ some k_ ≠ (v201 : Value).ownBlock ∧ some k_ ≠ (.slice Ao35 t205.length co35 : Value).ownBlock) (Kd.R_keptB (HO_7.out) hkp (fun k_ hk_ hs_ => (hk_.1.2.1) hs_)) (fun k_ hk_ => ⟨hk_.1.1.1, hk_.1.1.2.1, hk_.1.1.2.2.1, hk_.1.1.2.2.2, hk_.1.2⟩)); replace HO_9 := mA (Kd.R_mono (ok' := fun k_ => some k_ ≠ (v190 : Value).ownBlock ∧ some k_ ≠ (v192 : Value).ownBlock ∧ some k_ ≠ (.slice Ao14 t194.length co14 : Value).ownBlock ∧ some k_ ≠ (v201 : Value).ownBlock ∧ some k_ ≠ (.slice Ao35 t205.length co35 : Value).ownBlock) (Kd.R_keptB (HO_9.out) hkp (fun k_ hk_ hs_ => (hk_.1.2.2.1) hs_)) (fun k_ hk_ => ⟨hk_.1.1.1, hk_.1.1.2.1, hk_.1.1.2.2.1, hk_.1.1.2.2.2, hk_.1.2⟩)); replace HO_10 := mA (Kd.R_mono (ok' := fun k_ => some k_ ≠ (v190 : Value).ownBlock ∧ some k_ ≠ (v192 : Value).ownBlock ∧ some k_ ≠ (.slice Ao14 t194.length co14 : Value).ownBlock ∧ some k_ ≠ (v199 : Value).ownBlock ∧ some k_ ≠ (.slice Ao35 t205.length co35 : Value).ownBlock) (Kd.R_keptB (HO_10.out) hkp (fun k_ hk_ hs_ => (hk_.1.2.2.1) hs_)) (fun k_ hk_ => ⟨hk_.1.1.1, hk_.1.1.2.1, hk_.1.1.2.2.1, hk_.1.1.2.2.2, hk_.1.2⟩)); replace HB := mA (hb); (try clear hb); (try clear hkp); (try clear hy0)))
      (try simp only [Act.put, List.setIfInBounds_toArray, List.set_cons_zero, List.set_cons_succ])
      go_cut [67] (fun v67 wc => ∃ (kq : Nat) (x67_32 : Bool), v67 = .bool x67_32 ∧ Aside0 (laws_FnExactNextChunk.j1 kq l0 a1 t188 t189 t197 t198 x67_32 = some r) ∧ Aside0 (kq ≤ kj8) ∧ Aside0 (Kd.R k62 62 wc w.heap.size (fun k_ => some k_ ≠ (v192 : Value).ownBlock ∧ some k_ ≠ (v199 : Value).ownBlock ∧ some k_ ≠ (v201 : Value).ownBlock) v190 t188) ∧ Aside0 (Kd.R k62 62 wc w.heap.size (fun k_ => some k_ ≠ (v190 : Value).ownBlock ∧ some k_ ≠ (v199 : Value).ownBlock ∧ some k_ ≠ (v201 : Value).ownBlock) v192 t189) ∧ Aside0 (Kd.R k62 62 wc w.heap.size (fun k_ => some k_ ≠ (v190 : Value).ownBlock ∧ some k_ ≠ (v192 : Value).ownBlock ∧ some k_ ≠ (v201 : Value).ownBlock) v199 t197) ∧ Aside0 (Kd.R k62 62 wc w.heap.size (fun k_ => some k_ ≠ (v190 : Value).ownBlock ∧ some k_ ≠ (v192 : Value).ownBlock ∧ some k_ ≠ (v199 : Value).ownBlock) v201 t198) ∧ Aside0 (Below w.heap.size w wc))
      case first =>
       have H := HC33.out
       clear HC33
       by_cases c38 : t209 < 0
       ·
        rw [if_pos c38] at H
        have c38b0 : decide (t209 < 0) = true := decide_eq_true c38
        clear c38
        (first | rw [c38b0] | (simp only [i64_w, i32_w]; rw [c38b0]) | skip)
        have H' := mA H
        clear H
        go_wp2
        go_meet
        case rel => exact ⟨_, (true), sT, H', ⟨by have := HJ8.out; first | omega | exact Nat.le_refl _⟩, ⟨by (with_reducible repeat (first | apply Kd.R_alloc | apply Kd.R_drewN | apply Kd.R_drew)); exact Kd.R_mono HO_6.out (fun _ hk => ⟨hk.1, ⟨hk.2.2.1, hk.2.2.2.1⟩⟩)⟩, ⟨by (with_reducible repeat (first | apply Kd.R_alloc | apply Kd.R_drewN | apply Kd.R_drew)); exact Kd.R_mono HO_7.out (fun _ hk => ⟨hk.1, ⟨hk.2.2.1, hk.2.2.2.1⟩⟩)⟩, ⟨by (with_reducible repeat (first | apply Kd.R_alloc | apply Kd.R_drewN | apply Kd.R_drew)); exact Kd.R_mono HO_9.out (fun _ hk => ⟨hk.1, ⟨hk.2.1, hk.2.2.2.1⟩⟩)⟩, ⟨by (with_reducible repeat (first | apply Kd.R_alloc | apply Kd.R_drewN | apply Kd.R_drew)); exact Kd.R_mono HO_10.out (fun _ hk => ⟨hk.1, ⟨hk.2.1, hk.2.2.2.1⟩⟩)⟩, ⟨bT HB⟩⟩
       ·
        rw [if_neg c38] at H
        have c38b0 : decide (t209 < 0) = false := decide_eq_false c38
        clear c38
        (first | rw [c38b0] | (simp only [i64_w, i32_w]; rw [c38b0]) | skip)
        obtain ⟨t211, A39, H⟩ := Option.bind_eq_some_iff.mp H
        replace A39 := mA A39
        try dsimp only at H
        by_cases c40 : t211 = true
        ·
         subst c40
         rw [if_pos rfl] at H
         obtain ⟨t212, A41, H⟩ := Option.bind_eq_some_iff.mp H
         replace A41 := mA A41
         try dsimp only at H
         have H' := mA H
         clear H
         obtain ⟨Ao42, co42, eo42⟩ := Kd.R_slice HO_9.out
         subst eo42
         obtain ⟨Ao43, co43, eo43⟩ := Kd.R_slice HO_6.out
         subst eo43
         go_wp2_with (first | (go_at_call 19; (with_reducible refine (laws_eqRowS.calls kj8 _ _ t197 _ _ t188 true _ ?side1 ?side2 ?side3 ?side4 A39.out).mono ?_); (case side1 => exact cT ((Kd.R_reads' HO_9.out).2.2)); (case side2 => exact (Kd.R_reads' HO_9.out).2.1); (case side3 => exact cT ((Kd.R_reads' HO_6.out).2.2)); (case side4 => exact (Kd.R_reads' HO_6.out).2.1); rintro e w44 ⟨rfl, hb⟩; replace HO_6 := rBR HO_6 hb; replace HO_7 := rBR HO_7 hb; replace HO_9 := rBR HO_9 hb; replace HO_10 := rBR HO_10 hb; replace HB := mA (below_step (bT HB) hb); (try clear hb); obtain ⟨Ao45, co45, eo45⟩ := Kd.R_slice HO_10.out; subst eo45; obtain ⟨Ao46, co46, eo46⟩ := Kd.R_slice HO_7.out; subst eo46) | (go_at_call 19; (with_reducible refine (laws_eqRowS.calls kj8 _ _ t198 _ _ t189 t212 _ ?side1 ?side2 ?side3 ?side4 A41.out).mono ?_); (case side1 => exact cT ((Kd.R_reads' HO_10.out).2.2)); (case side2 => exact (Kd.R_reads' HO_10.out).2.1); (case side3 => exact cT ((Kd.R_reads' HO_7.out).2.2)); (case side4 => exact (Kd.R_reads' HO_7.out).2.1); rintro e w47 ⟨rfl, hb⟩; replace HO_6 := rBR HO_6 hb; replace HO_7 := rBR HO_7 hb; replace HO_9 := rBR HO_9 hb; replace HO_10 := rBR HO_10 hb; replace HB := mA (below_step (bT HB) hb); (try clear hb)))
         go_meet
         case rel => exact ⟨_, (!t212), sT, H', ⟨by have := HJ8.out; first | omega | exact Nat.le_refl _⟩, ⟨by (with_reducible repeat (first | apply Kd.R_alloc | apply Kd.R_drewN | apply Kd.R_drew)); exact Kd.R_mono HO_6.out (fun _ hk => ⟨hk.1, ⟨hk.2.2.1, hk.2.2.2.1⟩⟩)⟩, ⟨by (with_reducible repeat (first | apply Kd.R_alloc | apply Kd.R_drewN | apply Kd.R_drew)); exact Kd.R_mono HO_7.out (fun _ hk => ⟨hk.1, ⟨hk.2.2.1, hk.2.2.2.1⟩⟩)⟩, ⟨by (with_reducible repeat (first | apply Kd.R_alloc | apply Kd.R_drewN | apply Kd.R_drew)); exact Kd.R_mono HO_9.out (fun _ hk => ⟨hk.1, ⟨hk.2.1, hk.2.2.2.1⟩⟩)⟩, ⟨by (with_reducible repeat (first | apply Kd.R_alloc | apply Kd.R_drewN | apply Kd.R_drew)); exact Kd.R_mono HO_10.out (fun _ hk => ⟨hk.1, ⟨hk.2.1, hk.2.2.2.1⟩⟩)⟩, ⟨bT HB⟩⟩
        ·
         replace c40 := Bool.eq_false_iff.mpr c40
         subst c40
         rw [if_neg (show ¬ (false = true) by decide)] at H
         have H' := mA H
         clear H
         obtain ⟨Ao48, co48, eo48⟩ := Kd.R_slice HO_9.out
         subst eo48
         obtain ⟨Ao49, co49, eo49⟩ := Kd.R_slice HO_6.out
         subst eo49
         go_wp2_with (first | (go_at_call 19; (with_reducible refine (laws_eqRowS.calls kj8 _ _ t197 _ _ t188 false _ ?side1 ?side2 ?side3 ?side4 A39.out).mono ?_); (case side1 => exact cT ((Kd.R_reads' HO_9.out).2.2)); (case side2 => exact (Kd.R_reads' HO_9.out).2.1); (case side3 => exact cT ((Kd.R_reads' HO_6.out).2.2)); (case side4 => exact (Kd.R_reads' HO_6.out).2.1); rintro e w50 ⟨rfl, hb⟩; replace HO_6 := rBR HO_6 hb; replace HO_7 := rBR HO_7 hb; replace HO_9 := rBR HO_9 hb; replace HO_10 := rBR HO_10 hb; replace HB := mA (below_step (bT HB) hb); (try clear hb)))
         go_meet
         case rel => exact ⟨_, (true), sT, H', ⟨by have := HJ8.out; first | omega | exact Nat.le_refl _⟩, ⟨by (with_reducible repeat (first | apply Kd.R_alloc | apply Kd.R_drewN | apply Kd.R_drew)); exact Kd.R_mono HO_6.out (fun _ hk => ⟨hk.1, ⟨hk.2.2.1, hk.2.2.2.1⟩⟩)⟩, ⟨by (with_reducible repeat (first | apply Kd.R_alloc | apply Kd.R_drewN | apply Kd.R_drew)); exact Kd.R_mono HO_7.out (fun _ hk => ⟨hk.1, ⟨hk.2.2.1, hk.2.2.2.1⟩⟩)⟩, ⟨by (with_reducible repeat (first | apply Kd.R_alloc | apply Kd.R_drewN | apply Kd.R_drew)); exact Kd.R_mono HO_9.out (fun _ hk => ⟨hk.1, ⟨hk.2.1, hk.2.2.2.1⟩⟩)⟩, ⟨by (with_reducible repeat (first | apply Kd.R_alloc | apply Kd.R_drewN | apply Kd.R_drew)); exact Kd.R_mono HO_10.out (fun _ hk => ⟨hk.1, ⟨hk.2.1, hk.2.2.2.1⟩⟩)⟩, ⟨bT HB⟩⟩
      case rest =>
       clear HC33
       try clear c1
       try clear c2
       try clear p2
       try clear c3
       try clear c4
       try clear c4b0
       try clear c15
       try clear c16
       try clear c17
       try clear c18
       try clear c19
       try clear c20
       try clear c28
       try clear c31
       try clear c38
       try clear c38b0
       try clear c40
       try clear p2
       obtain ⟨kq, x67_32, rfl, HA, HJ32, HO_6, HO_7, HO_9, HO_10, HB⟩ := hcut
       cases kq with
       | zero => exact absurd HA.out (by simp [laws_FnExactNextChunk.j1])
       | succ kj32 =>
        have H := HA.out
        clear HA
        simp only [laws_FnExactNextChunk.j1] at H
        by_cases c51 : x67_32 = true
        ·
         subst c51
         rw [if_pos rfl] at H
         exact absurd ((Option.some.inj H).trans HT.out) (by simp)
        ·
         replace c51 := Bool.eq_false_iff.mpr c51
         subst c51
         rw [if_neg (show ¬ (false = true) by decide)] at H
         obtain ⟨⟨t213, t214⟩, A52, H⟩ := Option.bind_eq_some_iff.mp H
         replace A52 := mA A52
         try dsimp only at H
         obtain ⟨⟨t215, t216⟩, A53, H⟩ := Option.bind_eq_some_iff.mp H
         replace A53 := mA A53
         try dsimp only at H
         obtain ⟨t217, A54, H⟩ := Option.bind_eq_some_iff.mp H
         replace A54 := mA A54
         try dsimp only at H
         by_cases c55 : t217 < 0
         ·
          rw [if_pos c55] at H
          have c55b0 : decide (t217 < 0) = true := decide_eq_true c55
          clear c55
          exact absurd ((Option.some.inj H).trans HT.out) (by simp)
         ·
          rw [if_neg c55] at H
          have c55b0 : decide (t217 < 0) = false := decide_eq_false c55
          clear c55
          obtain ⟨t218, A56, H⟩ := Option.bind_eq_some_iff.mp H
          replace A56 := mA A56
          try dsimp only at H
          by_cases c57 : t218 < 0
          ·
           rw [if_pos c57] at H
           have c57b0 : decide (t218 < 0) = true := decide_eq_true c57
           clear c57
           exact absurd ((Option.some.inj H).trans HT.out) (by simp)
          ·
           rw [if_neg c57] at H
           have c57b0 : decide (t218 < 0) = false := decide_eq_false c57
           clear c57
           by_cases c58 : t218 = t215
           ·
            rw [if_pos c58] at H
            have c58b0 : (t218 == t215) = true := beq_iff_eq.mpr c58
            have c58b1 : (t218 != t215) = false := bne_eq_false_iff_eq.mpr c58
            clear c58
            obtain ⟨t219, A59, H⟩ := Option.bind_eq_some_iff.mp H
            replace A59 := mA A59
            try dsimp only at H
            obtain ⟨⟨t222, t223⟩, A60, H⟩ := Option.bind_eq_some_iff.mp H
            replace A60 := mA A60
            try dsimp only at H
            have HC61 := mA H
            clear H
            obtain ⟨Ao62, co62, eo62⟩ := Kd.R_slice HO_9.out
            subst eo62
            go_upto_region 29 with (first | ((with_reducible refine gate_callee (f := 20) rfl ?_); refine goesT (some 70) Try.func20 #[.slice Ao62 t197.length co62, .int .i64 1] ?_; (with_reducible refine (laws_markRowS.calls kj32 (fun k_ => some k_ = (.slice Ao62 t197.length co62 : Value).ownBlock) (.slice Ao62 t197.length co62) t197 1 t213 t214 w _ ?side1 ?side2 A52.out).mono ?_); (case side1 => repeat (first | (with_reducible first | exact HB.out | apply below_alloc | apply pw_below_drewN | apply below_drew1) | exact HB.out)); (case side2 => exact Kd.R_tight rfl HO_9.out); rintro e w63 ⟨rfl, hy0, hb, hkp⟩; refine ⟨_, rfl, ?_⟩; replace HO_6 := mA (Kd.R_mono (ok' := fun k_ => some k_ ≠ (v192 : Value).ownBlock ∧ some k_ ≠ (.slice Ao62 t197.length co62 : Value).ownBlock ∧ some k_ ≠ (v201 : Value).ownBlock) (Kd.R_keptB (HO_6.out) hkp (fun k_ hk_ hs_ => (hk_.2.1) hs_)) (fun k_ hk_ => ⟨hk_.1.1, hk_.1.2.1, hk_.1.2.2⟩)); replace HO_7 := mA (Kd.R_mono (ok' := fun k_ => some k_ ≠ (v190 : Value).ownBlock ∧ some k_ ≠ (.slice Ao62 t197.length co62 : Value).ownBlock ∧ some k_ ≠ (v201 : Value).ownBlock) (Kd.R_keptB (HO_7.out) hkp (fun k_ hk_ hs_ => (hk_.2.1) hs_)) (fun k_ hk_ => ⟨hk_.1.1, hk_.1.2.1, hk_.1.2.2⟩)); replace HO_9 := mA (Kd.R_reok rfl hy0 (fun k_ e_ => HO_9.out.1 k_ e_)); replace HO_10 := mA (Kd.R_mono (ok' := fun k_ => some k_ ≠ (v190 : Value).ownBlock ∧ some k_ ≠ (v192 : Value).ownBlock ∧ some k_ ≠ (.slice Ao62 t197.length co62 : Value).ownBlock) (Kd.R_keptB (HO_10.out) hkp (fun k_ hk_ hs_ => (hk_.2.2) hs_)) (fun k_ hk_ => ⟨hk_.1.1, hk_.1.2.1, hk_.1.2.2⟩)); replace HB := mA (hb); (try clear hb); (try clear hkp); (try clear hy0); obtain ⟨Ao64, co64, eo64⟩ := Kd.R_slice HO_10.out; subst eo64) | ((with_reducible refine gate_callee (f := 20) rfl ?_); refine goesT (some 73) Try.func20 #[.slice Ao64 t198.length co64, .int .i64 t213] ?_; (with_reducible refine (laws_markRowS.calls kj32 (fun k_ => some k_ = (.slice Ao64 t198.length co64 : Value).ownBlock) (.slice Ao64 t198.length co64) t198 t213 t215 t216 w _ ?side1 ?side2 A53.out).mono ?_); (case side1 => repeat (first | (with_reducible first | exact HB.out | apply below_alloc | apply pw_below_drewN | apply below_drew1) | exact HB.out)); (case side2 => exact Kd.R_tight rfl HO_10.out); rintro e w65 ⟨rfl, hy0, hb, hkp⟩; refine ⟨_, rfl, ?_⟩; replace HO_6 := mA (Kd.R_mono (ok' := fun k_ => some k_ ≠ (v192 : Value).ownBlock ∧ some k_ ≠ (.slice Ao62 t197.length co62 : Value).ownBlock ∧ some k_ ≠ (.slice Ao64 t198.length co64 : Value).ownBlock) (Kd.R_keptB (HO_6.out) hkp (fun k_ hk_ hs_ => (hk_.2.2) hs_)) (fun k_ hk_ => ⟨hk_.1.1, hk_.1.2.1, hk_.1.2.2⟩)); replace HO_7 := mA (Kd.R_mono (ok' := fun k_ => some k_ ≠ (v190 : Value).ownBlock ∧ some k_ ≠ (.slice Ao62 t197.length co62 : Value).ownBlock ∧ some k_ ≠ (.slice Ao64 t198.length co64 : Value).ownBlock) (Kd.R_keptB (HO_7.out) hkp (fun k_ hk_ hs_ => (hk_.2.2) hs_)) (fun k_ hk_ => ⟨hk_.1.1, hk_.1.2.1, hk_.1.2.2⟩)); replace HO_9 := mA (Kd.R_mono (ok' := fun k_ => some k_ ≠ (v190 : Value).ownBlock ∧ some k_ ≠ (v192 : Value).ownBlock ∧ some k_ ≠ (.slice Ao64 t198.length co64 : Value).ownBlock) (Kd.R_keptB (HO_9.out) hkp (fun k_ hk_ hs_ => (hk_.2.2) hs_)) (fun k_ hk_ => ⟨hk_.1.1, hk_.1.2.1, hk_.1.2.2⟩)); replace HO_10 := mA (Kd.R_reok rfl hy0 (fun k_ e_ => HO_10.out.1 k_ e_)); replace HB := mA (hb); (try clear hb); (try clear hkp); (try clear hy0)) | ((with_reducible refine gate_callee (f := 21) rfl ?_); refine goesL_ (some 76) rfl rfl Try.func21 (by kernel_rfl) rfl #[.slice Ao62 t214.length co62, .int .i64 1] rfl (by (try simp only [List.map_toArray, List.map_cons, List.map_nil]); first | done | (rw [show t214.length = t197.length from (Kd.R_reads' HO_9.out).1.symm] <;> rfl) | rfl | (simp only [List.length_drop, List.length_take]; rfl)) ?_; (with_reducible refine (laws_heldRowS.calls kj32 _ _ t214 1 t217 _ ?side1 ?side2 A54.out).mono ?_); (case side1 => exact cT ((Kd.R_reads' HO_9.out).2.2)); (case side2 => rw [show t214.length = t197.length from (Kd.R_reads' HO_9.out).1.symm]; exact (Kd.R_reads' HO_9.out).2.1); rintro e w' ⟨rfl, ⟨nd, rfl⟩⟩; refine ⟨_, rfl, ?_⟩) | ((with_reducible refine gate_callee (f := 21) rfl ?_); refine goesL_ (some 81) rfl rfl Try.func21 (by kernel_rfl) rfl #[.slice Ao64 t216.length co64, .int .i64 t217] rfl (by (try simp only [List.map_toArray, List.map_cons, List.map_nil]); first | done | (rw [show t216.length = t198.length from (Kd.R_reads' HO_10.out).1.symm] <;> rfl) | rfl | (simp only [List.length_drop, List.length_take]; rfl)) ?_; (with_reducible refine (laws_heldRowS.calls kj32 _ _ t216 t217 t218 _ ?side1 ?side2 A56.out).mono ?_); (case side1 => exact cT ((Kd.R_reads' HO_10.out).2.2)); (case side2 => rw [show t216.length = t198.length from (Kd.R_reads' HO_10.out).1.symm]; exact (Kd.R_reads' HO_10.out).2.1); rintro e w' ⟨rfl, ⟨nd, rfl⟩⟩; refine ⟨_, rfl, ?_⟩) | ((with_reducible refine gate_callee (f := 17) rfl ?_); refine goesT (some 89) Try.func17 #[.slice A0 l0.length c0] ?_; (with_reducible refine (laws_toRowS.calls kj32 _ _ l0 t219 _ ?side1 ?side2 A59.out).mono ?_); (case side1 => exact cT (Kd.C_below HR0.out (bT HB))); (case side2 => exact HC0.out); rintro e w66 ⟨v220, rfl, ho0, hb⟩; refine ⟨_, rfl, ?_⟩; have HO221 := mA (Kd.R_lower (Kd.R_new' (Kd.R_new' (Kd.R_new' (Kd.R_new' ho0 (Kd.R_lt (rTR HO_6))) (Kd.R_lt (rTR HO_7))) (Kd.R_lt (rTR HO_9))) (Kd.R_lt (rTR HO_10))) (below_size (bT HB))); replace HO_6 := mA (Kd.R_elder' (rTR HO_6) (Kd.R_base ho0) hb); replace HO_7 := mA (Kd.R_elder' (rTR HO_7) (Kd.R_base ho0) hb); replace HO_9 := mA (Kd.R_elder' (rTR HO_9) (Kd.R_base ho0) hb); replace HO_10 := mA (Kd.R_elder' (rTR HO_10) (Kd.R_base ho0) hb); replace HB := mA (below_step (bT HB) hb); (try clear hb); (try clear ho0); obtain ⟨Ao67, co67, eo67⟩ := Kd.R_slice HO221.out; subst eo67) | ((with_reducible refine gate_callee (f := 18) rfl ?_); refine goesT (some 91) Try.func18 #[.slice Ao67 t219.length co67, .int .i64 a1] ?_; (with_reducible refine (impl_NextChunk.calls kj32 _ _ t219 a1 t222 t223 _ ?side1 ?side2 A60.out).mono ?_); (case side1 => exact cT ((Kd.R_reads' HO221.out).2.2)); (case side2 => exact (Kd.R_reads' HO221.out).2.1); rintro e w68 ⟨v224, v226, rfl, ho0, ho1, hb⟩; refine ⟨_, rfl, ?_⟩; have HO225 := mA (Kd.R_lower (Kd.R_new' (Kd.R_new' (Kd.R_new' (Kd.R_new' (Kd.R_new' ho0 (Kd.R_lt (rTR HO_6))) (Kd.R_lt (rTR HO_7))) (Kd.R_lt (rTR HO_9))) (Kd.R_lt (rTR HO_10))) (Kd.R_lt (rTR HO221))) (below_size (bT HB))); have HO227 := mA (Kd.R_lower (Kd.R_new' (Kd.R_new' (Kd.R_new' (Kd.R_new' (Kd.R_new' ho1 (Kd.R_lt (rTR HO_6))) (Kd.R_lt (rTR HO_7))) (Kd.R_lt (rTR HO_9))) (Kd.R_lt (rTR HO_10))) (Kd.R_lt (rTR HO221))) (below_size (bT HB))); replace HO_6 := mA (Kd.R_mono (Kd.R_told (Kd.R_told (Kd.R_old (rTR HO_6) hb) (Kd.R_base ho0)) (Kd.R_base ho1)) (fun _ h_ => h_.1)); replace HO_7 := mA (Kd.R_mono (Kd.R_told (Kd.R_told (Kd.R_old (rTR HO_7) hb) (Kd.R_base ho0)) (Kd.R_base ho1)) (fun _ h_ => h_.1)); replace HO_9 := mA (Kd.R_mono (Kd.R_told (Kd.R_told (Kd.R_old (rTR HO_9) hb) (Kd.R_base ho0)) (Kd.R_base ho1)) (fun _ h_ => h_.1)); replace HO_10 := mA (Kd.R_mono (Kd.R_told (Kd.R_told (Kd.R_old (rTR HO_10) hb) (Kd.R_base ho0)) (Kd.R_base ho1)) (fun _ h_ => h_.1)); replace HB := mA (below_step (bT HB) hb); (try clear hb); (try clear ho0); (try clear ho1)))
            (try simp only [Act.put, List.setIfInBounds_toArray, List.set_cons_zero, List.set_cons_succ])
            go_cut [103] (fun v103 wc => ∃ (kq : Nat) (x103_60 : Bool), v103 = .bool x103_60 ∧ Aside0 (laws_FnExactNextChunk.j2 kq t214 t216 t215 x103_60 = some r) ∧ Aside0 (kq ≤ kj32) ∧ Aside0 (Kd.R k62 62 wc w.heap.size (fun k_ => some k_ ≠ ((.slice Ao64 t198.length co64) : Value).ownBlock) (.slice Ao62 t197.length co62) t214) ∧ Aside0 (Kd.R k62 62 wc w.heap.size (fun k_ => some k_ ≠ ((.slice Ao62 t197.length co62) : Value).ownBlock) (.slice Ao64 t198.length co64) t216) ∧ Aside0 (Below w.heap.size w wc))
            case first =>
             have H := HC61.out
             clear HC61
             obtain ⟨t228, A69, H⟩ := Option.bind_eq_some_iff.mp H
             replace A69 := mA A69
             try dsimp only at H
             by_cases c70 : t228 = true
             ·
              subst c70
              rw [if_pos rfl] at H
              obtain ⟨t229, A71, H⟩ := Option.bind_eq_some_iff.mp H
              replace A71 := mA A71
              try dsimp only at H
              have H' := mA H
              clear H
              obtain ⟨Ao72, co72, eo72⟩ := Kd.R_slice HO225.out
              subst eo72
              obtain ⟨Ao73, co73, eo73⟩ := Kd.R_slice HO_6.out
              subst eo73
              go_wp2_with (first | ((with_reducible refine gate_callee (f := 19) rfl ?_); refine goesT (some 96) Try.func19 #[.slice Ao72 t222.length co72, .slice Ao73 t188.length co73] ?_; (with_reducible refine (laws_eqRowS.calls kj32 _ _ t222 _ _ t188 true _ ?side1 ?side2 ?side3 ?side4 A69.out).mono ?_); (case side1 => exact cT ((Kd.R_reads' HO225.out).2.2)); (case side2 => exact (Kd.R_reads' HO225.out).2.1); (case side3 => exact cT ((Kd.R_reads' HO_6.out).2.2)); (case side4 => exact (Kd.R_reads' HO_6.out).2.1); rintro e w74 ⟨rfl, hb⟩; refine ⟨_, rfl, ?_⟩; replace HO_6 := rBR HO_6 hb; replace HO_7 := rBR HO_7 hb; replace HO_9 := rBR HO_9 hb; replace HO_10 := rBR HO_10 hb; replace HO225 := rBR HO225 hb; replace HO227 := rBR HO227 hb; replace HB := mA (below_step (bT HB) hb); (try clear hb); obtain ⟨Ao75, co75, eo75⟩ := Kd.R_slice HO227.out; subst eo75; obtain ⟨Ao76, co76, eo76⟩ := Kd.R_slice HO_7.out; subst eo76) | (go_at_call 19; (with_reducible refine (laws_eqRowS.calls kj32 _ _ t223 _ _ t189 t229 _ ?side1 ?side2 ?side3 ?side4 A71.out).mono ?_); (case side1 => exact cT ((Kd.R_reads' HO227.out).2.2)); (case side2 => exact (Kd.R_reads' HO227.out).2.1); (case side3 => exact cT ((Kd.R_reads' HO_7.out).2.2)); (case side4 => exact (Kd.R_reads' HO_7.out).2.1); rintro e w77 ⟨rfl, hb⟩; replace HO_6 := rBR HO_6 hb; replace HO_9 := rBR HO_9 hb; replace HO_10 := rBR HO_10 hb; replace HO225 := rBR HO225 hb; replace HB := mA (below_step (bT HB) hb); (try clear hb)))
              go_meet
              case rel => exact ⟨_, (!t229), sT, H', ⟨by have := HJ8.out; have := HJ32.out; first | omega | exact Nat.le_refl _⟩, ⟨by (with_reducible repeat (first | apply Kd.R_alloc | apply Kd.R_drewN | apply Kd.R_drew)); exact Kd.R_mono HO_9.out (fun _ hk => hk.1.1.1.2.2)⟩, ⟨by (with_reducible repeat (first | apply Kd.R_alloc | apply Kd.R_drewN | apply Kd.R_drew)); exact Kd.R_mono HO_10.out (fun _ hk => hk.1.1.1.2.2)⟩, ⟨bT HB⟩⟩
             ·
              replace c70 := Bool.eq_false_iff.mpr c70
              subst c70
              rw [if_neg (show ¬ (false = true) by decide)] at H
              have H' := mA H
              clear H
              obtain ⟨Ao78, co78, eo78⟩ := Kd.R_slice HO225.out
              subst eo78
              obtain ⟨Ao79, co79, eo79⟩ := Kd.R_slice HO_6.out
              subst eo79
              go_wp2_with (first | ((with_reducible refine gate_callee (f := 19) rfl ?_); refine goesT (some 96) Try.func19 #[.slice Ao78 t222.length co78, .slice Ao79 t188.length co79] ?_; (with_reducible refine (laws_eqRowS.calls kj32 _ _ t222 _ _ t188 false _ ?side1 ?side2 ?side3 ?side4 A69.out).mono ?_); (case side1 => exact cT ((Kd.R_reads' HO225.out).2.2)); (case side2 => exact (Kd.R_reads' HO225.out).2.1); (case side3 => exact cT ((Kd.R_reads' HO_6.out).2.2)); (case side4 => exact (Kd.R_reads' HO_6.out).2.1); rintro e w80 ⟨rfl, hb⟩; refine ⟨_, rfl, ?_⟩; replace HO_9 := rBR HO_9 hb; replace HO_10 := rBR HO_10 hb; replace HB := mA (below_step (bT HB) hb); (try clear hb)))
              go_meet
              case rel => exact ⟨_, (true), sT, H', ⟨by have := HJ8.out; have := HJ32.out; first | omega | exact Nat.le_refl _⟩, ⟨by (with_reducible repeat (first | apply Kd.R_alloc | apply Kd.R_drewN | apply Kd.R_drew)); exact Kd.R_mono HO_9.out (fun _ hk => hk.1.1.1.2.2)⟩, ⟨by (with_reducible repeat (first | apply Kd.R_alloc | apply Kd.R_drewN | apply Kd.R_drew)); exact Kd.R_mono HO_10.out (fun _ hk => hk.1.1.1.2.2)⟩, ⟨bT HB⟩⟩
            case rest =>
             clear HC61
             try clear c1
             try clear c2
             try clear p2
             try clear c3
             try clear c4
             try clear c4b0
             try clear c5
             try clear c7
             try clear c15
             try clear c16
             try clear c17
             try clear c18
             try clear c19
             try clear c20
             try clear c21
             try clear c28
             try clear c31
             try clear c38
             try clear c38b0
             try clear c40
             try clear c51
             try clear c55
             try clear c55b0
             try clear c57
             try clear c57b0
             try clear c58
             try clear c58b0
             try clear c58b1
             try clear c70
             try clear p2
             obtain ⟨kq, x103_60, rfl, HA, HJ60, HO_9, HO_10, HB⟩ := hcut
             have hl9_60 := (Kd.R_reads' HO_9.out).1
             rw [hl9_60] at HO_9
             (try simp only [hl9_60])
             (try simp only [hl9_60] at HO_10)
             have hl10_60 := (Kd.R_reads' HO_10.out).1
             rw [hl10_60] at HO_10
             (try simp only [hl10_60])
             (try simp only [hl10_60] at HO_9)
             cases kq with
             | zero => exact absurd HA.out (by simp [laws_FnExactNextChunk.j2])
             | succ kj60 =>
              have H := HA.out
              clear HA
              simp only [laws_FnExactNextChunk.j2] at H
              by_cases c81 : x103_60 = true
              ·
               subst c81
               rw [if_pos rfl] at H
               exact absurd ((Option.some.inj H).trans HT.out) (by simp)
              ·
               replace c81 := Bool.eq_false_iff.mpr c81
               subst c81
               rw [if_neg (show ¬ (false = true) by decide)] at H
               obtain ⟨t230, A82, H⟩ := Option.bind_eq_some_iff.mp H
               replace A82 := mA A82
               try dsimp only at H
               by_cases c83 : t230 < 0
               ·
                rw [if_pos c83] at H
                have c83b0 : decide (t230 < 0) = true := decide_eq_true c83
                clear c83
                exact absurd ((Option.some.inj H).trans HT.out) (by simp)
               ·
                rw [if_neg c83] at H
                have c83b0 : decide (t230 < 0) = false := decide_eq_false c83
                clear c83
                obtain ⟨t231, A84, H⟩ := Option.bind_eq_some_iff.mp H
                replace A84 := mA A84
                try dsimp only at H
                by_cases c85 : t231 < 0
                ·
                 rw [if_pos c85] at H
                 have c85b0 : decide (t231 < 0) = true := decide_eq_true c85
                 clear c85
                 exact absurd ((Option.some.inj H).trans HT.out) (by simp)
                ·
                 rw [if_neg c85] at H
                 have c85b0 : decide (t231 < 0) = false := decide_eq_false c85
                 clear c85
                 by_cases c86 : t231 = t215
                 ·
                  rw [if_pos c86] at H
                  have c86b0 : (t231 == t215) = true := beq_iff_eq.mpr c86
                  have c86b1 : (t231 != t215) = false := bne_eq_false_iff_eq.mpr c86
                  clear c86
                  obtain rfl := Option.some.inj H
                  go_wp2_with (first | ((with_reducible refine gate_callee (f := 21) rfl ?_); refine goesT (some 106) Try.func21 #[.slice Ao62 t214.length co62, .int .i64 1] ?_; (with_reducible refine (laws_heldRowS.calls kj60 _ _ t214 1 t230 _ ?side1 ?side2 A82.out).mono ?_); (case side1 => exact cT ((Kd.R_reads' HO_9.out).2.2)); (case side2 => exact (Kd.R_reads' HO_9.out).2.1); rintro e w' ⟨rfl, ⟨nd, rfl⟩⟩; refine ⟨_, rfl, ?_⟩) | ((with_reducible refine gate_callee (f := 21) rfl ?_); refine goesT (some 111) Try.func21 #[.slice Ao64 t216.length co64, .int .i64 t230] ?_; (with_reducible refine (laws_heldRowS.calls kj60 _ _ t216 t230 t231 _ ?side1 ?side2 A84.out).mono ?_); (case side1 => exact cT ((Kd.R_reads' HO_10.out).2.2)); (case side2 => exact (Kd.R_reads' HO_10.out).2.1); rintro e w' ⟨rfl, ⟨nd, rfl⟩⟩; refine ⟨_, rfl, ?_⟩))
                  go_ret
                  exact ⟨eT, bT HB⟩
                 ·
                  rw [if_neg c86] at H
                  have c86b0 : (t231 == t215) = false := beq_eq_false_iff_ne.mpr c86
                  have c86b1 : (t231 != t215) = true := bne_iff_ne.mpr c86
                  exact absurd ((Option.some.inj H).trans HT.out) (by simp)
           ·
            rw [if_neg c58] at H
            have c58b0 : (t218 == t215) = false := beq_eq_false_iff_ne.mpr c58
            have c58b1 : (t218 != t215) = true := bne_iff_ne.mpr c58
            exact absurd ((Option.some.inj H).trans HT.out) (by simp)
     ·
      replace c31 := Bool.eq_false_iff.mpr c31
      subst c31
      rw [if_neg (show ¬ (false = true) by decide)] at H
      exact absurd ((Option.some.inj H).trans HT.out) (by simp)

end Go.Proofs.Ythciieopabndcaa.P
