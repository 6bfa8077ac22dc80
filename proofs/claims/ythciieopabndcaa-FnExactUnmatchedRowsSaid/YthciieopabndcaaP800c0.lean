/- Written by tools/seatprint.py over the translation. Lean checks it. -/
import Derived.Test.YthciieopabndcaaP0
import Derived.Test.YthciieopabndcaaP801c0
import Derived.Test.YthciieopabndcaaP811c0
import Derived.Test.YthciieopabndcaaPa50c0
import Derived.Test.YthciieopabndcaaPf3ec0
import Derived.Test.YthciieopabndcaaPf7ec0
namespace Go.Proofs.Ythciieopabndcaa.P
open Go.RowKit Go.Proofs.YthciieopabndcaaW.PrintWords Go.Proofs.YthciieopabndcaaW.PrintLast Go.Proofs.YthciieopabndcaaW.PrintMore
attribute [local go_sem] max2_int min2_int max_two min_two max_three min_three max_four min_four
set_option linter.unusedVariables false
set_option linter.unusedSimpArgs false

/-! ### laws_FnExactUnmatchedRows: function 10 -/
def laws_FnExactUnmatchedRows.j0 : Nat → List (S75) → List (S75) → Bool → Int → List (S64) → List (S64) → List Bool → Int → Option (Bool)
 | 0, _, _, _, _, _, _, _, _ => none
 | k + 1, x4, x6, x42, x726000, x726001, x726002, x726003, x726004 => if x42 = true then (some false) else ((laws_markPairS.f k x6 1).bind fun bt774 => ((laws_heldPairS.f k bt774.2 1).bind fun t776 => (if t776 < 0 then (some false) else (if t776 = bt774.1 then ((laws_toTask.f k x726000 x726001 x726002 x726003 x726004).bind fun bt777 => ((impl_UnmatchedRows.f k bt777.1 bt777.2.1 bt777.2.2.1 bt777.2.2.2.1 bt777.2.2.2.2).bind fun t788 => ((laws_eqPairS.f k t788 x4).bind fun t791 => (if t791 = true then ((laws_heldPairS.f k bt774.2 1).bind fun t792 => (if t792 < 0 then (some false) else (if t792 = bt774.1 then (some true) else (some false)))) else (some false))))) else (some false)))))
def laws_FnExactUnmatchedRows.f (k : Nat) (a0_0 : Int) (l0_1 : List (S64)) (l0_2 : List (S64)) (l0_3 : List Bool) (a0_4 : Int) : Option (Bool) := (laws_szTask.f a0_0 l0_1 l0_2 l0_3 a0_4 1048576).bind fun t726 => (if t726 < 0 then (some true) else ((laws_toTask.f k a0_0 l0_1 l0_2 l0_3 a0_4).bind fun bt727 => ((spec_UnmatchedRows.f k bt727.1 bt727.2.1 bt727.2.2.1 bt727.2.2.2.1 bt727.2.2.2.2).bind fun t738 => ((laws_toTask.f k a0_0 l0_1 l0_2 l0_3 a0_4).bind fun bt741 => ((impl_UnmatchedRows.f k bt741.1 bt741.2.1 bt741.2.2.1 bt741.2.2.2.1 bt741.2.2.2.2).bind fun t753 => ((laws_eqPairS.f k t753 t738).bind fun t756 => (if t756 = true then ((laws_toTask.f k a0_0 l0_1 l0_2 l0_3 a0_4).bind fun bt757 => ((laws_eqTask.f k bt741.1 bt741.2.1 bt741.2.2.1 bt741.2.2.2.1 bt741.2.2.2.2 bt757.1 bt757.2.1 bt757.2.2.1 bt757.2.2.2.1 bt757.2.2.2.2).bind fun t768 => (if t768 = true then ((laws_markTask.f k bt741.1 bt741.2.1 bt741.2.2.1 bt741.2.2.2.1 bt741.2.2.2.2 1).bind fun bt769 => (if bt769.1 < 0 then (laws_FnExactUnmatchedRows.j0 k t738 t753 true a0_0 l0_1 l0_2 l0_3 a0_4) else ((laws_eqPairS.f k t753 t738).bind fun t773 => (laws_FnExactUnmatchedRows.j0 k t738 t753 (!t773) a0_0 l0_1 l0_2 l0_3 a0_4)))) else (some false)))) else (some false))))))))
theorem laws_FnExactUnmatchedRows.mono_l : ∀ k, (∀ y0 y1 y2 y3 y4 y5 y6 y7, LeO (laws_FnExactUnmatchedRows.j0 k y0 y1 y2 y3 y4 y5 y6 y7) (laws_FnExactUnmatchedRows.j0 (k + 1) y0 y1 y2 y3 y4 y5 y6 y7))
 | 0 => fun _ _ _ _ _ _ _ _ r h => by simp [laws_FnExactUnmatchedRows.j0] at h
 | k + 1 => by
  have ih0 := laws_FnExactUnmatchedRows.mono_l k
  ·
   intro y0 y1 y2 y3 y4 y5 y6 y7
   unfold laws_FnExactUnmatchedRows.j0
   repeat' first
   | (with_reducible exact ih0 _ _ _ _ _ _ _ _)
   | (with_reducible exact impl_UnmatchedRows.mono _ _ _ _ _ _)
   | (with_reducible exact laws_eqPairS.mono _ _ _)
   | (with_reducible exact laws_eqTask.mono _ _ _ _ _ _ _ _ _ _ _)
   | (with_reducible exact laws_heldPairS.mono _ _ _)
   | (with_reducible exact laws_markPairS.mono _ _ _)
   | (with_reducible exact laws_markTask.mono _ _ _ _ _ _ _)
   | (with_reducible exact laws_toTask.mono _ _ _ _ _ _)
   | (with_reducible exact spec_UnmatchedRows.mono _ _ _ _ _ _)
   | (with_reducible exact LeO.refl _)
   | (with_reducible exact LeO.none _)
   | (with_reducible refine LeO.ite ?_ ?_)
   | (with_reducible refine LeO.bind ?_ (fun _ => ?_))
   | exact ih0 _ _ _ _ _ _ _ _
   | exact impl_UnmatchedRows.mono _ _ _ _ _ _
   | exact laws_eqPairS.mono _ _ _
   | exact laws_eqTask.mono _ _ _ _ _ _ _ _ _ _ _
   | exact laws_heldPairS.mono _ _ _
   | exact laws_markPairS.mono _ _ _
   | exact laws_markTask.mono _ _ _ _ _ _ _
   | exact laws_toTask.mono _ _ _ _ _ _
   | exact spec_UnmatchedRows.mono _ _ _ _ _ _
   | exact LeO.none _
   | refine LeO.ite ?_ ?_
   | refine LeO.bind ?_ (fun _ => ?_)
theorem laws_FnExactUnmatchedRows.mono : ∀ a0 a1 a2 a3 a4 k, LeO (laws_FnExactUnmatchedRows.f k a0 a1 a2 a3 a4) (laws_FnExactUnmatchedRows.f (k + 1) a0 a1 a2 a3 a4) := by
 intro a0 a1 a2 a3 a4 k
 have ih0 := laws_FnExactUnmatchedRows.mono_l k
 unfold laws_FnExactUnmatchedRows.f
 repeat' first
   | (with_reducible exact ih0 _ _ _ _ _ _ _ _)
   | (with_reducible exact impl_UnmatchedRows.mono _ _ _ _ _ _)
   | (with_reducible exact laws_eqPairS.mono _ _ _)
   | (with_reducible exact laws_eqTask.mono _ _ _ _ _ _ _ _ _ _ _)
   | (with_reducible exact laws_heldPairS.mono _ _ _)
   | (with_reducible exact laws_markPairS.mono _ _ _)
   | (with_reducible exact laws_markTask.mono _ _ _ _ _ _ _)
   | (with_reducible exact laws_toTask.mono _ _ _ _ _ _)
   | (with_reducible exact spec_UnmatchedRows.mono _ _ _ _ _ _)
   | (with_reducible exact LeO.refl _)
   | (with_reducible exact LeO.none _)
   | (with_reducible refine LeO.ite ?_ ?_)
   | (with_reducible refine LeO.bind ?_ (fun _ => ?_))
   | exact ih0 _ _ _ _ _ _ _ _
   | exact impl_UnmatchedRows.mono _ _ _ _ _ _
   | exact laws_eqPairS.mono _ _ _
   | exact laws_eqTask.mono _ _ _ _ _ _ _ _ _ _ _
   | exact laws_heldPairS.mono _ _ _
   | exact laws_markPairS.mono _ _ _
   | exact laws_markTask.mono _ _ _ _ _ _ _
   | exact laws_toTask.mono _ _ _ _ _ _
   | exact spec_UnmatchedRows.mono _ _ _ _ _ _
   | exact LeO.none _
   | refine LeO.ite ?_ ?_
   | refine LeO.bind ?_ (fun _ => ?_)
set_option maxHeartbeats 8000000 in
set_option maxRecDepth 100000 in
theorem laws_FnExactUnmatchedRows.calls (k : Nat) (a0_0 : Int) (A0_1 : Option Addr) (c0_1 : Nat) (l0_1 : List (S64)) (A0_2 : Option Addr) (c0_2 : Nat) (l0_2 : List (S64)) (A0_3 : Option Addr) (c0_3 : Nat) (l0_3 : List Bool) (a0_4 : Int) (r : Bool) (w : World) (hr0_1 : Kd.C k64 w A0_1 l0_1.length l0_1) (hc0_1 : l0_1.length ≤ c0_1) (hr0_2 : Kd.C k64 w A0_2 l0_2.length l0_2) (hc0_2 : l0_2.length ≤ c0_2) (hr0_3 : Kd.C Kd.bool w A0_3 l0_3.length l0_3) (hc0_3 : l0_3.length ≤ c0_3) (ht : r = true) (h : laws_FnExactUnmatchedRows.f k a0_0 l0_1 l0_2 l0_3 a0_4 = some r) :
  Calls Try.prog 10 #[.agg #[.int .i64 a0_0, .slice A0_1 l0_1.length c0_1, .slice A0_2 l0_2.length c0_2, .slice A0_3 l0_3.length c0_3, .int .i64 a0_4]] w fun e w' => e = .returned (.bool r) ∧ Below w.heap.size w w' := by
 have hu33 := Try.underlying33
 have hu37 := Try.underlying37
 have HR0_1 := mA hr0_1
 have HC0_1 := mA hc0_1
 clear hr0_1 hc0_1
 have HR0_2 := mA hr0_2
 have HC0_2 := mA hc0_2
 clear hr0_2 hc0_2
 have HR0_3 := mA hr0_3
 have HC0_3 := mA hc0_3
 clear hr0_3 hc0_3
 have HB := mA (Below.refl w.heap.size w)
 have HT := mA ht
 clear ht
 have H : ((laws_szTask.f a0_0 l0_1 l0_2 l0_3 a0_4 1048576).bind fun t726 => (if t726 < 0 then (some true) else ((laws_toTask.f k a0_0 l0_1 l0_2 l0_3 a0_4).bind fun bt727 => ((spec_UnmatchedRows.f k bt727.1 bt727.2.1 bt727.2.2.1 bt727.2.2.2.1 bt727.2.2.2.2).bind fun t738 => ((laws_toTask.f k a0_0 l0_1 l0_2 l0_3 a0_4).bind fun bt741 => ((impl_UnmatchedRows.f k bt741.1 bt741.2.1 bt741.2.2.1 bt741.2.2.2.1 bt741.2.2.2.2).bind fun t753 => ((laws_eqPairS.f k t753 t738).bind fun t756 => (if t756 = true then ((laws_toTask.f k a0_0 l0_1 l0_2 l0_3 a0_4).bind fun bt757 => ((laws_eqTask.f k bt741.1 bt741.2.1 bt741.2.2.1 bt741.2.2.2.1 bt741.2.2.2.2 bt757.1 bt757.2.1 bt757.2.2.1 bt757.2.2.2.1 bt757.2.2.2.2).bind fun t768 => (if t768 = true then ((laws_markTask.f k bt741.1 bt741.2.1 bt741.2.2.1 bt741.2.2.2.1 bt741.2.2.2.2 1).bind fun bt769 => (if bt769.1 < 0 then (laws_FnExactUnmatchedRows.j0 k t738 t753 true a0_0 l0_1 l0_2 l0_3 a0_4) else ((laws_eqPairS.f k t753 t738).bind fun t773 => (laws_FnExactUnmatchedRows.j0 k t738 t753 (!t773) a0_0 l0_1 l0_2 l0_3 a0_4)))) else (some false)))) else (some false))))))))) = some r := h
 clear h
 obtain ⟨t726, A2, H⟩ := Option.bind_eq_some_iff.mp H
 replace A2 := mA A2
 try dsimp only at H
 by_cases c3 : t726 < 0
 ·
  rw [if_pos c3] at H
  have c3b0 : decide (t726 < 0) = true := decide_eq_true c3
  clear c3
  obtain rfl := Option.some.inj H
  go_enter Try.func10, Try.ntmps10
  go_wp2_with (first | ((with_reducible refine gate_dst (N := 1) rfl ?_); refine boxT 1 #[.int .i64 a0_0, .slice A0_1 l0_1.length c0_1, .slice A0_2 l0_2.length c0_2, .slice A0_3 l0_3.length c0_3, .int .i64 a0_4] 33 ?_; intro gb725 hg w4 hbox hb; have BK725 := mA (hbox); have GW725 := mA ((by rw [hg]; exact (below_size (bT HB)) : w.heap.size ≤ gb725)); have GE725 := GW725; replace HB := mA (below_step (bT HB) hb); clear hb hbox hg; obtain ⟨hcz5_0, hcz5_1, hcz5_2, hcz5_3, hcz5_4, hfz5_0, hfz5_1, hfz5_2, hfz5_3, hfz5_4⟩ := blk5 BK725.out) | ((with_reducible refine gate_callee (f := 22) rfl ?_); refine goesT (some 13) Try.func22 #[.agg #[.int .i64 a0_0, .slice A0_1 l0_1.length c0_1, .slice A0_2 l0_2.length c0_2, .slice A0_3 l0_3.length c0_3, .int .i64 a0_4], .int .i64 1048576] ?_; (with_reducible refine (laws_szTask.calls a0_0 _ _ l0_1 _ _ l0_2 _ _ l0_3 a0_4 1048576 t726 _ ?side1 ?side2 ?side3 ?side4 ?side5 ?side6 A2.out).mono ?_); (case side1 => exact cT (Kd.C_below HR0_1.out HB.out)); (case side2 => exact HC0_1.out); (case side3 => exact cT (Kd.C_below HR0_2.out HB.out)); (case side4 => exact HC0_2.out); (case side5 => exact cT (Kd.C_below HR0_3.out HB.out)); (case side6 => exact HC0_3.out); rintro e w6 ⟨rfl, hb⟩; refine ⟨_, rfl, ?_⟩; replace HB := mA (below_step (bT1 HB GE725) hb); (try clear hb)))
  go_ret
  exact ⟨eT, bT1 HB GE725⟩
 ·
  rw [if_neg c3] at H
  have c3b0 : decide (t726 < 0) = false := decide_eq_false c3
  clear c3
  obtain ⟨⟨t727, t728, t731, t734, t737⟩, A7, H⟩ := Option.bind_eq_some_iff.mp H
  replace A7 := mA A7
  try dsimp only at H
  obtain ⟨t738, A8, H⟩ := Option.bind_eq_some_iff.mp H
  replace A8 := mA A8
  try dsimp only at H
  obtain ⟨⟨t741, t742, t745, t748, t751⟩, A9, H⟩ := Option.bind_eq_some_iff.mp H
  replace A9 := mA A9
  try dsimp only at H
  obtain ⟨t753, A10, H⟩ := Option.bind_eq_some_iff.mp H
  replace A10 := mA A10
  try dsimp only at H
  obtain ⟨t756, A11, H⟩ := Option.bind_eq_some_iff.mp H
  replace A11 := mA A11
  try dsimp only at H
  by_cases c12 : t756 = true
  ·
   subst c12
   rw [if_pos rfl] at H
   obtain ⟨⟨t757, t758, t761, t764, t767⟩, A13, H⟩ := Option.bind_eq_some_iff.mp H
   replace A13 := mA A13
   try dsimp only at H
   obtain ⟨t768, A14, H⟩ := Option.bind_eq_some_iff.mp H
   replace A14 := mA A14
   try dsimp only at H
   by_cases c15 : t768 = true
   ·
    subst c15
    rw [if_pos rfl] at H
    obtain ⟨⟨t769, t770, t771, t772⟩, A16, H⟩ := Option.bind_eq_some_iff.mp H
    replace A16 := mA A16
    try dsimp only at H
    have HC17 := mA H
    clear H
    go_enter Try.func10, Try.ntmps10
    try go_wp2_with (first | ((with_reducible refine gate_dst (N := 1) rfl ?_); refine boxT 1 #[.int .i64 a0_0, .slice A0_1 l0_1.length c0_1, .slice A0_2 l0_2.length c0_2, .slice A0_3 l0_3.length c0_3, .int .i64 a0_4] 33 ?_; intro gb725 hg w18 hbox hb; have BK725 := mA (hbox); have GW725 := mA ((by rw [hg]; exact (below_size (bT HB)) : w.heap.size ≤ gb725)); have GE725 := GW725; replace HB := mA (below_step (bT HB) hb); clear hb hbox hg; obtain ⟨hcz19_0, hcz19_1, hcz19_2, hcz19_3, hcz19_4, hfz19_0, hfz19_1, hfz19_2, hfz19_3, hfz19_4⟩ := blk5 BK725.out) | ((with_reducible refine gate_callee (f := 22) rfl ?_); refine goesT (some 13) Try.func22 #[.agg #[.int .i64 a0_0, .slice A0_1 l0_1.length c0_1, .slice A0_2 l0_2.length c0_2, .slice A0_3 l0_3.length c0_3, .int .i64 a0_4], .int .i64 1048576] ?_; (with_reducible refine (laws_szTask.calls a0_0 _ _ l0_1 _ _ l0_2 _ _ l0_3 a0_4 1048576 t726 _ ?side1 ?side2 ?side3 ?side4 ?side5 ?side6 A2.out).mono ?_); (case side1 => exact cT (Kd.C_below HR0_1.out HB.out)); (case side2 => exact HC0_1.out); (case side3 => exact cT (Kd.C_below HR0_2.out HB.out)); (case side4 => exact HC0_2.out); (case side5 => exact cT (Kd.C_below HR0_3.out HB.out)); (case side6 => exact HC0_3.out); rintro e w20 ⟨rfl, hb⟩; refine ⟨_, rfl, ?_⟩; replace BK725 := kB BK725 hb; replace HB := mA (below_step (bT1 HB GE725) hb); (try clear hb); (try clear hk); obtain ⟨hcz21_0, hcz21_1, hcz21_2, hcz21_3, hcz21_4, hfz21_0, hfz21_1, hfz21_2, hfz21_3, hfz21_4⟩ := blk5 BK725.out) | ((with_reducible refine gate_callee (f := 24) rfl ?_); refine goesT (some 17) Try.func24 #[.agg #[.int .i64 a0_0, .slice A0_1 l0_1.length c0_1, .slice A0_2 l0_2.length c0_2, .slice A0_3 l0_3.length c0_3, .int .i64 a0_4]] ?_; (with_reducible refine (laws_toTask.calls k a0_0 _ _ l0_1 _ _ l0_2 _ _ l0_3 a0_4 t727 t728 t731 t734 t737 _ ?side1 ?side2 ?side3 ?side4 ?side5 ?side6 A7.out).mono ?_); (case side1 => exact cT (Kd.C_below HR0_1.out HB.out)); (case side2 => exact HC0_1.out); (case side3 => exact cT (Kd.C_below HR0_2.out HB.out)); (case side4 => exact HC0_2.out); (case side5 => exact cT (Kd.C_below HR0_3.out HB.out)); (case side6 => exact HC0_3.out); rintro e w22 ⟨v729, v732, v735, rfl, ho0, ho1, ho2, hb⟩; refine ⟨_, rfl, ?_⟩; have HO730 := mA (Kd.R_lower ho0 (below_size (bT1 HB GE725))); have HO733 := mA (Kd.R_lower ho1 (below_size (bT1 HB GE725))); have HO736 := mA (Kd.R_lower ho2 (below_size (bT1 HB GE725))); replace BK725 := kB BK725 hb; replace HB := mA (below_step (bT1 HB GE725) hb); (try clear hb); (try clear hk); (try clear ho0); (try clear ho1); (try clear ho2); obtain ⟨Ao23, co23, eo23⟩ := Kd.R_slice HO730.out; subst eo23; obtain ⟨Ao24, co24, eo24⟩ := Kd.R_slice HO733.out; subst eo24; obtain ⟨Ao25, co25, eo25⟩ := Kd.R_slice HO736.out; subst eo25) | ((with_reducible refine gate_callee (f := 39) rfl ?_); refine goesT (some 18) Try.func39 #[.agg #[.int .i64 t727, .slice Ao23 t728.length co23, .slice Ao24 t731.length co24, .slice Ao25 t734.length co25, .int .i64 t737]] ?_; (with_reducible refine (spec_UnmatchedRows.calls k t727 _ _ t728 _ _ t731 _ _ t734 t737 t738 _ ?side1 ?side2 ?side3 ?side4 ?side5 ?side6 A8.out).mono ?_); (case side1 => exact cT ((Kd.R_reads' HO730.out).2.2)); (case side2 => exact (Kd.R_reads' HO730.out).2.1); (case side3 => exact cT ((Kd.R_reads' HO733.out).2.2)); (case side4 => exact (Kd.R_reads' HO733.out).2.1); (case side5 => exact cT ((Kd.R_reads' HO736.out).2.2)); (case side6 => exact (Kd.R_reads' HO736.out).2.1); rintro e w26 ⟨v739, rfl, ho0, hb⟩; refine ⟨_, rfl, ?_⟩; replace HO730 := rBR HO730 hb; replace HO733 := rBR HO733 hb; replace HO736 := rBR HO736 hb; have HO740 := mA (Kd.R_lower ho0 (below_size (bT1 HB GE725))); replace BK725 := kB BK725 hb; replace HB := mA (below_step (bT1 HB GE725) hb); (try clear hb); (try clear hk); (try clear ho0); obtain ⟨hcz27_0, hcz27_1, hcz27_2, hcz27_3, hcz27_4, hfz27_0, hfz27_1, hfz27_2, hfz27_3, hfz27_4⟩ := blk5 BK725.out) | ((with_reducible refine gate_callee (f := 24) rfl ?_); refine goesT (some 20) Try.func24 #[.agg #[.int .i64 a0_0, .slice A0_1 l0_1.length c0_1, .slice A0_2 l0_2.length c0_2, .slice A0_3 l0_3.length c0_3, .int .i64 a0_4]] ?_; (with_reducible refine (laws_toTask.calls k a0_0 _ _ l0_1 _ _ l0_2 _ _ l0_3 a0_4 t741 t742 t745 t748 t751 _ ?side1 ?side2 ?side3 ?side4 ?side5 ?side6 A9.out).mono ?_); (case side1 => exact cT (Kd.C_below HR0_1.out HB.out)); (case side2 => exact HC0_1.out); (case side3 => exact cT (Kd.C_below HR0_2.out HB.out)); (case side4 => exact HC0_2.out); (case side5 => exact cT (Kd.C_below HR0_3.out HB.out)); (case side6 => exact HC0_3.out); rintro e w28 ⟨v743, v746, v749, rfl, ho0, ho1, ho2, hb⟩; refine ⟨_, rfl, ?_⟩; replace HO740 := rBR HO740 hb; have HO744 := mA (Kd.R_lower (Kd.R_new' (Kd.R_new' ho0 (Kd.R_lt (rTR HO730))) (Kd.R_lt (rTR HO733))) (below_size (bT1 HB GE725))); have HO747 := mA (Kd.R_lower (Kd.R_new' (Kd.R_new' ho1 (Kd.R_lt (rTR HO730))) (Kd.R_lt (rTR HO733))) (below_size (bT1 HB GE725))); replace HO730 := mA (Kd.R_mono (Kd.R_told (Kd.R_told (Kd.R_old (rTR HO730) hb) (Kd.R_base ho0)) (Kd.R_base ho1)) (fun _ h_ => h_.1)); replace HO733 := mA (Kd.R_mono (Kd.R_told (Kd.R_told (Kd.R_old (rTR HO733) hb) (Kd.R_base ho0)) (Kd.R_base ho1)) (fun _ h_ => h_.1)); have HO750 := mA (Kd.R_lower (Kd.R_new' ho2 (Kd.R_lt (rTR HO736))) (below_size (bT1 HB GE725))); replace HO736 := mA (Kd.R_elder' (rTR HO736) (Kd.R_base ho2) hb); replace BK725 := kB BK725 hb; replace HB := mA (below_step (bT1 HB GE725) hb); (try clear hb); (try clear hk); (try clear ho0); (try clear ho1); (try clear ho2)) | ((with_reducible refine gate_dst (N := 5) rfl ?_); refine boxT 5 #[.int .i64 0, .slice none 0 0, .slice none 0 0, .slice none 0 0, .int .i64 0] 37 ?_; intro gb752 hg w29 hbox hb; replace HO730 := rBR HO730 hb; replace HO733 := rBR HO733 hb; replace HO736 := rBR HO736 hb; replace HO740 := rBR HO740 hb; replace HO744 := rBR HO744 hb; replace HO747 := rBR HO747 hb; replace HO750 := rBR HO750 hb; have BK752 := mA (hbox); have GW752 := mA ((by rw [hg]; exact (below_size (bT1 HB GE725)) : w.heap.size ≤ gb752)); have GE752 := GW752; replace HB := mA (below_step (bT1 HB GE725) hb); have NB725_752 : Aside0 (gb725 ≠ gb752) := nL BK725 hg; have NB752_725 : Aside0 (gb752 ≠ gb725) := nG BK725 hg; replace BK725 := kB BK725 hb; clear hb hbox hg; have hnb30 := NB752_725.out; have hnc30 := NB725_752.out; obtain ⟨hcz31_0, hcz31_1, hcz31_2, hcz31_3, hcz31_4, hfz31_0, hfz31_1, hfz31_2, hfz31_3, hfz31_4⟩ := blk5 BK752.out; obtain ⟨Ao32, co32, eo32⟩ := Kd.R_slice HO744.out; subst eo32; obtain ⟨Ao33, co33, eo33⟩ := Kd.R_slice HO747.out; subst eo33; obtain ⟨Ao34, co34, eo34⟩ := Kd.R_slice HO750.out; subst eo34) | ((with_reducible refine gate_callee (f := 40) rfl ?_); refine goesT (some 22) Try.func40 #[.agg #[.int .i64 t741, .slice Ao32 t742.length co32, .slice Ao33 t745.length co33, .slice Ao34 t748.length co34, .int .i64 t751]] ?_; (with_reducible refine (impl_UnmatchedRows.calls k t741 _ _ t742 _ _ t745 _ _ t748 t751 t753 _ ?side1 ?side2 ?side3 ?side4 ?side5 ?side6 A10.out).mono ?_); (case side1 => refine (Kd.R_reads' (e := 62) (base := w.heap.size) (ok := fun k_ => ((some k_ ≠ (.slice Ao33 t745.length co33 : Value).ownBlock ∧ some k_ ≠ (.slice Ao23 t728.length co23 : Value).ownBlock) ∧ some k_ ≠ (.slice Ao24 t731.length co24 : Value).ownBlock)) (n := t742.length) (c := co32) ?_).2.2; exact (by (with_reducible repeat (first | apply Kd.R_alloc | apply Kd.R_drewN | apply Kd.R_drew)); exact (Kd.R_mono (Kd.R_far (p := ⟨gb752, 4, none⟩) (Kd.R_far (p := ⟨gb752, 3, none⟩) (Kd.R_far (p := ⟨gb752, 2, none⟩) (Kd.R_far (p := ⟨gb752, 1, none⟩) (Kd.R_far (p := ⟨gb752, 0, none⟩) (Kd.R_types HO744.out BK752.out (by decide)) (fun _ hk => hk.2) (.int .i64 t741)) (fun _ hk => hk.2) (.slice Ao32 t742.length co32)) (fun _ hk => hk.2) (.slice Ao33 t745.length co33)) (fun _ hk => hk.2) (.slice Ao34 t748.length co34)) (fun _ hk => hk.2) (.int .i64 t751)) (fun _ h_ => h_.1)))); (case side2 => exact (Kd.R_reads' HO744.out).2.1); (case side3 => refine (Kd.R_reads' (e := 62) (base := w.heap.size) (ok := fun k_ => ((some k_ ≠ (.slice Ao32 t742.length co32 : Value).ownBlock ∧ some k_ ≠ (.slice Ao23 t728.length co23 : Value).ownBlock) ∧ some k_ ≠ (.slice Ao24 t731.length co24 : Value).ownBlock)) (n := t745.length) (c := co33) ?_).2.2; exact (by (with_reducible repeat (first | apply Kd.R_alloc | apply Kd.R_drewN | apply Kd.R_drew)); exact (Kd.R_mono (Kd.R_far (p := ⟨gb752, 4, none⟩) (Kd.R_far (p := ⟨gb752, 3, none⟩) (Kd.R_far (p := ⟨gb752, 2, none⟩) (Kd.R_far (p := ⟨gb752, 1, none⟩) (Kd.R_far (p := ⟨gb752, 0, none⟩) (Kd.R_types HO747.out BK752.out (by decide)) (fun _ hk => hk.2) (.int .i64 t741)) (fun _ hk => hk.2) (.slice Ao32 t742.length co32)) (fun _ hk => hk.2) (.slice Ao33 t745.length co33)) (fun _ hk => hk.2) (.slice Ao34 t748.length co34)) (fun _ hk => hk.2) (.int .i64 t751)) (fun _ h_ => h_.1)))); (case side4 => exact (Kd.R_reads' HO747.out).2.1); (case side5 => refine (Kd.R_reads' (e := 4) (base := w.heap.size) (ok := fun k_ => (True ∧ some k_ ≠ (.slice Ao25 t734.length co25 : Value).ownBlock)) (n := t748.length) (c := co34) ?_).2.2; exact (by (with_reducible repeat (first | apply Kd.R_alloc | apply Kd.R_drewN | apply Kd.R_drew)); exact (Kd.R_mono (Kd.R_far (p := ⟨gb752, 4, none⟩) (Kd.R_far (p := ⟨gb752, 3, none⟩) (Kd.R_far (p := ⟨gb752, 2, none⟩) (Kd.R_far (p := ⟨gb752, 1, none⟩) (Kd.R_far (p := ⟨gb752, 0, none⟩) (Kd.R_types HO750.out BK752.out (by decide)) (fun _ hk => hk.2) (.int .i64 t741)) (fun _ hk => hk.2) (.slice Ao32 t742.length co32)) (fun _ hk => hk.2) (.slice Ao33 t745.length co33)) (fun _ hk => hk.2) (.slice Ao34 t748.length co34)) (fun _ hk => hk.2) (.int .i64 t751)) (fun _ h_ => h_.1)))); (case side6 => exact (Kd.R_reads' HO750.out).2.1); rintro e w35 ⟨v754, rfl, ho0, hb⟩; refine ⟨_, rfl, ?_⟩; replace HO730 := mA (Kd.R_below (by (with_reducible repeat (first | apply Kd.R_alloc | apply Kd.R_drewN | apply Kd.R_drew)); exact (Kd.R_mono (Kd.R_far (p := ⟨gb752, 4, none⟩) (Kd.R_far (p := ⟨gb752, 3, none⟩) (Kd.R_far (p := ⟨gb752, 2, none⟩) (Kd.R_far (p := ⟨gb752, 1, none⟩) (Kd.R_far (p := ⟨gb752, 0, none⟩) (Kd.R_types HO730.out BK752.out (by decide)) (fun _ hk => hk.2) (.int .i64 t741)) (fun _ hk => hk.2) (.slice Ao32 t742.length co32)) (fun _ hk => hk.2) (.slice Ao33 t745.length co33)) (fun _ hk => hk.2) (.slice Ao34 t748.length co34)) (fun _ hk => hk.2) (.int .i64 t751)) (fun _ h_ => h_.1))) hb); replace HO733 := mA (Kd.R_below (by (with_reducible repeat (first | apply Kd.R_alloc | apply Kd.R_drewN | apply Kd.R_drew)); exact (Kd.R_mono (Kd.R_far (p := ⟨gb752, 4, none⟩) (Kd.R_far (p := ⟨gb752, 3, none⟩) (Kd.R_far (p := ⟨gb752, 2, none⟩) (Kd.R_far (p := ⟨gb752, 1, none⟩) (Kd.R_far (p := ⟨gb752, 0, none⟩) (Kd.R_types HO733.out BK752.out (by decide)) (fun _ hk => hk.2) (.int .i64 t741)) (fun _ hk => hk.2) (.slice Ao32 t742.length co32)) (fun _ hk => hk.2) (.slice Ao33 t745.length co33)) (fun _ hk => hk.2) (.slice Ao34 t748.length co34)) (fun _ hk => hk.2) (.int .i64 t751)) (fun _ h_ => h_.1))) hb); replace HO736 := mA (Kd.R_below (by (with_reducible repeat (first | apply Kd.R_alloc | apply Kd.R_drewN | apply Kd.R_drew)); exact (Kd.R_mono (Kd.R_far (p := ⟨gb752, 4, none⟩) (Kd.R_far (p := ⟨gb752, 3, none⟩) (Kd.R_far (p := ⟨gb752, 2, none⟩) (Kd.R_far (p := ⟨gb752, 1, none⟩) (Kd.R_far (p := ⟨gb752, 0, none⟩) (Kd.R_types HO736.out BK752.out (by decide)) (fun _ hk => hk.2) (.int .i64 t741)) (fun _ hk => hk.2) (.slice Ao32 t742.length co32)) (fun _ hk => hk.2) (.slice Ao33 t745.length co33)) (fun _ hk => hk.2) (.slice Ao34 t748.length co34)) (fun _ hk => hk.2) (.int .i64 t751)) (fun _ h_ => h_.1))) hb); replace HO744 := mA (Kd.R_below (by (with_reducible repeat (first | apply Kd.R_alloc | apply Kd.R_drewN | apply Kd.R_drew)); exact (Kd.R_mono (Kd.R_far (p := ⟨gb752, 4, none⟩) (Kd.R_far (p := ⟨gb752, 3, none⟩) (Kd.R_far (p := ⟨gb752, 2, none⟩) (Kd.R_far (p := ⟨gb752, 1, none⟩) (Kd.R_far (p := ⟨gb752, 0, none⟩) (Kd.R_types HO744.out BK752.out (by decide)) (fun _ hk => hk.2) (.int .i64 t741)) (fun _ hk => hk.2) (.slice Ao32 t742.length co32)) (fun _ hk => hk.2) (.slice Ao33 t745.length co33)) (fun _ hk => hk.2) (.slice Ao34 t748.length co34)) (fun _ hk => hk.2) (.int .i64 t751)) (fun _ h_ => h_.1))) hb); replace HO747 := mA (Kd.R_below (by (with_reducible repeat (first | apply Kd.R_alloc | apply Kd.R_drewN | apply Kd.R_drew)); exact (Kd.R_mono (Kd.R_far (p := ⟨gb752, 4, none⟩) (Kd.R_far (p := ⟨gb752, 3, none⟩) (Kd.R_far (p := ⟨gb752, 2, none⟩) (Kd.R_far (p := ⟨gb752, 1, none⟩) (Kd.R_far (p := ⟨gb752, 0, none⟩) (Kd.R_types HO747.out BK752.out (by decide)) (fun _ hk => hk.2) (.int .i64 t741)) (fun _ hk => hk.2) (.slice Ao32 t742.length co32)) (fun _ hk => hk.2) (.slice Ao33 t745.length co33)) (fun _ hk => hk.2) (.slice Ao34 t748.length co34)) (fun _ hk => hk.2) (.int .i64 t751)) (fun _ h_ => h_.1))) hb); replace HO750 := mA (Kd.R_below (by (with_reducible repeat (first | apply Kd.R_alloc | apply Kd.R_drewN | apply Kd.R_drew)); exact (Kd.R_mono (Kd.R_far (p := ⟨gb752, 4, none⟩) (Kd.R_far (p := ⟨gb752, 3, none⟩) (Kd.R_far (p := ⟨gb752, 2, none⟩) (Kd.R_far (p := ⟨gb752, 1, none⟩) (Kd.R_far (p := ⟨gb752, 0, none⟩) (Kd.R_types HO750.out BK752.out (by decide)) (fun _ hk => hk.2) (.int .i64 t741)) (fun _ hk => hk.2) (.slice Ao32 t742.length co32)) (fun _ hk => hk.2) (.slice Ao33 t745.length co33)) (fun _ hk => hk.2) (.slice Ao34 t748.length co34)) (fun _ hk => hk.2) (.int .i64 t751)) (fun _ h_ => h_.1))) hb); have HO755 := mA (Kd.R_lower (Kd.R_new' ho0 (Kd.R_lt (by (with_reducible repeat (first | apply Kd.R_alloc | apply Kd.R_drewN | apply Kd.R_drew)); exact (Kd.R_mono (Kd.R_far (p := ⟨gb752, 4, none⟩) (Kd.R_far (p := ⟨gb752, 3, none⟩) (Kd.R_far (p := ⟨gb752, 2, none⟩) (Kd.R_far (p := ⟨gb752, 1, none⟩) (Kd.R_far (p := ⟨gb752, 0, none⟩) (Kd.R_types HO740.out BK752.out (by decide)) (fun _ hk => hk.2) (.int .i64 t741)) (fun _ hk => hk.2) (.slice Ao32 t742.length co32)) (fun _ hk => hk.2) (.slice Ao33 t745.length co33)) (fun _ hk => hk.2) (.slice Ao34 t748.length co34)) (fun _ hk => hk.2) (.int .i64 t751)) (fun _ h_ => h_.1))))) (below_size (bT2 HB GE725 GE752))); replace HO740 := mA (Kd.R_elder' (by (with_reducible repeat (first | apply Kd.R_alloc | apply Kd.R_drewN | apply Kd.R_drew)); exact (Kd.R_mono (Kd.R_far (p := ⟨gb752, 4, none⟩) (Kd.R_far (p := ⟨gb752, 3, none⟩) (Kd.R_far (p := ⟨gb752, 2, none⟩) (Kd.R_far (p := ⟨gb752, 1, none⟩) (Kd.R_far (p := ⟨gb752, 0, none⟩) (Kd.R_types HO740.out BK752.out (by decide)) (fun _ hk => hk.2) (.int .i64 t741)) (fun _ hk => hk.2) (.slice Ao32 t742.length co32)) (fun _ hk => hk.2) (.slice Ao33 t745.length co33)) (fun _ hk => hk.2) (.slice Ao34 t748.length co34)) (fun _ hk => hk.2) (.int .i64 t751)) (fun _ h_ => h_.1))) (Kd.R_base ho0) hb); replace BK725 := mA (blk_below (g := gb725) (o := .cells #[.int .i64 a0_0, .slice A0_1 l0_1.length c0_1, .slice A0_2 l0_2.length c0_2, .slice A0_3 l0_3.length c0_3, .int .i64 a0_4] 33 (0, 0)) (by (with_reducible repeat (first | refine blk_drewN ?_ _ | refine blk_drew ?_ | refine blk_alloc ?_ _)); refine blk_far ?_ NB725_752.out _; (with_reducible repeat (first | refine blk_drewN ?_ _ | refine blk_drew ?_ | refine blk_alloc ?_ _)); refine blk_far ?_ NB725_752.out _; (with_reducible repeat (first | refine blk_drewN ?_ _ | refine blk_drew ?_ | refine blk_alloc ?_ _)); refine blk_far ?_ NB725_752.out _; (with_reducible repeat (first | refine blk_drewN ?_ _ | refine blk_drew ?_ | refine blk_alloc ?_ _)); refine blk_far ?_ NB725_752.out _; (with_reducible repeat (first | refine blk_drewN ?_ _ | refine blk_drew ?_ | refine blk_alloc ?_ _)); refine blk_far ?_ NB725_752.out _; (with_reducible repeat (first | refine blk_drewN ?_ _ | refine blk_drew ?_ | refine blk_alloc ?_ _)); exact BK725.out) hb); replace BK752 := mA (blk_below (g := gb752) (o := .cells #[.int .i64 t741, .slice Ao32 t742.length co32, .slice Ao33 t745.length co33, .slice Ao34 t748.length co34, .int .i64 t751] 37 (0, 0)) (by (with_reducible repeat (first | refine blk_drewN ?_ _ | refine blk_drew ?_ | refine blk_alloc ?_ _)); refine blk_put (cs := #[.int .i64 t741, .slice Ao32 t742.length co32, .slice Ao33 t745.length co33, .slice Ao34 t748.length co34, .int .i64 0]) ?_ 4 _ rfl; (with_reducible repeat (first | refine blk_drewN ?_ _ | refine blk_drew ?_ | refine blk_alloc ?_ _)); refine blk_put (cs := #[.int .i64 t741, .slice Ao32 t742.length co32, .slice Ao33 t745.length co33, .slice none 0 0, .int .i64 0]) ?_ 3 _ rfl; (with_reducible repeat (first | refine blk_drewN ?_ _ | refine blk_drew ?_ | refine blk_alloc ?_ _)); refine blk_put (cs := #[.int .i64 t741, .slice Ao32 t742.length co32, .slice none 0 0, .slice none 0 0, .int .i64 0]) ?_ 2 _ rfl; (with_reducible repeat (first | refine blk_drewN ?_ _ | refine blk_drew ?_ | refine blk_alloc ?_ _)); refine blk_put (cs := #[.int .i64 t741, .slice none 0 0, .slice none 0 0, .slice none 0 0, .int .i64 0]) ?_ 1 _ rfl; (with_reducible repeat (first | refine blk_drewN ?_ _ | refine blk_drew ?_ | refine blk_alloc ?_ _)); refine blk_put (cs := #[.int .i64 0, .slice none 0 0, .slice none 0 0, .slice none 0 0, .int .i64 0]) ?_ 0 _ rfl; (with_reducible repeat (first | refine blk_drewN ?_ _ | refine blk_drew ?_ | refine blk_alloc ?_ _)); exact BK752.out) hb); replace HB := mA (below_step (bT2 HB GE725 GE752) hb); (try clear hb); (try clear hk); (try clear ho0); obtain ⟨Ao36, co36, eo36⟩ := Kd.R_slice HO755.out; subst eo36; obtain ⟨Ao37, co37, eo37⟩ := Kd.R_slice HO740.out; subst eo37) | ((with_reducible refine gate_callee (f := 41) rfl ?_); refine goesT (some 25) Try.func41 #[.slice Ao36 t753.length co36, .slice Ao37 t738.length co37] ?_; (with_reducible refine (laws_eqPairS.calls k _ _ t753 _ _ t738 true _ ?side1 ?side2 ?side3 ?side4 A11.out).mono ?_); (case side1 => exact cT ((Kd.R_reads' HO755.out).2.2)); (case side2 => exact (Kd.R_reads' HO755.out).2.1); (case side3 => exact cT ((Kd.R_reads' HO740.out).2.2)); (case side4 => exact (Kd.R_reads' HO740.out).2.1); rintro e w38 ⟨rfl, hb⟩; refine ⟨_, rfl, ?_⟩; replace HO730 := rBR HO730 hb; replace HO733 := rBR HO733 hb; replace HO736 := rBR HO736 hb; replace HO740 := rBR HO740 hb; replace HO744 := rBR HO744 hb; replace HO747 := rBR HO747 hb; replace HO750 := rBR HO750 hb; replace HO755 := rBR HO755 hb; replace BK725 := kB BK725 hb; replace BK752 := kB BK752 hb; replace HB := mA (below_step (bT2 HB GE725 GE752) hb); (try clear hb); (try clear hk)))
    replace HO730 := mA (Kd.R_drew HO730.out)
    replace HO733 := mA (Kd.R_drew HO733.out)
    replace HO736 := mA (Kd.R_drew HO736.out)
    replace HO740 := mA (Kd.R_drew HO740.out)
    replace HO744 := mA (Kd.R_drew HO744.out)
    replace HO747 := mA (Kd.R_drew HO747.out)
    replace HO750 := mA (Kd.R_drew HO750.out)
    replace HO755 := mA (Kd.R_drew HO755.out)
    replace BK725 := mA (blk_drew BK725.out)
    replace BK752 := mA (blk_drew BK752.out)
    replace HB := mA (below_drew1 HB.out)
    refine start_ (n := 5) (S := fun w' => w'.cell? ⟨gb752, 0, none⟩ = some (.int .i64 t741) ∧ w'.cell? ⟨gb752, 1, none⟩ = some (.slice Ao32 t742.length co32) ∧ w'.cell? ⟨gb752, 2, none⟩ = some (.slice Ao33 t745.length co33) ∧ w'.cell? ⟨gb752, 3, none⟩ = some (.slice Ao34 t748.length co34) ∧ w'.cell? ⟨gb752, 4, none⟩ = some (.int .i64 t751) ∧ w'.cell? ⟨gb725, 0, none⟩ = some (.int .i64 a0_0) ∧ w'.cell? ⟨gb725, 1, none⟩ = some (.slice A0_1 l0_1.length c0_1) ∧ w'.cell? ⟨gb725, 2, none⟩ = some (.slice A0_2 l0_2.length c0_2) ∧ w'.cell? ⟨gb725, 3, none⟩ = some (.slice A0_3 l0_3.length c0_3) ∧ w'.cell? ⟨gb725, 4, none⟩ = some (.int .i64 a0_4)) (ds := []) #[false, false, false, false, false] (by kernel_rfl) rfl rfl ⟨(blk_cell BK752.out 0).trans rfl, (blk_cell BK752.out 1).trans rfl, (blk_cell BK752.out 2).trans rfl, (blk_cell BK752.out 3).trans rfl, (blk_cell BK752.out 4).trans rfl, (blk_cell BK725.out 0).trans rfl, (blk_cell BK725.out 1).trans rfl, (blk_cell BK725.out 2).trans rfl, (blk_cell BK725.out 3).trans rfl, (blk_cell BK725.out 4).trans rfl⟩ (fun hHeld => ?_)
    generalize w38.drew = w39 at HO730 HO733 HO736 HO740 HO744 HO747 HO750 HO755 BK725 BK752 HB hHeld ⊢
    refine take_ (i := 0) (N := some 27) (v := ?_) (a' := ?_) #[true, false, false, false, false] rfl rfl (by kernel_rfl) (fun _ _ _ h => h) (Or.inl ⟨by rfl, ?_⟩) hHeld ?_ ?_
    rotate_left
    ·
     rintro w' ⟨s0, s1, s2, s3, s4, s5, s6, s7, s8, s9⟩
     go_simp
     with_reducible rfl
    rotate_left
    ·
     simp only [Act.put, List.setIfInBounds_toArray, List.set_cons_zero, List.set_cons_succ, i64_w, i32_w]
     rfl
    refine take_ (i := 1) (N := some 28) (v := ?_) (a' := ?_) #[true, true, false, false, false] rfl rfl (by kernel_rfl) (fun _ _ _ h => h) (Or.inl ⟨by rfl, ?_⟩) hHeld ?_ ?_
    rotate_left
    ·
     rintro w' ⟨s0, s1, s2, s3, s4, s5, s6, s7, s8, s9⟩
     go_simp
     with_reducible rfl
    rotate_left
    ·
     simp only [Act.put, List.setIfInBounds_toArray, List.set_cons_zero, List.set_cons_succ, i64_w, i32_w]
     rfl
    refine one_ (i := 2) (N := some 29) #[true, true, true, false, false] rfl rfl (by kernel_rfl) (by decide) (fun K hK => ?_)
    refine goes_ Try.func24 (by kernel_rfl) rfl #[.agg #[.int .i64 a0_0, .slice A0_1 l0_1.length c0_1, .slice A0_2 l0_2.length c0_2, .slice A0_3 l0_3.length c0_3, .int .i64 a0_4]] (by rfl) rfl rfl mT ?_
    with_reducible refine (laws_toTask.calls k a0_0 _ _ l0_1 _ _ l0_2 _ _ l0_3 a0_4 t757 t758 t761 t764 t767 _ ?side1 ?side2 ?side3 ?side4 ?side5 ?side6 A13.out).mono ?_
    (case side1 => exact cT (Kd.C_below HR0_1.out HB.out))
    (case side2 => exact HC0_1.out)
    (case side3 => exact cT (Kd.C_below HR0_2.out HB.out))
    (case side4 => exact HC0_2.out)
    (case side5 => exact cT (Kd.C_below HR0_3.out HB.out))
    (case side6 => exact HC0_3.out)
    rintro e w40 ⟨v759, v762, v765, rfl, ho0, ho1, ho2, hb⟩
    refine ⟨_, rfl, ?_⟩
    replace HO740 := rBR HO740 hb
    replace HO755 := rBR HO755 hb
    have HO760 := mA (Kd.R_lower (Kd.R_new' (Kd.R_new' (Kd.R_new' (Kd.R_new' ho0 (Kd.R_lt (rTR HO730))) (Kd.R_lt (rTR HO733))) (Kd.R_lt (rTR HO744))) (Kd.R_lt (rTR HO747))) (below_size (bT2 HB GE725 GE752)))
    have HO763 := mA (Kd.R_lower (Kd.R_new' (Kd.R_new' (Kd.R_new' (Kd.R_new' ho1 (Kd.R_lt (rTR HO730))) (Kd.R_lt (rTR HO733))) (Kd.R_lt (rTR HO744))) (Kd.R_lt (rTR HO747))) (below_size (bT2 HB GE725 GE752)))
    replace HO744 := mA (Kd.R_mono (Kd.R_told (Kd.R_told (Kd.R_old (rTR HO744) hb) (Kd.R_base ho0)) (Kd.R_base ho1)) (fun _ h_ => h_.1))
    replace HO747 := mA (Kd.R_mono (Kd.R_told (Kd.R_told (Kd.R_old (rTR HO747) hb) (Kd.R_base ho0)) (Kd.R_base ho1)) (fun _ h_ => h_.1))
    have HO766 := mA (Kd.R_lower (Kd.R_new' (Kd.R_new' ho2 (Kd.R_lt (rTR HO736))) (Kd.R_lt (rTR HO750))) (below_size (bT2 HB GE725 GE752)))
    replace HO750 := mA (Kd.R_elder' (rTR HO750) (Kd.R_base ho2) hb)
    replace BK725 := kB BK725 hb
    replace BK752 := kB BK752 hb
    replace HB := mA (below_step (bT2 HB GE725 GE752) hb)
    (try clear hb)
    (try clear hb2)
    (try clear hk)
    (try clear hi)
    (try clear ho0)
    (try clear ho1)
    (try clear ho2)
    obtain ⟨Ao41, co41, eo41⟩ := Kd.R_slice HO760.out
    (first | subst eo41 | (injection eo41 with f1_ f2_ f3_; have f4_ := f1_.symm; have f5_ := f3_.symm; clear f1_ f2_ f3_; subst f4_; subst f5_))
    obtain ⟨Ao42, co42, eo42⟩ := Kd.R_slice HO763.out
    (first | subst eo42 | (injection eo42 with f1_ f2_ f3_; have f4_ := f1_.symm; have f5_ := f3_.symm; clear f1_ f2_ f3_; subst f4_; subst f5_))
    obtain ⟨Ao43, co43, eo43⟩ := Kd.R_slice HO766.out
    (first | subst eo43 | (injection eo43 with f1_ f2_ f3_; have f4_ := f1_.symm; have f5_ := f3_.symm; clear f1_ f2_ f3_; subst f4_; subst f5_))
    refine hK.out _ _ ⟨(blk_cell BK752.out 0).trans rfl, (blk_cell BK752.out 1).trans rfl, (blk_cell BK752.out 2).trans rfl, (blk_cell BK752.out 3).trans rfl, (blk_cell BK752.out 4).trans rfl, (blk_cell BK725.out 0).trans rfl, (blk_cell BK725.out 1).trans rfl, (blk_cell BK725.out 2).trans rfl, (blk_cell BK725.out 3).trans rfl, (blk_cell BK725.out 4).trans rfl⟩ (fun hHeld => ?_)
    clear hK K
    refine norm_ (a' := ?_) ?_ ?_
    rotate_left
    ·
     show Act.put _ (some 29) _ = _
     simp only [Act.put, List.setIfInBounds_toArray, List.set_cons_zero, List.set_cons_succ, i64_w, i32_w]
     rfl
    refine one_ (i := 3) (N := some 30) #[true, true, true, true, false] rfl rfl (by kernel_rfl) (by decide) (fun K hK => ?_)
    refine goes_ Try.func26 (by kernel_rfl) rfl #[.agg #[.int .i64 t741, .slice Ao32 t742.length co32, .slice Ao33 t745.length co33, .slice Ao34 t748.length co34, .int .i64 t751], .agg #[.int .i64 t757, .slice Ao41 t758.length co41, .slice Ao42 t761.length co42, .slice Ao43 t764.length co43, .int .i64 t767]] (by rfl) rfl rfl mT ?_
    with_reducible refine (laws_eqTask.calls k t741 _ _ t742 _ _ t745 _ _ t748 t751 t757 _ _ t758 _ _ t761 _ _ t764 t767 true _ ?side1 ?side2 ?side3 ?side4 ?side5 ?side6 ?side7 ?side8 ?side9 ?side10 ?side11 ?side12 A14.out).mono ?_
    (case side1 => exact cT ((Kd.R_reads' HO744.out).2.2))
    (case side2 => exact (Kd.R_reads' HO744.out).2.1)
    (case side3 => exact cT ((Kd.R_reads' HO747.out).2.2))
    (case side4 => exact (Kd.R_reads' HO747.out).2.1)
    (case side5 => exact cT ((Kd.R_reads' HO750.out).2.2))
    (case side6 => exact (Kd.R_reads' HO750.out).2.1)
    (case side7 => exact cT ((Kd.R_reads' HO760.out).2.2))
    (case side8 => exact (Kd.R_reads' HO760.out).2.1)
    (case side9 => exact cT ((Kd.R_reads' HO763.out).2.2))
    (case side10 => exact (Kd.R_reads' HO763.out).2.1)
    (case side11 => exact cT ((Kd.R_reads' HO766.out).2.2))
    (case side12 => exact (Kd.R_reads' HO766.out).2.1)
    rintro e w44 ⟨rfl, hb⟩
    refine ⟨_, rfl, ?_⟩
    replace HO740 := rBR HO740 hb
    replace HO744 := rBR HO744 hb
    replace HO747 := rBR HO747 hb
    replace HO750 := rBR HO750 hb
    replace HO755 := rBR HO755 hb
    replace BK725 := kB BK725 hb
    replace BK752 := kB BK752 hb
    replace HB := mA (below_step (bT2 HB GE725 GE752) hb)
    (try clear hb)
    (try clear hb2)
    (try clear hk)
    (try clear hi)
    refine hK.out _ _ ⟨(blk_cell BK752.out 0).trans rfl, (blk_cell BK752.out 1).trans rfl, (blk_cell BK752.out 2).trans rfl, (blk_cell BK752.out 3).trans rfl, (blk_cell BK752.out 4).trans rfl, (blk_cell BK725.out 0).trans rfl, (blk_cell BK725.out 1).trans rfl, (blk_cell BK725.out 2).trans rfl, (blk_cell BK725.out 3).trans rfl, (blk_cell BK725.out 4).trans rfl⟩ (fun hHeld => ?_)
    clear hK K
    refine norm_ (a' := ?_) ?_ ?_
    rotate_left
    ·
     show Act.put _ (some 30) _ = _
     simp only [Act.put, List.setIfInBounds_toArray, List.set_cons_zero, List.set_cons_succ, i64_w, i32_w]
     rfl
    refine pureT (i := 4) (N := some 31) #[true, true, true, true, true] (by kernel_rfl) ?_
    refine done_ (by kernel_rfl) ?_
    have hcz45_0 : w44.cell? ⟨gb752, 0, none⟩ = some (.int .i64 t741) := (blk_cell BK752.out 0).trans rfl
    have hcz45_1 : w44.cell? ⟨gb752, 1, none⟩ = some (.slice Ao32 t742.length co32) := (blk_cell BK752.out 1).trans rfl
    have hcz45_2 : w44.cell? ⟨gb752, 2, none⟩ = some (.slice Ao33 t745.length co33) := (blk_cell BK752.out 2).trans rfl
    have hcz45_3 : w44.cell? ⟨gb752, 3, none⟩ = some (.slice Ao34 t748.length co34) := (blk_cell BK752.out 3).trans rfl
    have hcz45_4 : w44.cell? ⟨gb752, 4, none⟩ = some (.int .i64 t751) := (blk_cell BK752.out 4).trans rfl
    have hfz45_0 := blk_frozen BK752.out 0
    have hfz45_1 := blk_frozen BK752.out 1
    have hfz45_2 := blk_frozen BK752.out 2
    have hfz45_3 := blk_frozen BK752.out 3
    have hfz45_4 := blk_frozen BK752.out 4
    go_upto_region 14 with (first | ((with_reducible refine gate_callee (f := 35) rfl ?_); refine goesT (some 34) Try.func35 #[.agg #[.int .i64 t741, .slice Ao32 t742.length co32, .slice Ao33 t745.length co33, .slice Ao34 t748.length co34, .int .i64 t751], .int .i64 1] ?_; (with_reducible refine (laws_markTask.calls k t741 (fun k_ => some k_ = (.slice Ao32 t742.length co32 : Value).ownBlock) (.slice Ao32 t742.length co32) t742 (fun k_ => some k_ = (.slice Ao33 t745.length co33 : Value).ownBlock) (.slice Ao33 t745.length co33) t745 (fun k_ => some k_ = (.slice Ao34 t748.length co34 : Value).ownBlock) (.slice Ao34 t748.length co34) t748 t751 1 t769 t770 t771 t772 w _ ?side1 ?side2 ?side3 ?side4 ?side5 ?side6 A16.out).mono ?_); (case side1 => repeat (first | (with_reducible first | exact HB.out | apply below_alloc | apply pw_below_drewN | apply below_drew1 | refine below_set ?_ GE725.out | refine below_set ?_ GE752.out) | exact HB.out)); (case side2 => exact Kd.R_tight rfl HO744.out); (case side3 => exact fun k_ e_ => (HO744.out.1 k_ e_.symm).1.1.1.1); (case side4 => exact Kd.R_tight rfl HO747.out); (case side5 => exact fun k_ e_ => (HO747.out.1 k_ e_.symm).1.1.1.1); (case side6 => exact Kd.R_tight rfl HO750.out); rintro e w46 ⟨rfl, hy0, hy1, hy2, hb, hkp⟩; refine ⟨_, rfl, ?_⟩; replace BK725 := mA (blk_kept (kT BK725) hkp (fun hs_ => Or.elim hs_ (fun e_ => (fun e_ => (Kd.R_ne HO744.out BK725.out (by decide)) e_) e_) (fun e_ => Or.elim e_ (fun e_ => (fun e_ => (Kd.R_ne HO747.out BK725.out (by decide)) e_) e_) (fun e_ => (fun e_ => (Kd.R_ne HO750.out BK725.out (by decide)) e_) e_)))); replace HO740 := mA (Kd.R_mono (ok' := fun k_ => some k_ ≠ (.slice Ao36 t753.length co36 : Value).ownBlock) (Kd.R_keptB ((Kd.R_apart' (Kd.R_apart' (Kd.R_apart' HO740.out (Kd.R_typed HO744.out) (by decide)) (Kd.R_typed HO747.out) (by decide)) (Kd.R_typed HO750.out) (by decide))) hkp (fun k_ hk_ hs_ => Or.elim hs_ (fun e_ => (hk_.1.1.2) e_) (fun e_ => Or.elim e_ (fun e_ => (hk_.1.2) e_) (fun e_ => (hk_.2) e_)))) (fun k_ hk_ => hk_.1.1.1.1.2)); replace BK752 := mA (blk_kept (kT BK752) hkp (fun hs_ => Or.elim hs_ (fun e_ => (fun e_ => (Kd.R_ne HO744.out BK752.out (by decide)) e_) e_) (fun e_ => Or.elim e_ (fun e_ => (fun e_ => (Kd.R_ne HO747.out BK752.out (by decide)) e_) e_) (fun e_ => (fun e_ => (Kd.R_ne HO750.out BK752.out (by decide)) e_) e_)))); replace HO755 := mA (Kd.R_mono (ok' := fun k_ => some k_ ≠ (.slice Ao37 t738.length co37 : Value).ownBlock) (Kd.R_keptB ((Kd.R_apart' (Kd.R_apart' (Kd.R_apart' HO755.out (Kd.R_typed HO744.out) (by decide)) (Kd.R_typed HO747.out) (by decide)) (Kd.R_typed HO750.out) (by decide))) hkp (fun k_ hk_ hs_ => Or.elim hs_ (fun e_ => (hk_.1.1.2) e_) (fun e_ => Or.elim e_ (fun e_ => (hk_.1.2) e_) (fun e_ => (hk_.2) e_)))) (fun k_ hk_ => hk_.1.1.1.1.2)); replace HO750 := mA (Kd.R_reok rfl hy2 (fun k_ e_ => HO750.out.1 k_ e_)); replace HO744 := mA (Kd.R_reok rfl hy0 (fun k_ e_ => HO744.out.1 k_ e_)); replace HO747 := mA (Kd.R_reok rfl hy1 (fun k_ e_ => HO747.out.1 k_ e_)); replace HB := mA (hb); (try clear hb); (try clear hkp); (try clear hy0); (try clear hy1); (try clear hy2)))
    (try simp only [Act.put, List.setIfInBounds_toArray, List.set_cons_zero, List.set_cons_succ])
    go_cut [42] (fun v42 wc => ∃ (kq : Nat) (x42_16 : Bool), v42 = .bool x42_16 ∧ Aside0 (laws_FnExactUnmatchedRows.j0 kq t738 t753 x42_16 a0_0 l0_1 l0_2 l0_3 a0_4 = some r) ∧ Aside0 (kq ≤ k) ∧ Aside0 (Kd.R k75 75 wc w.heap.size (fun k_ => some k_ ≠ ((.slice Ao36 t753.length co36) : Value).ownBlock) (.slice Ao37 t738.length co37) t738) ∧ Aside0 (Kd.R k75 75 wc w.heap.size (fun k_ => some k_ ≠ ((.slice Ao37 t738.length co37) : Value).ownBlock) (.slice Ao36 t753.length co36) t753) ∧ Aside0 (Kd.R k62 62 wc w.heap.size (fun k_ => some k_ ≠ ((.slice Ao33 t745.length co33) : Value).ownBlock) (.slice Ao32 t742.length co32) t770) ∧ Aside0 (Kd.R k62 62 wc w.heap.size (fun k_ => some k_ ≠ ((.slice Ao32 t742.length co32) : Value).ownBlock) (.slice Ao33 t745.length co33) t771) ∧ Aside0 (Kd.R Kd.bool 4 wc w.heap.size (fun _ => True) (.slice Ao34 t748.length co34) t772) ∧ Aside0 (wc.heap[gb725]? = some (.cells #[.int .i64 a0_0, (.slice A0_1 l0_1.length c0_1), (.slice A0_2 l0_2.length c0_2), (.slice A0_3 l0_3.length c0_3), .int .i64 a0_4] 33 (0, 0))) ∧ Aside0 (wc.heap[gb752]? = some (.cells #[.int .i64 t741, (.slice Ao32 t742.length co32), (.slice Ao33 t745.length co33), (.slice Ao34 t748.length co34), .int .i64 t751] 37 (0, 0))) ∧ Aside0 (Below w.heap.size w wc))
    case first =>
     have H := HC17.out
     clear HC17
     by_cases c47 : t769 < 0
     ·
      rw [if_pos c47] at H
      have c47b0 : decide (t769 < 0) = true := decide_eq_true c47
      clear c47
      (first | rw [c47b0] | (simp only [i64_w, i32_w]; rw [c47b0]) | skip)
      have H' := mA H
      clear H
      go_wp2
      go_meet
      case rel => exact ⟨_, (true), sT, H', ⟨by first | omega | exact Nat.le_refl _⟩, ⟨rTR HO740⟩, ⟨rTR HO755⟩, ⟨by (with_reducible repeat (first | apply Kd.R_alloc | apply Kd.R_drewN | apply Kd.R_drew)); exact Kd.R_mono HO744.out (fun _ hk => hk.1.1.1.1)⟩, ⟨by (with_reducible repeat (first | apply Kd.R_alloc | apply Kd.R_drewN | apply Kd.R_drew)); exact Kd.R_mono HO747.out (fun _ hk => hk.1.1.1.1)⟩, ⟨by (with_reducible repeat (first | apply Kd.R_alloc | apply Kd.R_drewN | apply Kd.R_drew)); exact Kd.R_mono HO750.out (fun _ hk => trivial)⟩, ⟨kT BK725⟩, ⟨kT BK752⟩, ⟨bT2 HB GE725 GE752⟩⟩
     ·
      rw [if_neg c47] at H
      have c47b0 : decide (t769 < 0) = false := decide_eq_false c47
      clear c47
      (first | rw [c47b0] | (simp only [i64_w, i32_w]; rw [c47b0]) | skip)
      obtain ⟨t773, A48, H⟩ := Option.bind_eq_some_iff.mp H
      replace A48 := mA A48
      try dsimp only at H
      have H' := mA H
      clear H
      go_wp2_with (first | (go_at_call 41; (with_reducible refine (laws_eqPairS.calls k _ _ t753 _ _ t738 t773 _ ?side1 ?side2 ?side3 ?side4 A48.out).mono ?_); (case side1 => exact cT ((Kd.R_reads' HO755.out).2.2)); (case side2 => exact (Kd.R_reads' HO755.out).2.1); (case side3 => exact cT ((Kd.R_reads' HO740.out).2.2)); (case side4 => exact (Kd.R_reads' HO740.out).2.1); rintro e w49 ⟨rfl, hb⟩; replace HO740 := rBR HO740 hb; replace HO744 := rBR HO744 hb; replace HO747 := rBR HO747 hb; replace HO750 := rBR HO750 hb; replace HO755 := rBR HO755 hb; replace BK725 := kB BK725 hb; replace BK752 := kB BK752 hb; replace HB := mA (below_step (bT2 HB GE725 GE752) hb); (try clear hb)))
      go_meet
      case rel => exact ⟨_, (!t773), sT, H', ⟨by first | omega | exact Nat.le_refl _⟩, ⟨rTR HO740⟩, ⟨rTR HO755⟩, ⟨by (with_reducible repeat (first | apply Kd.R_alloc | apply Kd.R_drewN | apply Kd.R_drew)); exact Kd.R_mono HO744.out (fun _ hk => hk.1.1.1.1)⟩, ⟨by (with_reducible repeat (first | apply Kd.R_alloc | apply Kd.R_drewN | apply Kd.R_drew)); exact Kd.R_mono HO747.out (fun _ hk => hk.1.1.1.1)⟩, ⟨by (with_reducible repeat (first | apply Kd.R_alloc | apply Kd.R_drewN | apply Kd.R_drew)); exact Kd.R_mono HO750.out (fun _ hk => trivial)⟩, ⟨kT BK725⟩, ⟨kT BK752⟩, ⟨bT2 HB GE725 GE752⟩⟩
    case rest =>
     clear HC17
     try clear c1
     try clear c2
     try clear p2
     try clear c3
     try clear c3b0
     try clear c4
     try clear c10
     try clear c12
     try clear c15
     try clear c22
     try clear c24
     try clear c26
     try clear c30
     try clear c35
     try clear c39
     try clear c40
     try clear c41
     try clear c47
     try clear c47b0
     try clear hcz19_0
     try clear hcz19_1
     try clear hcz19_2
     try clear hcz19_3
     try clear hcz19_4
     try clear hcz21_0
     try clear hcz21_1
     try clear hcz21_2
     try clear hcz21_3
     try clear hcz21_4
     try clear hcz27_0
     try clear hcz27_1
     try clear hcz27_2
     try clear hcz27_3
     try clear hcz27_4
     try clear hcz31_0
     try clear hcz31_1
     try clear hcz31_2
     try clear hcz31_3
     try clear hcz31_4
     try clear hcz45_0
     try clear hcz45_1
     try clear hcz45_2
     try clear hcz45_3
     try clear hcz45_4
     try clear hcz5_0
     try clear hcz5_1
     try clear hcz5_2
     try clear hcz5_3
     try clear hcz5_4
     try clear hfz19_0
     try clear hfz19_1
     try clear hfz19_2
     try clear hfz19_3
     try clear hfz19_4
     try clear hfz21_0
     try clear hfz21_1
     try clear hfz21_2
     try clear hfz21_3
     try clear hfz21_4
     try clear hfz27_0
     try clear hfz27_1
     try clear hfz27_2
     try clear hfz27_3
     try clear hfz27_4
     try clear hfz31_0
     try clear hfz31_1
     try clear hfz31_2
     try clear hfz31_3
     try clear hfz31_4
     try clear hfz45_0
     try clear hfz45_1
     try clear hfz45_2
     try clear hfz45_3
     try clear hfz45_4
     try clear hfz5_0
     try clear hfz5_1
     try clear hfz5_2
     try clear hfz5_3
     try clear hfz5_4
     obtain ⟨kq, x42_16, rfl, HA, HJ16, HO_4, HO_6, HO_753001, HO_753002, HO_753003, BK725, BK752, HB⟩ := hcut
     have hl753001_16 := (Kd.R_reads' HO_753001.out).1
     rw [hl753001_16] at HO_753001
     (try simp only [hl753001_16])
     (try simp only [hl753001_16] at BK725)
     (try simp only [hl753001_16] at BK752)
     (try simp only [hl753001_16] at HO_4)
     (try simp only [hl753001_16] at HO_6)
     (try simp only [hl753001_16] at HO_753002)
     (try simp only [hl753001_16] at HO_753003)
     have hl753002_16 := (Kd.R_reads' HO_753002.out).1
     rw [hl753002_16] at HO_753002
     (try simp only [hl753002_16])
     (try simp only [hl753002_16] at BK725)
     (try simp only [hl753002_16] at BK752)
     (try simp only [hl753002_16] at HO_4)
     (try simp only [hl753002_16] at HO_6)
     (try simp only [hl753002_16] at HO_753001)
     (try simp only [hl753002_16] at HO_753003)
     have hl753003_16 := (Kd.R_reads' HO_753003.out).1
     rw [hl753003_16] at HO_753003
     (try simp only [hl753003_16])
     (try simp only [hl753003_16] at BK725)
     (try simp only [hl753003_16] at BK752)
     (try simp only [hl753003_16] at HO_4)
     (try simp only [hl753003_16] at HO_6)
     (try simp only [hl753003_16] at HO_753001)
     (try simp only [hl753003_16] at HO_753002)
     cases kq with
     | zero => exact absurd HA.out (by simp [laws_FnExactUnmatchedRows.j0])
     | succ kj16 =>
      have H := HA.out
      clear HA
      simp only [laws_FnExactUnmatchedRows.j0] at H
      by_cases c50 : x42_16 = true
      ·
       subst c50
       rw [if_pos rfl] at H
       exact absurd ((Option.some.inj H).trans HT.out) (by simp)
      ·
       replace c50 := Bool.eq_false_iff.mpr c50
       subst c50
       rw [if_neg (show ¬ (false = true) by decide)] at H
       obtain ⟨⟨t774, t775⟩, A51, H⟩ := Option.bind_eq_some_iff.mp H
       replace A51 := mA A51
       try dsimp only at H
       obtain ⟨t776, A52, H⟩ := Option.bind_eq_some_iff.mp H
       replace A52 := mA A52
       try dsimp only at H
       by_cases c53 : t776 < 0
       ·
        rw [if_pos c53] at H
        have c53b0 : decide (t776 < 0) = true := decide_eq_true c53
        clear c53
        exact absurd ((Option.some.inj H).trans HT.out) (by simp)
       ·
        rw [if_neg c53] at H
        have c53b0 : decide (t776 < 0) = false := decide_eq_false c53
        clear c53
        by_cases c54 : t776 = t774
        ·
         rw [if_pos c54] at H
         have c54b0 : (t776 == t774) = true := beq_iff_eq.mpr c54
         have c54b1 : (t776 != t774) = false := bne_eq_false_iff_eq.mpr c54
         clear c54
         obtain ⟨⟨t777, t778, t781, t784, t787⟩, A55, H⟩ := Option.bind_eq_some_iff.mp H
         replace A55 := mA A55
         try dsimp only at H
         obtain ⟨t788, A56, H⟩ := Option.bind_eq_some_iff.mp H
         replace A56 := mA A56
         try dsimp only at H
         obtain ⟨t791, A57, H⟩ := Option.bind_eq_some_iff.mp H
         replace A57 := mA A57
         try dsimp only at H
         by_cases c58 : t791 = true
         ·
          subst c58
          rw [if_pos rfl] at H
          obtain ⟨t792, A59, H⟩ := Option.bind_eq_some_iff.mp H
          replace A59 := mA A59
          try dsimp only at H
          by_cases c60 : t792 < 0
          ·
           rw [if_pos c60] at H
           have c60b0 : decide (t792 < 0) = true := decide_eq_true c60
           clear c60
           exact absurd ((Option.some.inj H).trans HT.out) (by simp)
          ·
           rw [if_neg c60] at H
           have c60b0 : decide (t792 < 0) = false := decide_eq_false c60
           clear c60
           by_cases c61 : t792 = t774
           ·
            rw [if_pos c61] at H
            have c61b0 : (t792 == t774) = true := beq_iff_eq.mpr c61
            have c61b1 : (t792 != t774) = false := bne_eq_false_iff_eq.mpr c61
            clear c61
            obtain rfl := Option.some.inj H
            go_wp2_with (first | ((with_reducible refine gate_callee (f := 42) rfl ?_); refine goesT (some 45) Try.func42 #[.slice Ao36 t753.length co36, .int .i64 1] ?_; (with_reducible refine (laws_markPairS.calls kj16 (fun k_ => some k_ = (.slice Ao36 t753.length co36 : Value).ownBlock) (.slice Ao36 t753.length co36) t753 1 t774 t775 w _ ?side1 ?side2 A51.out).mono ?_); (case side1 => repeat (first | (with_reducible first | exact HB.out | apply below_alloc | apply pw_below_drewN | apply below_drew1 | refine below_set ?_ GE725.out | refine below_set ?_ GE752.out) | exact HB.out)); (case side2 => exact Kd.R_tight rfl HO_6.out); rintro e w62 ⟨rfl, hy0, hb, hkp⟩; refine ⟨_, rfl, ?_⟩; replace HO_4 := mA (Kd.R_mono (ok' := fun k_ => some k_ ≠ (.slice Ao36 t753.length co36 : Value).ownBlock) (Kd.R_keptB (HO_4.out) hkp (fun k_ hk_ hs_ => (hk_) hs_)) (fun k_ hk_ => hk_.1)); replace HO_753001 := mA (Kd.R_mono (ok' := fun k_ => some k_ ≠ (.slice Ao33 t771.length co33 : Value).ownBlock) (Kd.R_keptB ((Kd.R_apart' HO_753001.out (Kd.R_typed HO_6.out) (by decide))) hkp (fun k_ hk_ hs_ => (hk_.2) hs_)) (fun k_ hk_ => hk_.1.1)); replace HO_753002 := mA (Kd.R_mono (ok' := fun k_ => some k_ ≠ (.slice Ao32 t770.length co32 : Value).ownBlock) (Kd.R_keptB ((Kd.R_apart' HO_753002.out (Kd.R_typed HO_6.out) (by decide))) hkp (fun k_ hk_ hs_ => (hk_.2) hs_)) (fun k_ hk_ => hk_.1.1)); replace HO_753003 := mA (Kd.R_mono (ok' := fun k_ => True) (Kd.R_keptB ((Kd.R_apart' HO_753003.out (Kd.R_typed HO_6.out) (by decide))) hkp (fun k_ hk_ hs_ => (hk_.2) hs_)) (fun k_ hk_ => trivial)); replace BK725 := mA (blk_kept (kT BK725) hkp (fun hs_ => (fun e_ => (Kd.R_ne HO_6.out BK725.out (by decide)) e_) hs_)); replace HO_6 := mA (Kd.R_reok rfl hy0 (fun k_ e_ => HO_6.out.1 k_ e_)); replace HB := mA (hb); (try clear hb); (try clear hkp); (try clear hy0)) | ((with_reducible refine gate_callee (f := 43) rfl ?_); refine goesL_ (some 48) rfl rfl Try.func43 (by kernel_rfl) rfl #[.slice Ao36 t775.length co36, .int .i64 1] rfl (by (try simp only [List.map_toArray, List.map_cons, List.map_nil]); first | done | (rw [show t775.length = t753.length from (Kd.R_reads' HO_6.out).1.symm] <;> rfl) | rfl | (simp only [List.length_drop, List.length_take]; rfl)) ?_; (with_reducible refine (laws_heldPairS.calls kj16 _ _ t775 1 t776 _ ?side1 ?side2 A52.out).mono ?_); (case side1 => exact cT ((Kd.R_reads' HO_6.out).2.2)); (case side2 => rw [show t775.length = t753.length from (Kd.R_reads' HO_6.out).1.symm]; exact (Kd.R_reads' HO_6.out).2.1); rintro e w' ⟨rfl, ⟨nd, rfl⟩⟩; refine ⟨_, rfl, ?_⟩; have hnb63 := NB725_752.out; have hnc63 := NB752_725.out; obtain ⟨hcz64_0, hcz64_1, hcz64_2, hcz64_3, hcz64_4, hfz64_0, hfz64_1, hfz64_2, hfz64_3, hfz64_4⟩ := blk5 BK725.out) | ((with_reducible refine gate_callee (f := 24) rfl ?_); refine goesT (some 55) Try.func24 #[.agg #[.int .i64 a0_0, .slice A0_1 l0_1.length c0_1, .slice A0_2 l0_2.length c0_2, .slice A0_3 l0_3.length c0_3, .int .i64 a0_4]] ?_; (with_reducible refine (laws_toTask.calls kj16 a0_0 _ _ l0_1 _ _ l0_2 _ _ l0_3 a0_4 t777 t778 t781 t784 t787 _ ?side1 ?side2 ?side3 ?side4 ?side5 ?side6 A55.out).mono ?_); (case side1 => exact cT (Kd.C_below HR0_1.out (bT2 HB GE725 GE752))); (case side2 => exact HC0_1.out); (case side3 => exact cT (Kd.C_below HR0_2.out (bT2 HB GE725 GE752))); (case side4 => exact HC0_2.out); (case side5 => exact cT (Kd.C_below HR0_3.out (bT2 HB GE725 GE752))); (case side6 => exact HC0_3.out); rintro e w65 ⟨v779, v782, v785, rfl, ho0, ho1, ho2, hb⟩; refine ⟨_, rfl, ?_⟩; replace HO_4 := rBR HO_4 hb; replace HO_6 := rBR HO_6 hb; have HO780 := mA (Kd.R_lower (Kd.R_new' (Kd.R_new' ho0 (Kd.R_lt (rTR HO_753001))) (Kd.R_lt (rTR HO_753002))) (below_size (bT2 HB GE725 GE752))); have HO783 := mA (Kd.R_lower (Kd.R_new' (Kd.R_new' ho1 (Kd.R_lt (rTR HO_753001))) (Kd.R_lt (rTR HO_753002))) (below_size (bT2 HB GE725 GE752))); have HO786 := mA (Kd.R_lower (Kd.R_new' ho2 (Kd.R_lt (rTR HO_753003))) (below_size (bT2 HB GE725 GE752))); replace HB := mA (below_step (bT2 HB GE725 GE752) hb); (try clear hb); (try clear ho0); (try clear ho1); (try clear ho2); obtain ⟨Ao66, co66, eo66⟩ := Kd.R_slice HO780.out; subst eo66; obtain ⟨Ao67, co67, eo67⟩ := Kd.R_slice HO783.out; subst eo67; obtain ⟨Ao68, co68, eo68⟩ := Kd.R_slice HO786.out; subst eo68) | ((with_reducible refine gate_callee (f := 40) rfl ?_); refine goesT (some 56) Try.func40 #[.agg #[.int .i64 t777, .slice Ao66 t778.length co66, .slice Ao67 t781.length co67, .slice Ao68 t784.length co68, .int .i64 t787]] ?_; (with_reducible refine (impl_UnmatchedRows.calls kj16 t777 _ _ t778 _ _ t781 _ _ t784 t787 t788 _ ?side1 ?side2 ?side3 ?side4 ?side5 ?side6 A56.out).mono ?_); (case side1 => exact cT ((Kd.R_reads' HO780.out).2.2)); (case side2 => exact (Kd.R_reads' HO780.out).2.1); (case side3 => exact cT ((Kd.R_reads' HO783.out).2.2)); (case side4 => exact (Kd.R_reads' HO783.out).2.1); (case side5 => exact cT ((Kd.R_reads' HO786.out).2.2)); (case side6 => exact (Kd.R_reads' HO786.out).2.1); rintro e w69 ⟨v789, rfl, ho0, hb⟩; refine ⟨_, rfl, ?_⟩; have HO790 := mA (Kd.R_lower (Kd.R_new' (Kd.R_new' ho0 (Kd.R_lt (rTR HO_4))) (Kd.R_lt (rTR HO_6))) (below_size (bT2 HB GE725 GE752))); replace HO_4 := mA (Kd.R_elder' (rTR HO_4) (Kd.R_base ho0) hb); replace HO_6 := mA (Kd.R_elder' (rTR HO_6) (Kd.R_base ho0) hb); replace HB := mA (below_step (bT2 HB GE725 GE752) hb); (try clear hb); (try clear ho0); obtain ⟨Ao70, co70, eo70⟩ := Kd.R_slice HO790.out; subst eo70) | ((with_reducible refine gate_callee (f := 41) rfl ?_); refine goesT (some 59) Try.func41 #[.slice Ao70 t788.length co70, .slice Ao37 t738.length co37] ?_; (with_reducible refine (laws_eqPairS.calls kj16 _ _ t788 _ _ t738 true _ ?side1 ?side2 ?side3 ?side4 A57.out).mono ?_); (case side1 => exact cT ((Kd.R_reads' HO790.out).2.2)); (case side2 => exact (Kd.R_reads' HO790.out).2.1); (case side3 => exact cT ((Kd.R_reads' HO_4.out).2.2)); (case side4 => exact (Kd.R_reads' HO_4.out).2.1); rintro e w71 ⟨rfl, hb⟩; refine ⟨_, rfl, ?_⟩; replace HO_6 := rBR HO_6 hb; replace HB := mA (below_step (bT2 HB GE725 GE752) hb); (try clear hb)) | ((with_reducible refine gate_callee (f := 43) rfl ?_); refine goesL_ (some 63) rfl rfl Try.func43 (by kernel_rfl) rfl #[.slice Ao36 t775.length co36, .int .i64 1] rfl (by (try simp only [List.map_toArray, List.map_cons, List.map_nil]); first | done | (rw [show t775.length = t753.length from (Kd.R_reads' HO_6.out).1.symm] <;> rfl) | rfl | (simp only [List.length_drop, List.length_take]; rfl)) ?_; (with_reducible refine (laws_heldPairS.calls kj16 _ _ t775 1 t792 _ ?side1 ?side2 A59.out).mono ?_); (case side1 => exact cT ((Kd.R_reads' HO_6.out).2.2)); (case side2 => rw [show t775.length = t753.length from (Kd.R_reads' HO_6.out).1.symm]; exact (Kd.R_reads' HO_6.out).2.1); rintro e w' ⟨rfl, ⟨nd, rfl⟩⟩; refine ⟨_, rfl, ?_⟩))
            go_ret
            exact ⟨eT, bT2 HB GE725 GE752⟩
           ·
            rw [if_neg c61] at H
            have c61b0 : (t792 == t774) = false := beq_eq_false_iff_ne.mpr c61
            have c61b1 : (t792 != t774) = true := bne_iff_ne.mpr c61
            exact absurd ((Option.some.inj H).trans HT.out) (by simp)
         ·
          replace c58 := Bool.eq_false_iff.mpr c58
          subst c58
          rw [if_neg (show ¬ (false = true) by decide)] at H
          exact absurd ((Option.some.inj H).trans HT.out) (by simp)
        ·
         rw [if_neg c54] at H
         have c54b0 : (t776 == t774) = false := beq_eq_false_iff_ne.mpr c54
         have c54b1 : (t776 != t774) = true := bne_iff_ne.mpr c54
         exact absurd ((Option.some.inj H).trans HT.out) (by simp)
   ·
    replace c15 := Bool.eq_false_iff.mpr c15
    subst c15
    rw [if_neg (show ¬ (false = true) by decide)] at H
    exact absurd ((Option.some.inj H).trans HT.out) (by simp)
  ·
   replace c12 := Bool.eq_false_iff.mpr c12
   subst c12
   rw [if_neg (show ¬ (false = true) by decide)] at H
   exact absurd ((Option.some.inj H).trans HT.out) (by simp)

end Go.Proofs.Ythciieopabndcaa.P
