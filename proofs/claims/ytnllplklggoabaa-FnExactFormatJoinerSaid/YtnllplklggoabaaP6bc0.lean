/- Written by tools/seatprint.py over the translation. Lean checks it. -/
import Derived.Test.YtnllplklggoabaaP0
import Derived.Test.YtnllplklggoabaaP6fc0
import Derived.Test.YtnllplklggoabaaP7bc0
import Derived.Test.YtnllplklggoabaaP7fc0
namespace Go.Proofs.Ytnllplklggoabaa.P
open Go.RowKit Go.Proofs.YtnllplklggoabaaW.PrintWords Go.Proofs.YtnllplklggoabaaW.PrintLast Go.Proofs.YtnllplklggoabaaW.PrintMore
attribute [local go_sem] max2_int min2_int max_two min_two max_three min_three max_four min_four
set_option linter.unusedVariables false
set_option linter.unusedSimpArgs false

/-! ### impl_FormatRow: function 103 -/
def impl_FormatRow.f (k : Nat) (a0_0 : Int) (a0_1 : Int) (a0_2 : Int) : Option (ByteArray) := (impl_IsValidRow.f a0_0 a0_1 a0_2).bind fun t277 => (if t277 = true then ((impl_FormatInt.f k a0_0).bind fun t278 => (if t278.size + 1 ≤ 9223372036854775807 then ((impl_FormatInt.f k a0_1).bind fun t279 => (if (t278 ++ (⟨#[46]⟩ : ByteArray)).size + t279.size ≤ 9223372036854775807 then (if ((t278 ++ (⟨#[46]⟩ : ByteArray)) ++ t279).size + 1 ≤ 9223372036854775807 then ((impl_FormatInt.f k a0_2).bind fun t280 => (if (((t278 ++ (⟨#[46]⟩ : ByteArray)) ++ t279) ++ (⟨#[46]⟩ : ByteArray)).size + t280.size ≤ 9223372036854775807 then (some ((((t278 ++ (⟨#[46]⟩ : ByteArray)) ++ t279) ++ (⟨#[46]⟩ : ByteArray)) ++ t280)) else (none))) else (none)) else (none))) else (none))) else (some (⟨#[]⟩ : ByteArray)))
theorem impl_FormatRow.mono : ∀ a0 a1 a2 k, LeO (impl_FormatRow.f k a0 a1 a2) (impl_FormatRow.f (k + 1) a0 a1 a2) := by
 intro a0 a1 a2 k
 unfold impl_FormatRow.f
 repeat' first
   | (with_reducible exact impl_FormatInt.mono _ _)
   | (with_reducible exact LeO.refl _)
   | (with_reducible exact LeO.none _)
   | (with_reducible refine LeO.ite ?_ ?_)
   | (with_reducible refine LeO.bind ?_ (fun _ => ?_))
   | exact impl_FormatInt.mono _ _
   | exact LeO.none _
   | refine LeO.ite ?_ ?_
   | refine LeO.bind ?_ (fun _ => ?_)
def impl_FormatRow.T3 : Bool × List (List Nat × List Nat) := (true, [([], []), ([0], [0]), ([1], [1]), ([2], [2]), ([], []), ([4], [4]), ([5, 2], [5]), ([3, 6], [3, 6]), ([7], [7]), ([], []), ([9], [9]), ([10, 6], [10]), ([8, 11], [8, 11]), ([12, 11, 0, 1, 2, 3, 4, 5, 6, 7, 8, 9, 10, 11, 12], [12])])
def impl_FormatRow.B3 : List Nat := [0, 1, 3, 7, 0, 16, 55, 127, 255, 0, 512, 1655, 4095, 8191]
theorem impl_FormatRow.tab3 : rtab .any (opsOf Try.f103 3) = impl_FormatRow.T3 := by kernel_rfl
theorem impl_FormatRow.bits3 : waitsOk impl_FormatRow.T3.2 impl_FormatRow.B3 = true := by kernel_rfl
set_option maxHeartbeats 8000000 in
set_option maxRecDepth 100000 in
theorem impl_FormatRow.calls (k : Nat) (a0_0 : Int) (a0_1 : Int) (a0_2 : Int) (r : ByteArray) (w : World) (h : impl_FormatRow.f k a0_0 a0_1 a0_2 = some r) :
  Calls Try.prog 103 #[.agg #[.int .i64 a0_0, .int .i64 a0_1, .int .i64 a0_2]] w fun e w' => e = .returned (.string r) ∧ Below w.heap.size w w' := by
 have hu124 := Try.underlying124
 have HB := mA (Below.refl w.heap.size w)
 have H : ((impl_IsValidRow.f a0_0 a0_1 a0_2).bind fun t277 => (if t277 = true then ((impl_FormatInt.f k a0_0).bind fun t278 => (if t278.size + 1 ≤ 9223372036854775807 then ((impl_FormatInt.f k a0_1).bind fun t279 => (if (t278 ++ (⟨#[46]⟩ : ByteArray)).size + t279.size ≤ 9223372036854775807 then (if ((t278 ++ (⟨#[46]⟩ : ByteArray)) ++ t279).size + 1 ≤ 9223372036854775807 then ((impl_FormatInt.f k a0_2).bind fun t280 => (if (((t278 ++ (⟨#[46]⟩ : ByteArray)) ++ t279) ++ (⟨#[46]⟩ : ByteArray)).size + t280.size ≤ 9223372036854775807 then (some ((((t278 ++ (⟨#[46]⟩ : ByteArray)) ++ t279) ++ (⟨#[46]⟩ : ByteArray)) ++ t280)) else (none))) else (none)) else (none))) else (none))) else (some (⟨#[]⟩ : ByteArray)))) = some r := h
 clear h
 obtain ⟨t277, A2, H⟩ := Option.bind_eq_some_iff.mp H
 replace A2 := mA A2
 try dsimp only at H
 by_cases c3 : t277 = true
 ·
  subst c3
  rw [if_pos rfl] at H
  obtain ⟨t278, A4, H⟩ := Option.bind_eq_some_iff.mp H
  replace A4 := mA A4
  try dsimp only at H
  by_cases c5 : t278.size + 1 ≤ 9223372036854775807
  ·
   rw [if_pos c5] at H
   have c5b0 := eq_true c5
   have c5b1 : decide (t278.size + 1 ≤ 9223372036854775807) = true := decide_eq_true c5
   try have c5b2 : (9223372036854775807 < t278.size + 1) = False := eq_false (Nat.not_lt.2 c5)
   obtain ⟨t279, A6, H⟩ := Option.bind_eq_some_iff.mp H
   replace A6 := mA A6
   try dsimp only at H
   by_cases c7 : (t278 ++ (⟨#[46]⟩ : ByteArray)).size + t279.size ≤ 9223372036854775807
   ·
    rw [if_pos c7] at H
    have c7b0 := eq_true c7
    have c7b1 : decide ((t278 ++ (⟨#[46]⟩ : ByteArray)).size + t279.size ≤ 9223372036854775807) = true := decide_eq_true c7
    try have c7b2 : (9223372036854775807 < (t278 ++ (⟨#[46]⟩ : ByteArray)).size + t279.size) = False := eq_false (Nat.not_lt.2 c7)
    try have c7b3 : (9223372036854775807 < t278.size + 1 + t279.size) = False := szF c7
    by_cases c8 : ((t278 ++ (⟨#[46]⟩ : ByteArray)) ++ t279).size + 1 ≤ 9223372036854775807
    ·
     rw [if_pos c8] at H
     have c8b0 := eq_true c8
     have c8b1 : decide (((t278 ++ (⟨#[46]⟩ : ByteArray)) ++ t279).size + 1 ≤ 9223372036854775807) = true := decide_eq_true c8
     try have c8b2 : (9223372036854775807 < ((t278 ++ (⟨#[46]⟩ : ByteArray)) ++ t279).size + 1) = False := eq_false (Nat.not_lt.2 c8)
     try have c8b3 : (9223372036854775807 < t278.size + 1 + t279.size + 1) = False := szF c8
     obtain ⟨t280, A9, H⟩ := Option.bind_eq_some_iff.mp H
     replace A9 := mA A9
     try dsimp only at H
     by_cases c10 : (((t278 ++ (⟨#[46]⟩ : ByteArray)) ++ t279) ++ (⟨#[46]⟩ : ByteArray)).size + t280.size ≤ 9223372036854775807
     ·
      rw [if_pos c10] at H
      have c10b0 := eq_true c10
      have c10b1 : decide ((((t278 ++ (⟨#[46]⟩ : ByteArray)) ++ t279) ++ (⟨#[46]⟩ : ByteArray)).size + t280.size ≤ 9223372036854775807) = true := decide_eq_true c10
      try have c10b2 : (9223372036854775807 < (((t278 ++ (⟨#[46]⟩ : ByteArray)) ++ t279) ++ (⟨#[46]⟩ : ByteArray)).size + t280.size) = False := eq_false (Nat.not_lt.2 c10)
      try have c10b3 : (9223372036854775807 < t278.size + 1 + t279.size + 1 + t280.size) = False := szF c10
      obtain rfl := Option.some.inj H
      go_enter Try.func103, Try.ntmps103
      try go_wp2_with (first | ((with_reducible refine gate_dst (N := 1) rfl ?_); refine boxT 1 #[.int .i64 a0_0, .int .i64 a0_1, .int .i64 a0_2] 124 ?_; intro gb276 hg w11 hbox hb; have BK276 := mA (hbox); have GW276 := mA ((by rw [hg]; exact (below_size (bT HB)) : w.heap.size ≤ gb276)); have GE276 := GW276; replace HB := mA (below_step (bT HB) hb); clear hb hbox hg; obtain ⟨hcz12_0, hcz12_1, hcz12_2, hfz12_0, hfz12_1, hfz12_2⟩ := blk3 BK276.out) | ((with_reducible refine gate_callee (f := 104) rfl ?_); refine goesT (some 4) Try.func104 #[.agg #[.int .i64 a0_0, .int .i64 a0_1, .int .i64 a0_2]] ?_; (with_reducible refine (impl_IsValidRow.calls a0_0 a0_1 a0_2 true _ A2.out).mono ?_); rintro e w13 ⟨rfl, hb⟩; refine ⟨_, rfl, ?_⟩; replace BK276 := kB BK276 hb; replace HB := mA (below_step (bT1 HB GE276) hb); (try clear hb)))
      replace BK276 := mA (blk_drew BK276.out)
      replace HB := mA (below_drew1 HB.out)
      refine start_ (n := 14) (S := fun w' => w'.cell? ⟨gb276, 0, none⟩ = some (.int .i64 a0_0) ∧ w'.cell? ⟨gb276, 1, none⟩ = some (.int .i64 a0_1) ∧ w'.cell? ⟨gb276, 2, none⟩ = some (.int .i64 a0_2)) (ds := []) #[false, false, false, false, false, false, false, false, false, false, false, false, false, false] (by kernel_rfl) rfl rfl ⟨(blk_cell BK276.out 0).trans rfl, (blk_cell BK276.out 1).trans rfl, (blk_cell BK276.out 2).trans rfl⟩ (fun hHeld => ?_); refine with_tabW impl_FormatRow.tab3 impl_FormatRow.bits3 (fun HT_ HW_ => ?_)
      generalize w13.drew = w14 at BK276 HB hHeld ⊢
      refine pureT (i := 0) (N := some 6) #[true, false, false, false, false, false, false, false, false, false, false, false, false, false] (any_of HT_.out (by kernel_rfl)) ?_
      refine pureT (i := 4) (N := some 10) #[true, false, false, false, true, false, false, false, false, false, false, false, false, false] (any_of HT_.out (by kernel_rfl)) ?_
      refine pureT (i := 9) (N := some 15) #[true, false, false, false, true, false, false, false, false, true, false, false, false, false] (any_of HT_.out (by kernel_rfl)) ?_
      refine take_ (i := 1) (N := some 7) (v := ?_) (a' := ?_) #[true, true, false, false, true, false, false, false, false, true, false, false, false, false] rfl rfl (take_ofW HT_.out HW_.out (by kernel_rfl)) (fun _ _ _ h => h) (Or.inl ⟨by rfl, ?_⟩) hHeld ?_ ?_
      rotate_left
      ·
       rintro w' ⟨s0, s1, s2⟩
       go_simp
       with_reducible rfl
      rotate_left
      ·
       simp only [Act.put, List.setIfInBounds_toArray, List.set_cons_zero, List.set_cons_succ, i64_w, i32_w]
       rfl
      refine take_ (i := 5) (N := some 11) (v := ?_) (a' := ?_) #[true, true, false, false, true, true, false, false, false, true, false, false, false, false] rfl rfl (take_ofW HT_.out HW_.out (by kernel_rfl)) (fun _ _ _ h => h) (Or.inl ⟨by rfl, ?_⟩) hHeld ?_ ?_
      rotate_left
      ·
       rintro w' ⟨s0, s1, s2⟩
       go_simp
       with_reducible rfl
      rotate_left
      ·
       simp only [Act.put, List.setIfInBounds_toArray, List.set_cons_zero, List.set_cons_succ, i64_w, i32_w]
       rfl
      refine take_ (i := 10) (N := some 16) (v := ?_) (a' := ?_) #[true, true, false, false, true, true, false, false, false, true, true, false, false, false] rfl rfl (take_ofW HT_.out HW_.out (by kernel_rfl)) (fun _ _ _ h => h) (Or.inl ⟨by rfl, ?_⟩) hHeld ?_ ?_
      rotate_left
      ·
       rintro w' ⟨s0, s1, s2⟩
       go_simp
       with_reducible rfl
      rotate_left
      ·
       simp only [Act.put, List.setIfInBounds_toArray, List.set_cons_zero, List.set_cons_succ, i64_w, i32_w]
       rfl
      refine one_ (i := 2) (N := some 8) #[true, true, true, false, true, true, false, false, false, true, true, false, false, false] rfl rfl (one_of HT_.out (by kernel_rfl)) (by decide) (fun K hK => ?_)
      refine goes_ Try.func45 (by kernel_rfl) rfl #[.int .i64 a0_0] (by rfl) rfl rfl mT ?_
      with_reducible refine (impl_FormatInt.calls k a0_0 t278 _ A4.out).mono ?_
      rintro e w15 ⟨rfl, hb⟩
      refine ⟨_, rfl, ?_⟩
      replace BK276 := kB BK276 hb
      replace HB := mA (below_step (bT1 HB GE276) hb)
      (try clear hb)
      (try clear hb2)
      (try clear hk)
      (try clear hi)
      refine hK.out _ _ ⟨(blk_cell BK276.out 0).trans rfl, (blk_cell BK276.out 1).trans rfl, (blk_cell BK276.out 2).trans rfl⟩ (fun hHeld => ?_)
      clear hK K
      refine norm_ (a' := ?_) ?_ ?_
      rotate_left
      ·
       show Act.put _ (some 8) _ = _
       simp only [Act.put, List.setIfInBounds_toArray, List.set_cons_zero, List.set_cons_succ, i64_w, i32_w]
       rfl
      refine pureT (i := 3) (N := some 9) #[true, true, true, true, true, true, false, false, false, true, true, false, false, false] (any_of HT_.out (by kernel_rfl)) ?_
      refine one_ (i := 6) (N := some 12) #[true, true, true, true, true, true, true, false, false, true, true, false, false, false] rfl rfl (one_of HT_.out (by kernel_rfl)) (by decide) (fun K hK => ?_)
      refine goes_ Try.func45 (by kernel_rfl) rfl #[.int .i64 a0_1] (by rfl) rfl rfl mT ?_
      with_reducible refine (impl_FormatInt.calls k a0_1 t279 _ A6.out).mono ?_
      rintro e w16 ⟨rfl, hb⟩
      refine ⟨_, rfl, ?_⟩
      replace BK276 := kB BK276 hb
      replace HB := mA (below_step (bT1 HB GE276) hb)
      (try clear hb)
      (try clear hb2)
      (try clear hk)
      (try clear hi)
      refine hK.out _ _ ⟨(blk_cell BK276.out 0).trans rfl, (blk_cell BK276.out 1).trans rfl, (blk_cell BK276.out 2).trans rfl⟩ (fun hHeld => ?_)
      clear hK K
      refine norm_ (a' := ?_) ?_ ?_
      rotate_left
      ·
       show Act.put _ (some 12) _ = _
       simp only [Act.put, List.setIfInBounds_toArray, List.set_cons_zero, List.set_cons_succ, i64_w, i32_w]
       rfl
      refine pureT (i := 7) (N := some 13) #[true, true, true, true, true, true, true, true, false, true, true, false, false, false] (any_of HT_.out (by kernel_rfl)) ?_
      refine pureT (i := 8) (N := some 14) #[true, true, true, true, true, true, true, true, true, true, true, false, false, false] (any_of HT_.out (by kernel_rfl)) ?_
      refine one_ (i := 11) (N := some 17) #[true, true, true, true, true, true, true, true, true, true, true, true, false, false] rfl rfl (one_of HT_.out (by kernel_rfl)) (by decide) (fun K hK => ?_)
      refine goes_ Try.func45 (by kernel_rfl) rfl #[.int .i64 a0_2] (by rfl) rfl rfl mT ?_
      with_reducible refine (impl_FormatInt.calls k a0_2 t280 _ A9.out).mono ?_
      rintro e w17 ⟨rfl, hb⟩
      refine ⟨_, rfl, ?_⟩
      replace BK276 := kB BK276 hb
      replace HB := mA (below_step (bT1 HB GE276) hb)
      (try clear hb)
      (try clear hb2)
      (try clear hk)
      (try clear hi)
      refine hK.out _ _ ⟨(blk_cell BK276.out 0).trans rfl, (blk_cell BK276.out 1).trans rfl, (blk_cell BK276.out 2).trans rfl⟩ (fun hHeld => ?_)
      clear hK K
      refine norm_ (a' := ?_) ?_ ?_
      rotate_left
      ·
       show Act.put _ (some 17) _ = _
       simp only [Act.put, List.setIfInBounds_toArray, List.set_cons_zero, List.set_cons_succ, i64_w, i32_w]
       rfl
      refine pureT (i := 12) (N := some 18) #[true, true, true, true, true, true, true, true, true, true, true, true, true, false] (any_of HT_.out (by kernel_rfl)) ?_
      refine pureT (i := 13) (N := some 2) #[true, true, true, true, true, true, true, true, true, true, true, true, true, true] (any_of HT_.out (by kernel_rfl)) ?_
      refine done_ (done_of HT_.out (by kernel_rfl)) ?_
      try go_wp2
      go_ret
      exact ⟨eT, bT1 HB GE276⟩
     ·
      rw [if_neg c10] at H
      exact absurd H (by simp)
    ·
     rw [if_neg c8] at H
     exact absurd H (by simp)
   ·
    rw [if_neg c7] at H
    exact absurd H (by simp)
  ·
   rw [if_neg c5] at H
   exact absurd H (by simp)
 ·
  replace c3 := Bool.eq_false_iff.mpr c3
  subst c3
  rw [if_neg (show ¬ (false = true) by decide)] at H
  obtain rfl := Option.some.inj H
  go_enter Try.func103, Try.ntmps103
  go_wp2_with (first | ((with_reducible refine gate_dst (N := 1) rfl ?_); refine boxT 1 #[.int .i64 a0_0, .int .i64 a0_1, .int .i64 a0_2] 124 ?_; intro gb276 hg w18 hbox hb; have BK276 := mA (hbox); have GW276 := mA ((by rw [hg]; exact (below_size (bT HB)) : w.heap.size ≤ gb276)); have GE276 := GW276; replace HB := mA (below_step (bT HB) hb); clear hb hbox hg; obtain ⟨hcz19_0, hcz19_1, hcz19_2, hfz19_0, hfz19_1, hfz19_2⟩ := blk3 BK276.out) | ((with_reducible refine gate_callee (f := 104) rfl ?_); refine goesT (some 4) Try.func104 #[.agg #[.int .i64 a0_0, .int .i64 a0_1, .int .i64 a0_2]] ?_; (with_reducible refine (impl_IsValidRow.calls a0_0 a0_1 a0_2 false _ A2.out).mono ?_); rintro e w20 ⟨rfl, hb⟩; refine ⟨_, rfl, ?_⟩; replace HB := mA (below_step (bT1 HB GE276) hb); (try clear hb)))
  go_ret
  exact ⟨eT, bT1 HB GE276⟩

/-! ### impl_rowTexts: function 94 -/
def impl_rowTexts.l0 : Nat → List ByteArray → List (S124) → Int → Int → Option (ByteArray)
 | 0, _, _, _, _ => none
 | k + 1, x3, x7, x8, x9 => if x9 < x8 then (if 0 ≤ x9 then (if x9 < (x7.length : Int) then ((impl_FormatRow.f k ((rd_T124 x7 x9).f0) ((rd_T124 x7 x9).f1) ((rd_T124 x7 x9).f2)).bind fun t286 => (if x3.length < 8796093022208 then (impl_rowTexts.l0 k (x3 ++ [t286]) x7 x8 (wrap64 (x9 + 1))) else (none))) else (none)) else (none)) else ((impl_joined.f k x3 (⟨#[32]⟩ : ByteArray)).bind fun t290 => (some t290))
def impl_rowTexts.f (k : Nat) (l0 : List (S124)) : Option (ByteArray) := impl_rowTexts.l0 k (([] : List ByteArray)) l0 (l0.length : Int) 0
theorem impl_rowTexts.mono_l : ∀ k, (∀ y0 y1 y2 y3, LeO (impl_rowTexts.l0 k y0 y1 y2 y3) (impl_rowTexts.l0 (k + 1) y0 y1 y2 y3))
 | 0 => fun _ _ _ _ r h => by simp [impl_rowTexts.l0] at h
 | k + 1 => by
  have ih0 := impl_rowTexts.mono_l k
  ·
   intro y0 y1 y2 y3
   unfold impl_rowTexts.l0
   repeat' first
   | (with_reducible exact ih0 _ _ _ _)
   | (with_reducible exact impl_FormatRow.mono _ _ _ _)
   | (with_reducible exact impl_joined.mono _ _ _)
   | (with_reducible exact LeO.refl _)
   | (with_reducible exact LeO.none _)
   | (with_reducible refine LeO.ite ?_ ?_)
   | (with_reducible refine LeO.bind ?_ (fun _ => ?_))
   | exact ih0 _ _ _ _
   | exact impl_FormatRow.mono _ _ _ _
   | exact impl_joined.mono _ _ _
   | exact LeO.none _
   | refine LeO.ite ?_ ?_
   | refine LeO.bind ?_ (fun _ => ?_)
theorem impl_rowTexts.mono : ∀ a0 k, LeO (impl_rowTexts.f k a0) (impl_rowTexts.f (k + 1) a0) := by
 intro a0 k
 have ih0 := impl_rowTexts.mono_l k
 unfold impl_rowTexts.f
 repeat' first
   | (with_reducible exact ih0 _ _ _ _)
   | (with_reducible exact impl_FormatRow.mono _ _ _ _)
   | (with_reducible exact impl_joined.mono _ _ _)
   | (with_reducible exact LeO.refl _)
   | (with_reducible exact LeO.none _)
   | (with_reducible refine LeO.ite ?_ ?_)
   | (with_reducible refine LeO.bind ?_ (fun _ => ?_))
   | exact ih0 _ _ _ _
   | exact impl_FormatRow.mono _ _ _ _
   | exact impl_joined.mono _ _ _
   | exact LeO.none _
   | refine LeO.ite ?_ ?_
   | refine LeO.bind ?_ (fun _ => ?_)
set_option maxHeartbeats 8000000 in
set_option maxRecDepth 100000 in
theorem impl_rowTexts.calls (k : Nat) (A0 : Option Addr) (c0 : Nat) (l0 : List (S124)) (r : ByteArray) (w : World) (hr0 : Kd.C k124 w A0 l0.length l0) (hc0 : l0.length ≤ c0) (h : impl_rowTexts.f k l0 = some r) :
  Calls Try.prog 94 #[.slice A0 l0.length c0] w fun e w' => e = .returned (.string r) ∧ Below w.heap.size w w' := by
 have hu124 := Try.underlying124
 have HR0 := mA hr0
 have HC0 := mA hc0
 clear hr0 hc0
 have HB := mA (Below.refl w.heap.size w)
 have H : (impl_rowTexts.l0 k (([] : List ByteArray)) l0 (l0.length : Int) 0) = some r := h
 clear h
 obtain ⟨y281, hy281⟩ : ∃ y_ : List ByteArray, y_ = (([] : List ByteArray)) := ⟨_, rfl⟩
 replace H : (impl_rowTexts.l0 k y281 l0 (l0.length : Int) 0) = some r := by first | (rw [hy281]; with_reducible exact H) | (have H2_ := (Option.bind_some _ _).symm.trans H; rw [hy281]; with_reducible exact H2_) | (have H2_ := (Option.bind_some _ _).symm.trans H; with_reducible exact H2_) | with_reducible exact H | (rw [hy281]; exact H) | exact H
 have Ny281 := mA hy281
 clear hy281
 have H' := mA H
 clear H
 go_enter Try.func94, Try.ntmps94
 go_wp2_with (first | ((with_reducible refine gate_dst (N := 6) rfl ?_); refine Kd.R_lit Kd.string _ 9 ?hg (N := 6) ?hd (xs := ([] : List ByteArray)) (inner := []) (ok := fun _ => True) (okp := fun _ => True) ?hr ?hp (fun _ hk => hk) trivial (Below.refl _ _) (Nat.le_refl _) (by simp) ?_; (case hd => rfl); (case hg => rfl); (case hr => first | (go_simp; done) | (go_simp; rfl)); (case hp => exact (Reps.none _ _)); intro v282 w2 ho3 hb hg_ hnew_; clear hg_ hnew_; (first | rw [← Ny281.out] at ho3 | (simp only [Int.reduceToNat] at ho3; rw [← Ny281.out] at ho3)); have HO283 := mA (Kd.R_lower ho3 (below_size (bT HB))); replace HB := mA (below_step (bT HB) hb); clear hb ho3))
 go_loopg [3, 9] k (fun kq v3 v9 w' => ∃ (x3_1 : List ByteArray) (x9_1 : Int), v9 = .int .i64 x9_1 ∧ Aside0 (impl_rowTexts.l0 kq x3_1 l0 (l0.length : Int) x9_1 = some r) ∧ Aside0 (kq ≤ k) ∧ Aside0 (Kd.R Kd.string 9 w' w.heap.size (fun _ => True) v3 x3_1) ∧ Aside0 (Below w.heap.size w w'))
 case atStart => exact ⟨(y281), (0), sT, H', ⟨Nat.le_refl _⟩, ⟨rTR HO283⟩, ⟨bT HB⟩⟩
 case round =>
  clear H'
  try clear p2
  obtain ⟨x3_1, x9_1, rfl, HA, HK1, HO_3, HB⟩ := hrel
  cases gk with
  | zero => exact absurd HA.out (by simp [impl_rowTexts.l0])
  | succ k1 =>
   have H := HA.out
   clear HA
   simp only [impl_rowTexts.l0] at H
   by_cases c4 : x9_1 < (l0.length : Int)
   ·
    rw [if_pos c4] at H
    have c4b0 : decide (x9_1 < (l0.length : Int)) = true := decide_eq_true c4
    clear c4
    by_cases c5 : 0 ≤ x9_1
    ·
     rw [if_pos c5] at H
     have c5b0 : decide (0 ≤ x9_1) = true := decide_eq_true c5
     clear c5
     by_cases c6 : x9_1 < (l0.length : Int)
     ·
      rw [if_pos c6] at H
      have c6b0 : decide (x9_1 < (l0.length : Int)) = true := decide_eq_true c6
      clear c6
      obtain ⟨t286, A7, H⟩ := Option.bind_eq_some_iff.mp H
      replace A7 := mA A7
      try dsimp only at H
      by_cases c8 : x3_1.length < 8796093022208
      ·
       rw [if_pos c8] at H
       have LMc8 := mA c8
       clear c8
       obtain ⟨y287, hy287⟩ : ∃ y_ : List ByteArray, y_ = (x3_1 ++ [t286]) := ⟨_, rfl⟩
       replace H : (impl_rowTexts.l0 k1 y287 l0 (l0.length : Int) (wrap64 (x9_1 + 1))) = some r := by first | (rw [hy287]; with_reducible exact H) | (have H2_ := (Option.bind_some _ _).symm.trans H; rw [hy287]; with_reducible exact H2_) | (have H2_ := (Option.bind_some _ _).symm.trans H; with_reducible exact H2_) | with_reducible exact H | (rw [hy287]; exact H) | exact H
       have Ny287 := mA hy287
       clear hy287
       have H' := mA H
       clear H
       have p284 : 0 ≤ (x9_1 : Int) := of_decide_eq_true aT
       have q284 : x9_1 < (l0.length : Int) := of_decide_eq_true aT
       obtain ⟨ad284, e284, hx284_0, hx284_1, hx284_2⟩ := at_T124 HR0.out x9_1 p284 q284
       cases e284
       replace hx284_0 := (HB.out.cell (World.block_lt_of_cell? w _ hx284_0)).trans hx284_0
       replace hx284_1 := (HB.out.cell (World.block_lt_of_cell? w _ hx284_1)).trans hx284_1
       replace hx284_2 := (HB.out.cell (World.block_lt_of_cell? w _ hx284_2)).trans hx284_2
       replace p284 := eq_true p284
       replace q284 := eq_true q284
       go_wp2_with (first | ((with_reducible refine gate_dst (N := 5) rfl ?_); refine boxT 5 #[.int .i64 0, .int .i64 0, .int .i64 0] 124 ?_; intro gb285 hg w9 hbox hb; replace HO_3 := rBR HO_3 hb; have BK285 := mA (hbox); have GW285 := mA ((by rw [hg]; exact (below_size (bT HB)) : w.heap.size ≤ gb285)); have GE285 := GW285; replace HB := mA (below_step (bT HB) hb); clear hb hbox hg; obtain ⟨hcz10_0, hcz10_1, hcz10_2, hfz10_0, hfz10_1, hfz10_2⟩ := blk3 BK285.out) | ((with_reducible refine gate_callee (f := 103) rfl ?_); refine goesT (some 15) Try.func103 #[.agg #[.int .i64 ((rd_T124 l0 x9_1).f0), .int .i64 ((rd_T124 l0 x9_1).f1), .int .i64 ((rd_T124 l0 x9_1).f2)]] ?_; (with_reducible refine (impl_FormatRow.calls k1 ((rd_T124 l0 x9_1).f0) ((rd_T124 l0 x9_1).f1) ((rd_T124 l0 x9_1).f2) t286 _ A7.out).mono ?_); rintro e w11 ⟨rfl, hb⟩; refine ⟨_, rfl, ?_⟩; replace HO_3 := mA (Kd.R_below (by (with_reducible repeat (first | apply Kd.R_alloc | apply Kd.R_drewN | apply Kd.R_drew)); exact (Kd.R_mono (Kd.R_far (p := ⟨gb285, 2, none⟩) (Kd.R_far (p := ⟨gb285, 1, none⟩) (Kd.R_far (p := ⟨gb285, 0, none⟩) (Kd.R_types HO_3.out BK285.out (by decide)) (fun _ hk => hk.2) (.int .i64 ((rd_T124 l0 x9_1).f0))) (fun _ hk => hk.2) (.int .i64 ((rd_T124 l0 x9_1).f1))) (fun _ hk => hk.2) (.int .i64 ((rd_T124 l0 x9_1).f2))) (fun _ h_ => h_.1))) hb); replace HB := mA (below_step (bT1 HB GE285) hb); (try clear hb); (try clear hk)) | ((with_reducible refine gate_builtin (b := .append) (xs := #[.tmp 13, .tmp 16]) rfl ?_); at_builtin; refine Kd.R_append Kd.string (w0 := w) w.heap.size rfl (.tmp 13) (.tmp 16) 84 9 (.string ⟨#[]⟩) 16 rfl Try.underlying84 info9 rfl (by decide) (by omega) u3 x3_1 t286 [.string t286] (fun _ => True) (fun _ => False) rfl rfl ?aP (fun _ hk => hk.elim) ?aF ?aO ?aB ?aS ?aL ?_; (case aP => exact rfl); (case aB => exact (bT1 HB GE285)); (case aF => exact (fun _ _ => trivial)); (case aO => exact (rTR HO_3)); (case aS => exact (below_size (bT1 HB GE285))); (case aL => have := LMc8.out; omega); intro v288 w12 ho hb hg hat; rw [← Ny287.out] at ho; replace HB := mA (hb); have HO289 := mA (ho); clear HO_3; clear ho hb hg hat))
       go_roundg k1
       case measure => have := HK1.out; omega
       case rel => exact ⟨(y287), (wrap64 (x9_1 + 1)), sT, H', ⟨by have := HK1.out; omega⟩, ⟨rTR HO289⟩, ⟨bT1 HB GE285⟩⟩
      ·
       rw [if_neg c8] at H
       exact absurd H (by simp)
     ·
      rw [if_neg c6] at H
      exact absurd H (by simp)
    ·
     rw [if_neg c5] at H
     exact absurd H (by simp)
   ·
    rw [if_neg c4] at H
    have c4b0 : decide (x9_1 < (l0.length : Int)) = false := decide_eq_false c4
    clear c4
    obtain ⟨t290, A13, H⟩ := Option.bind_eq_some_iff.mp H
    replace A13 := mA A13
    replace H : (some t290) = some r := H
    obtain rfl := Option.some.inj H
    obtain ⟨Ao14, co14, eo14⟩ := Kd.R_slice HO_3.out
    subst eo14
    go_wp2_with (first | ((with_reducible refine gate_callee (f := 47) rfl ?_); refine goesT (some 20) Try.func47 #[.slice Ao14 x3_1.length co14, .string (⟨#[32]⟩ : ByteArray)] ?_; (with_reducible refine (impl_joined.calls k1 _ _ x3_1 (⟨#[32]⟩ : ByteArray) t290 _ ?side1 ?side2 A13.out).mono ?_); (case side1 => exact cT ((Kd.R_reads' HO_3.out).2.2)); (case side2 => exact (Kd.R_reads' HO_3.out).2.1); rintro e w' ⟨rfl, ⟨nd, rfl⟩⟩; refine ⟨_, rfl, ?_⟩))
    go_ret
    exact ⟨eT, bT HB⟩

/-! ### impl_FormatRows: function 56 -/
def impl_FormatRows.f (k : Nat) (l0 : List (S124)) : Option (ByteArray) := (impl_AreValidRows.f k l0).bind fun t291 => (if t291 = true then ((impl_rowTexts.f k l0).bind fun t292 => (some t292)) else (some (⟨#[]⟩ : ByteArray)))
theorem impl_FormatRows.mono : ∀ a0 k, LeO (impl_FormatRows.f k a0) (impl_FormatRows.f (k + 1) a0) := by
 intro a0 k
 unfold impl_FormatRows.f
 repeat' first
   | (with_reducible exact impl_AreValidRows.mono _ _)
   | (with_reducible exact impl_rowTexts.mono _ _)
   | (with_reducible exact LeO.refl _)
   | (with_reducible exact LeO.none _)
   | (with_reducible refine LeO.ite ?_ ?_)
   | (with_reducible refine LeO.bind ?_ (fun _ => ?_))
   | exact impl_AreValidRows.mono _ _
   | exact impl_rowTexts.mono _ _
   | exact LeO.none _
   | refine LeO.ite ?_ ?_
   | refine LeO.bind ?_ (fun _ => ?_)
set_option maxHeartbeats 8000000 in
set_option maxRecDepth 100000 in
theorem impl_FormatRows.calls (k : Nat) (A0 : Option Addr) (c0 : Nat) (l0 : List (S124)) (r : ByteArray) (w : World) (hr0 : Kd.C k124 w A0 l0.length l0) (hc0 : l0.length ≤ c0) (h : impl_FormatRows.f k l0 = some r) :
  Calls Try.prog 56 #[.slice A0 l0.length c0] w fun e w' => e = .returned (.string r) ∧ Below w.heap.size w w' := by
 have HR0 := mA hr0
 have HC0 := mA hc0
 clear hr0 hc0
 have HB := mA (Below.refl w.heap.size w)
 have H : ((impl_AreValidRows.f k l0).bind fun t291 => (if t291 = true then ((impl_rowTexts.f k l0).bind fun t292 => (some t292)) else (some (⟨#[]⟩ : ByteArray)))) = some r := h
 clear h
 obtain ⟨t291, A2, H⟩ := Option.bind_eq_some_iff.mp H
 replace A2 := mA A2
 try dsimp only at H
 by_cases c3 : t291 = true
 ·
  subst c3
  rw [if_pos rfl] at H
  obtain ⟨t292, A4, H⟩ := Option.bind_eq_some_iff.mp H
  replace A4 := mA A4
  replace H : (some t292) = some r := H
  obtain rfl := Option.some.inj H
  go_enter Try.func56, Try.ntmps56
  go_wp2_with (first | ((with_reducible refine gate_callee (f := 92) rfl ?_); refine goesT (some 4) Try.func92 #[.slice A0 l0.length c0] ?_; (with_reducible refine (impl_AreValidRows.calls k _ _ l0 true _ ?side1 ?side2 A2.out).mono ?_); (case side1 => exact cT HR0.out); (case side2 => exact HC0.out); rintro e w5 ⟨rfl, hb⟩; refine ⟨_, rfl, ?_⟩; replace HB := mA (below_step (bT HB) hb); (try clear hb)) | ((with_reducible refine gate_callee (f := 94) rfl ?_); refine goesT (some 7) Try.func94 #[.slice A0 l0.length c0] ?_; (with_reducible refine (impl_rowTexts.calls k _ _ l0 t292 _ ?side1 ?side2 A4.out).mono ?_); (case side1 => exact cT (Kd.C_below HR0.out HB.out)); (case side2 => exact HC0.out); rintro e w6 ⟨rfl, hb⟩; refine ⟨_, rfl, ?_⟩; replace HB := mA (below_step (bT HB) hb); (try clear hb)))
  go_ret
  exact ⟨eT, bT HB⟩
 ·
  replace c3 := Bool.eq_false_iff.mpr c3
  subst c3
  rw [if_neg (show ¬ (false = true) by decide)] at H
  obtain rfl := Option.some.inj H
  go_enter Try.func56, Try.ntmps56
  go_wp2_with (first | ((with_reducible refine gate_callee (f := 92) rfl ?_); refine goesT (some 4) Try.func92 #[.slice A0 l0.length c0] ?_; (with_reducible refine (impl_AreValidRows.calls k _ _ l0 false _ ?side1 ?side2 A2.out).mono ?_); (case side1 => exact cT HR0.out); (case side2 => exact HC0.out); rintro e w7 ⟨rfl, hb⟩; refine ⟨_, rfl, ?_⟩; replace HB := mA (below_step (bT HB) hb); (try clear hb)))
  go_ret
  exact ⟨eT, bT HB⟩

end Go.Proofs.Ytnllplklggoabaa.P
