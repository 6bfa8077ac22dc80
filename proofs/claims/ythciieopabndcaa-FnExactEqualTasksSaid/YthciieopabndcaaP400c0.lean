/- Written by tools/seatprint.py over the translation. Lean checks it. -/
import Derived.Test.YthciieopabndcaaP0
import Derived.Test.YthciieopabndcaaP502c0
import Derived.Test.YthciieopabndcaaP583c0
import Derived.Test.YthciieopabndcaaPf3ec0
import Derived.Test.YthciieopabndcaaPf7ec0
namespace Go.Proofs.Ythciieopabndcaa.P
open Go.RowKit Go.Proofs.YthciieopabndcaaW.PrintWords Go.Proofs.YthciieopabndcaaW.PrintLast Go.Proofs.YthciieopabndcaaW.PrintMore
attribute [local go_sem] max2_int min2_int max_two min_two max_three min_three max_four min_four
set_option linter.unusedVariables false
set_option linter.unusedSimpArgs false

/-! ### spec_TaskCost: function 29 -/
def spec_TaskCost.f (k : Nat) (a0_0 : Int) (l0_1 : List (S62)) (l0_2 : List (S62)) (l0_3 : List Bool) (a0_4 : Int) : Option (Int) := (spec_TotalCost.f k l0_1).bind fun t368 => ((spec_TotalCost.f k l0_2).bind fun t369 => (some (wrap64 (t368 + t369))))
theorem spec_TaskCost.mono : ∀ a0 a1 a2 a3 a4 k, LeO (spec_TaskCost.f k a0 a1 a2 a3 a4) (spec_TaskCost.f (k + 1) a0 a1 a2 a3 a4) := by
 intro a0 a1 a2 a3 a4 k
 unfold spec_TaskCost.f
 repeat' first
   | (with_reducible exact spec_TotalCost.mono _ _)
   | (with_reducible exact LeO.refl _)
   | (with_reducible exact LeO.none _)
   | (with_reducible refine LeO.ite ?_ ?_)
   | (with_reducible refine LeO.bind ?_ (fun _ => ?_))
   | exact spec_TotalCost.mono _ _
   | exact LeO.none _
   | refine LeO.ite ?_ ?_
   | refine LeO.bind ?_ (fun _ => ?_)
def spec_TaskCost.T1 : Bool × List (List Nat × List Nat) := (true, [([], []), ([0], [0]), ([1], [1]), ([], []), ([3], [3]), ([4, 2], [4]), ([2, 5], [2, 5]), ([6, 5, 0, 1, 2, 3, 4, 5, 6], [6])])
def spec_TaskCost.B1 : List Nat := [0, 1, 3, 0, 8, 31, 63, 127]
theorem spec_TaskCost.tab1 : rtab .any (opsOf Try.f29 1) = spec_TaskCost.T1 := by kernel_rfl
theorem spec_TaskCost.bits1 : waitsOk spec_TaskCost.T1.2 spec_TaskCost.B1 = true := by kernel_rfl
set_option maxHeartbeats 8000000 in
set_option maxRecDepth 100000 in
theorem spec_TaskCost.calls (k : Nat) (a0_0 : Int) (A0_1 : Option Addr) (c0_1 : Nat) (l0_1 : List (S62)) (A0_2 : Option Addr) (c0_2 : Nat) (l0_2 : List (S62)) (A0_3 : Option Addr) (c0_3 : Nat) (l0_3 : List Bool) (a0_4 : Int) (r : Int) (w : World) (hr0_1 : Kd.C k62 w A0_1 l0_1.length l0_1) (hc0_1 : l0_1.length ≤ c0_1) (hr0_2 : Kd.C k62 w A0_2 l0_2.length l0_2) (hc0_2 : l0_2.length ≤ c0_2) (hr0_3 : Kd.C Kd.bool w A0_3 l0_3.length l0_3) (hc0_3 : l0_3.length ≤ c0_3) (h : spec_TaskCost.f k a0_0 l0_1 l0_2 l0_3 a0_4 = some r) :
  Calls Try.prog 29 #[.agg #[.int .i64 a0_0, .slice A0_1 l0_1.length c0_1, .slice A0_2 l0_2.length c0_2, .slice A0_3 l0_3.length c0_3, .int .i64 a0_4]] w fun e w' => e = .returned (.int .i64 r) ∧ Below w.heap.size w w' := by
 have hu37 := Try.underlying37
 have HR0_1 := mA hr0_1
 have HC0_1 := mA hc0_1
 clear hr0_1 hc0_1
 have HR0_2 := mA hr0_2
 have HC0_2 := mA hc0_2
 clear hr0_2 hc0_2
 have HR0_3 := mA hr0_3
 have HC0_3 := mA hc0_3
 clear hr0_3 hc0_3
 have HB := mA (Below.refl w.heap.size w)
 have H : ((spec_TotalCost.f k l0_1).bind fun t368 => ((spec_TotalCost.f k l0_2).bind fun t369 => (some (wrap64 (t368 + t369))))) = some r := h
 clear h
 obtain ⟨t368, A2, H⟩ := Option.bind_eq_some_iff.mp H
 replace A2 := mA A2
 try dsimp only at H
 obtain ⟨t369, A3, H⟩ := Option.bind_eq_some_iff.mp H
 replace A3 := mA A3
 replace H : (some (wrap64 (t368 + t369))) = some r := H
 obtain rfl := Option.some.inj H
 go_enter Try.func29, Try.ntmps29
 try go_wp2_with (first | ((with_reducible refine gate_dst (N := 1) rfl ?_); refine boxT 1 #[.int .i64 a0_0, .slice A0_1 l0_1.length c0_1, .slice A0_2 l0_2.length c0_2, .slice A0_3 l0_3.length c0_3, .int .i64 a0_4] 37 ?_; intro gb367 hg w4 hbox hb; have BK367 := mA (hbox); have GW367 := mA ((by rw [hg]; exact (below_size (bT HB)) : w.heap.size ≤ gb367)); have GE367 := GW367; replace HB := mA (below_step (bT HB) hb); clear hb hbox hg))
 replace BK367 := mA (blk_drew BK367.out)
 replace HB := mA (below_drew1 HB.out)
 refine start_ (n := 8) (S := fun w' => w'.cell? ⟨gb367, 0, none⟩ = some (.int .i64 a0_0) ∧ w'.cell? ⟨gb367, 1, none⟩ = some (.slice A0_1 l0_1.length c0_1) ∧ w'.cell? ⟨gb367, 2, none⟩ = some (.slice A0_2 l0_2.length c0_2) ∧ w'.cell? ⟨gb367, 3, none⟩ = some (.slice A0_3 l0_3.length c0_3) ∧ w'.cell? ⟨gb367, 4, none⟩ = some (.int .i64 a0_4)) (ds := []) #[false, false, false, false, false, false, false, false] (by kernel_rfl) rfl rfl ⟨(blk_cell BK367.out 0).trans rfl, (blk_cell BK367.out 1).trans rfl, (blk_cell BK367.out 2).trans rfl, (blk_cell BK367.out 3).trans rfl, (blk_cell BK367.out 4).trans rfl⟩ (fun hHeld => ?_); refine with_tabW spec_TaskCost.tab1 spec_TaskCost.bits1 (fun HT_ HW_ => ?_)
 generalize w4.drew = w5 at BK367 HB hHeld ⊢
 refine pureT (i := 0) (N := some 3) #[true, false, false, false, false, false, false, false] (any_of HT_.out (by kernel_rfl)) ?_
 refine pureT (i := 3) (N := some 6) #[true, false, false, true, false, false, false, false] (any_of HT_.out (by kernel_rfl)) ?_
 refine take_ (i := 1) (N := some 4) (v := ?_) (a' := ?_) #[true, true, false, true, false, false, false, false] rfl rfl (take_ofW HT_.out HW_.out (by kernel_rfl)) (fun _ _ _ h => h) (Or.inl ⟨by rfl, ?_⟩) hHeld ?_ ?_
 rotate_left
 ·
  rintro w' ⟨s0, s1, s2, s3, s4⟩
  go_simp
  with_reducible rfl
 rotate_left
 ·
  simp only [Act.put, List.setIfInBounds_toArray, List.set_cons_zero, List.set_cons_succ, i64_w, i32_w]
  rfl
 refine take_ (i := 4) (N := some 7) (v := ?_) (a' := ?_) #[true, true, false, true, true, false, false, false] rfl rfl (take_ofW HT_.out HW_.out (by kernel_rfl)) (fun _ _ _ h => h) (Or.inl ⟨by rfl, ?_⟩) hHeld ?_ ?_
 rotate_left
 ·
  rintro w' ⟨s0, s1, s2, s3, s4⟩
  go_simp
  with_reducible rfl
 rotate_left
 ·
  simp only [Act.put, List.setIfInBounds_toArray, List.set_cons_zero, List.set_cons_succ, i64_w, i32_w]
  rfl
 refine one_ (i := 2) (N := some 5) #[true, true, true, true, true, false, false, false] rfl rfl (one_of HT_.out (by kernel_rfl)) (by decide) (fun K hK => ?_)
 refine goes_ Try.func68 (by kernel_rfl) rfl #[.slice A0_1 l0_1.length c0_1] (by rfl) rfl rfl mT ?_
 with_reducible refine (spec_TotalCost.calls k _ _ l0_1 t368 _ ?side1 ?side2 A2.out).mono ?_
 (case side1 => exact cT (Kd.C_below HR0_1.out HB.out))
 (case side2 => exact HC0_1.out)
 rintro e w6 ⟨rfl, hb⟩
 refine ⟨_, rfl, ?_⟩
 replace BK367 := kB BK367 hb
 replace HB := mA (below_step (bT1 HB GE367) hb)
 (try clear hb)
 (try clear hb2)
 (try clear hk)
 (try clear hi)
 refine hK.out _ _ ⟨(blk_cell BK367.out 0).trans rfl, (blk_cell BK367.out 1).trans rfl, (blk_cell BK367.out 2).trans rfl, (blk_cell BK367.out 3).trans rfl, (blk_cell BK367.out 4).trans rfl⟩ (fun hHeld => ?_)
 clear hK K
 refine norm_ (a' := ?_) ?_ ?_
 rotate_left
 ·
  show Act.put _ (some 5) _ = _
  simp only [Act.put, List.setIfInBounds_toArray, List.set_cons_zero, List.set_cons_succ, i64_w, i32_w]
  rfl
 refine one_ (i := 5) (N := some 8) #[true, true, true, true, true, true, false, false] rfl rfl (one_of HT_.out (by kernel_rfl)) (by decide) (fun K hK => ?_)
 refine goes_ Try.func68 (by kernel_rfl) rfl #[.slice A0_2 l0_2.length c0_2] (by rfl) rfl rfl mT ?_
 with_reducible refine (spec_TotalCost.calls k _ _ l0_2 t369 _ ?side1 ?side2 A3.out).mono ?_
 (case side1 => exact cT (Kd.C_below HR0_2.out HB.out))
 (case side2 => exact HC0_2.out)
 rintro e w7 ⟨rfl, hb⟩
 refine ⟨_, rfl, ?_⟩
 replace BK367 := kB BK367 hb
 replace HB := mA (below_step (bT1 HB GE367) hb)
 (try clear hb)
 (try clear hb2)
 (try clear hk)
 (try clear hi)
 refine hK.out _ _ ⟨(blk_cell BK367.out 0).trans rfl, (blk_cell BK367.out 1).trans rfl, (blk_cell BK367.out 2).trans rfl, (blk_cell BK367.out 3).trans rfl, (blk_cell BK367.out 4).trans rfl⟩ (fun hHeld => ?_)
 clear hK K
 refine norm_ (a' := ?_) ?_ ?_
 rotate_left
 ·
  show Act.put _ (some 8) _ = _
  simp only [Act.put, List.setIfInBounds_toArray, List.set_cons_zero, List.set_cons_succ, i64_w, i32_w]
  rfl
 refine pureT (i := 6) (N := some 9) #[true, true, true, true, true, true, true, false] (any_of HT_.out (by kernel_rfl)) ?_
 refine pureT (i := 7) (N := some 2) #[true, true, true, true, true, true, true, true] (any_of HT_.out (by kernel_rfl)) ?_
 refine done_ (done_of HT_.out (by kernel_rfl)) ?_
 try go_wp2
 go_ret
 exact ⟨eT, bT1 HB GE367⟩

/-! ### impl_TaskCost: function 30 -/
def impl_TaskCost.f (k : Nat) (a0_0 : Int) (l0_1 : List (S62)) (l0_2 : List (S62)) (l0_3 : List Bool) (a0_4 : Int) : Option (Int) := (impl_TotalCost.f k l0_1).bind fun t371 => ((impl_TotalCost.f k l0_2).bind fun t372 => (some (wrap64 (t371 + t372))))
theorem impl_TaskCost.mono : ∀ a0 a1 a2 a3 a4 k, LeO (impl_TaskCost.f k a0 a1 a2 a3 a4) (impl_TaskCost.f (k + 1) a0 a1 a2 a3 a4) := by
 intro a0 a1 a2 a3 a4 k
 unfold impl_TaskCost.f
 repeat' first
   | (with_reducible exact impl_TotalCost.mono _ _)
   | (with_reducible exact LeO.refl _)
   | (with_reducible exact LeO.none _)
   | (with_reducible refine LeO.ite ?_ ?_)
   | (with_reducible refine LeO.bind ?_ (fun _ => ?_))
   | exact impl_TotalCost.mono _ _
   | exact LeO.none _
   | refine LeO.ite ?_ ?_
   | refine LeO.bind ?_ (fun _ => ?_)
def impl_TaskCost.T1 : Bool × List (List Nat × List Nat) := (true, [([], []), ([0], [0]), ([1], [1]), ([], []), ([3], [3]), ([4, 2], [4]), ([2, 5], [2, 5]), ([6, 5, 0, 1, 2, 3, 4, 5, 6], [6])])
def impl_TaskCost.B1 : List Nat := [0, 1, 3, 0, 8, 31, 63, 127]
theorem impl_TaskCost.tab1 : rtab .any (opsOf Try.f30 1) = impl_TaskCost.T1 := by kernel_rfl
theorem impl_TaskCost.bits1 : waitsOk impl_TaskCost.T1.2 impl_TaskCost.B1 = true := by kernel_rfl
set_option maxHeartbeats 8000000 in
set_option maxRecDepth 100000 in
theorem impl_TaskCost.calls (k : Nat) (a0_0 : Int) (A0_1 : Option Addr) (c0_1 : Nat) (l0_1 : List (S62)) (A0_2 : Option Addr) (c0_2 : Nat) (l0_2 : List (S62)) (A0_3 : Option Addr) (c0_3 : Nat) (l0_3 : List Bool) (a0_4 : Int) (r : Int) (w : World) (hr0_1 : Kd.C k62 w A0_1 l0_1.length l0_1) (hc0_1 : l0_1.length ≤ c0_1) (hr0_2 : Kd.C k62 w A0_2 l0_2.length l0_2) (hc0_2 : l0_2.length ≤ c0_2) (hr0_3 : Kd.C Kd.bool w A0_3 l0_3.length l0_3) (hc0_3 : l0_3.length ≤ c0_3) (h : impl_TaskCost.f k a0_0 l0_1 l0_2 l0_3 a0_4 = some r) :
  Calls Try.prog 30 #[.agg #[.int .i64 a0_0, .slice A0_1 l0_1.length c0_1, .slice A0_2 l0_2.length c0_2, .slice A0_3 l0_3.length c0_3, .int .i64 a0_4]] w fun e w' => e = .returned (.int .i64 r) ∧ Below w.heap.size w w' := by
 have hu37 := Try.underlying37
 have HR0_1 := mA hr0_1
 have HC0_1 := mA hc0_1
 clear hr0_1 hc0_1
 have HR0_2 := mA hr0_2
 have HC0_2 := mA hc0_2
 clear hr0_2 hc0_2
 have HR0_3 := mA hr0_3
 have HC0_3 := mA hc0_3
 clear hr0_3 hc0_3
 have HB := mA (Below.refl w.heap.size w)
 have H : ((impl_TotalCost.f k l0_1).bind fun t371 => ((impl_TotalCost.f k l0_2).bind fun t372 => (some (wrap64 (t371 + t372))))) = some r := h
 clear h
 obtain ⟨t371, A2, H⟩ := Option.bind_eq_some_iff.mp H
 replace A2 := mA A2
 try dsimp only at H
 obtain ⟨t372, A3, H⟩ := Option.bind_eq_some_iff.mp H
 replace A3 := mA A3
 replace H : (some (wrap64 (t371 + t372))) = some r := H
 obtain rfl := Option.some.inj H
 go_enter Try.func30, Try.ntmps30
 try go_wp2_with (first | ((with_reducible refine gate_dst (N := 1) rfl ?_); refine boxT 1 #[.int .i64 a0_0, .slice A0_1 l0_1.length c0_1, .slice A0_2 l0_2.length c0_2, .slice A0_3 l0_3.length c0_3, .int .i64 a0_4] 37 ?_; intro gb370 hg w4 hbox hb; have BK370 := mA (hbox); have GW370 := mA ((by rw [hg]; exact (below_size (bT HB)) : w.heap.size ≤ gb370)); have GE370 := GW370; replace HB := mA (below_step (bT HB) hb); clear hb hbox hg))
 replace BK370 := mA (blk_drew BK370.out)
 replace HB := mA (below_drew1 HB.out)
 refine start_ (n := 8) (S := fun w' => w'.cell? ⟨gb370, 0, none⟩ = some (.int .i64 a0_0) ∧ w'.cell? ⟨gb370, 1, none⟩ = some (.slice A0_1 l0_1.length c0_1) ∧ w'.cell? ⟨gb370, 2, none⟩ = some (.slice A0_2 l0_2.length c0_2) ∧ w'.cell? ⟨gb370, 3, none⟩ = some (.slice A0_3 l0_3.length c0_3) ∧ w'.cell? ⟨gb370, 4, none⟩ = some (.int .i64 a0_4)) (ds := []) #[false, false, false, false, false, false, false, false] (by kernel_rfl) rfl rfl ⟨(blk_cell BK370.out 0).trans rfl, (blk_cell BK370.out 1).trans rfl, (blk_cell BK370.out 2).trans rfl, (blk_cell BK370.out 3).trans rfl, (blk_cell BK370.out 4).trans rfl⟩ (fun hHeld => ?_); refine with_tabW impl_TaskCost.tab1 impl_TaskCost.bits1 (fun HT_ HW_ => ?_)
 generalize w4.drew = w5 at BK370 HB hHeld ⊢
 refine pureT (i := 0) (N := some 3) #[true, false, false, false, false, false, false, false] (any_of HT_.out (by kernel_rfl)) ?_
 refine pureT (i := 3) (N := some 6) #[true, false, false, true, false, false, false, false] (any_of HT_.out (by kernel_rfl)) ?_
 refine take_ (i := 1) (N := some 4) (v := ?_) (a' := ?_) #[true, true, false, true, false, false, false, false] rfl rfl (take_ofW HT_.out HW_.out (by kernel_rfl)) (fun _ _ _ h => h) (Or.inl ⟨by rfl, ?_⟩) hHeld ?_ ?_
 rotate_left
 ·
  rintro w' ⟨s0, s1, s2, s3, s4⟩
  go_simp
  with_reducible rfl
 rotate_left
 ·
  simp only [Act.put, List.setIfInBounds_toArray, List.set_cons_zero, List.set_cons_succ, i64_w, i32_w]
  rfl
 refine take_ (i := 4) (N := some 7) (v := ?_) (a' := ?_) #[true, true, false, true, true, false, false, false] rfl rfl (take_ofW HT_.out HW_.out (by kernel_rfl)) (fun _ _ _ h => h) (Or.inl ⟨by rfl, ?_⟩) hHeld ?_ ?_
 rotate_left
 ·
  rintro w' ⟨s0, s1, s2, s3, s4⟩
  go_simp
  with_reducible rfl
 rotate_left
 ·
  simp only [Act.put, List.setIfInBounds_toArray, List.set_cons_zero, List.set_cons_succ, i64_w, i32_w]
  rfl
 refine one_ (i := 2) (N := some 5) #[true, true, true, true, true, false, false, false] rfl rfl (one_of HT_.out (by kernel_rfl)) (by decide) (fun K hK => ?_)
 refine goes_ Try.func54 (by kernel_rfl) rfl #[.slice A0_1 l0_1.length c0_1] (by rfl) rfl rfl mT ?_
 with_reducible refine (impl_TotalCost.calls k _ _ l0_1 t371 _ ?side1 ?side2 A2.out).mono ?_
 (case side1 => exact cT (Kd.C_below HR0_1.out HB.out))
 (case side2 => exact HC0_1.out)
 rintro e w6 ⟨rfl, hb⟩
 refine ⟨_, rfl, ?_⟩
 replace BK370 := kB BK370 hb
 replace HB := mA (below_step (bT1 HB GE370) hb)
 (try clear hb)
 (try clear hb2)
 (try clear hk)
 (try clear hi)
 refine hK.out _ _ ⟨(blk_cell BK370.out 0).trans rfl, (blk_cell BK370.out 1).trans rfl, (blk_cell BK370.out 2).trans rfl, (blk_cell BK370.out 3).trans rfl, (blk_cell BK370.out 4).trans rfl⟩ (fun hHeld => ?_)
 clear hK K
 refine norm_ (a' := ?_) ?_ ?_
 rotate_left
 ·
  show Act.put _ (some 5) _ = _
  simp only [Act.put, List.setIfInBounds_toArray, List.set_cons_zero, List.set_cons_succ, i64_w, i32_w]
  rfl
 refine one_ (i := 5) (N := some 8) #[true, true, true, true, true, true, false, false] rfl rfl (one_of HT_.out (by kernel_rfl)) (by decide) (fun K hK => ?_)
 refine goes_ Try.func54 (by kernel_rfl) rfl #[.slice A0_2 l0_2.length c0_2] (by rfl) rfl rfl mT ?_
 with_reducible refine (impl_TotalCost.calls k _ _ l0_2 t372 _ ?side1 ?side2 A3.out).mono ?_
 (case side1 => exact cT (Kd.C_below HR0_2.out HB.out))
 (case side2 => exact HC0_2.out)
 rintro e w7 ⟨rfl, hb⟩
 refine ⟨_, rfl, ?_⟩
 replace BK370 := kB BK370 hb
 replace HB := mA (below_step (bT1 HB GE370) hb)
 (try clear hb)
 (try clear hb2)
 (try clear hk)
 (try clear hi)
 refine hK.out _ _ ⟨(blk_cell BK370.out 0).trans rfl, (blk_cell BK370.out 1).trans rfl, (blk_cell BK370.out 2).trans rfl, (blk_cell BK370.out 3).trans rfl, (blk_cell BK370.out 4).trans rfl⟩ (fun hHeld => ?_)
 clear hK K
 refine norm_ (a' := ?_) ?_ ?_
 rotate_left
 ·
  show Act.put _ (some 8) _ = _
  simp only [Act.put, List.setIfInBounds_toArray, List.set_cons_zero, List.set_cons_succ, i64_w, i32_w]
  rfl
 refine pureT (i := 6) (N := some 9) #[true, true, true, true, true, true, true, false] (any_of HT_.out (by kernel_rfl)) ?_
 refine pureT (i := 7) (N := some 2) #[true, true, true, true, true, true, true, true] (any_of HT_.out (by kernel_rfl)) ?_
 refine done_ (done_of HT_.out (by kernel_rfl)) ?_
 try go_wp2
 go_ret
 exact ⟨eT, bT1 HB GE370⟩

/-! ### laws_FnExactTaskCost: function 6 -/
def laws_FnExactTaskCost.f (k : Nat) (a0_0 : Int) (l0_1 : List (S64)) (l0_2 : List (S64)) (l0_3 : List Bool) (a0_4 : Int) : Option (Bool) := (laws_szTask.f a0_0 l0_1 l0_2 l0_3 a0_4 1048576).bind fun t374 => (if t374 < 0 then (some true) else ((laws_toTask.f k a0_0 l0_1 l0_2 l0_3 a0_4).bind fun bt375 => ((spec_TaskCost.f k bt375.1 bt375.2.1 bt375.2.2.1 bt375.2.2.2.1 bt375.2.2.2.2).bind fun t386 => ((laws_toTask.f k a0_0 l0_1 l0_2 l0_3 a0_4).bind fun bt387 => ((impl_TaskCost.f k bt387.1 bt387.2.1 bt387.2.2.1 bt387.2.2.2.1 bt387.2.2.2.2).bind fun t399 => (if t399 = t386 then ((laws_toTask.f k a0_0 l0_1 l0_2 l0_3 a0_4).bind fun bt400 => ((laws_eqTask.f k bt387.1 bt387.2.1 bt387.2.2.1 bt387.2.2.2.1 bt387.2.2.2.2 bt400.1 bt400.2.1 bt400.2.2.1 bt400.2.2.2.1 bt400.2.2.2.2).bind fun t411 => (if t411 = true then (some true) else (some false)))) else (some false)))))))
theorem laws_FnExactTaskCost.mono : ∀ a0 a1 a2 a3 a4 k, LeO (laws_FnExactTaskCost.f k a0 a1 a2 a3 a4) (laws_FnExactTaskCost.f (k + 1) a0 a1 a2 a3 a4) := by
 intro a0 a1 a2 a3 a4 k
 unfold laws_FnExactTaskCost.f
 repeat' first
   | (with_reducible exact impl_TaskCost.mono _ _ _ _ _ _)
   | (with_reducible exact laws_eqTask.mono _ _ _ _ _ _ _ _ _ _ _)
   | (with_reducible exact laws_toTask.mono _ _ _ _ _ _)
   | (with_reducible exact spec_TaskCost.mono _ _ _ _ _ _)
   | (with_reducible exact LeO.refl _)
   | (with_reducible exact LeO.none _)
   | (with_reducible refine LeO.ite ?_ ?_)
   | (with_reducible refine LeO.bind ?_ (fun _ => ?_))
   | exact impl_TaskCost.mono _ _ _ _ _ _
   | exact laws_eqTask.mono _ _ _ _ _ _ _ _ _ _ _
   | exact laws_toTask.mono _ _ _ _ _ _
   | exact spec_TaskCost.mono _ _ _ _ _ _
   | exact LeO.none _
   | refine LeO.ite ?_ ?_
   | refine LeO.bind ?_ (fun _ => ?_)
set_option maxHeartbeats 8000000 in
set_option maxRecDepth 100000 in
theorem laws_FnExactTaskCost.calls (k : Nat) (a0_0 : Int) (A0_1 : Option Addr) (c0_1 : Nat) (l0_1 : List (S64)) (A0_2 : Option Addr) (c0_2 : Nat) (l0_2 : List (S64)) (A0_3 : Option Addr) (c0_3 : Nat) (l0_3 : List Bool) (a0_4 : Int) (r : Bool) (w : World) (hr0_1 : Kd.C k64 w A0_1 l0_1.length l0_1) (hc0_1 : l0_1.length ≤ c0_1) (hr0_2 : Kd.C k64 w A0_2 l0_2.length l0_2) (hc0_2 : l0_2.length ≤ c0_2) (hr0_3 : Kd.C Kd.bool w A0_3 l0_3.length l0_3) (hc0_3 : l0_3.length ≤ c0_3) (ht : r = true) (h : laws_FnExactTaskCost.f k a0_0 l0_1 l0_2 l0_3 a0_4 = some r) :
  Calls Try.prog 6 #[.agg #[.int .i64 a0_0, .slice A0_1 l0_1.length c0_1, .slice A0_2 l0_2.length c0_2, .slice A0_3 l0_3.length c0_3, .int .i64 a0_4]] w fun e w' => e = .returned (.bool r) ∧ Below w.heap.size w w' := by
 have hu33 := Try.underlying33
 have hu37 := Try.underlying37
 have HR0_1 := mA hr0_1
 have HC0_1 := mA hc0_1
 clear hr0_1 hc0_1
 have HR0_2 := mA hr0_2
 have HC0_2 := mA hc0_2
 clear hr0_2 hc0_2
 have HR0_3 := mA hr0_3
 have HC0_3 := mA hc0_3
 clear hr0_3 hc0_3
 have HB := mA (Below.refl w.heap.size w)
 have HT := mA ht
 clear ht
 have H : ((laws_szTask.f a0_0 l0_1 l0_2 l0_3 a0_4 1048576).bind fun t374 => (if t374 < 0 then (some true) else ((laws_toTask.f k a0_0 l0_1 l0_2 l0_3 a0_4).bind fun bt375 => ((spec_TaskCost.f k bt375.1 bt375.2.1 bt375.2.2.1 bt375.2.2.2.1 bt375.2.2.2.2).bind fun t386 => ((laws_toTask.f k a0_0 l0_1 l0_2 l0_3 a0_4).bind fun bt387 => ((impl_TaskCost.f k bt387.1 bt387.2.1 bt387.2.2.1 bt387.2.2.2.1 bt387.2.2.2.2).bind fun t399 => (if t399 = t386 then ((laws_toTask.f k a0_0 l0_1 l0_2 l0_3 a0_4).bind fun bt400 => ((laws_eqTask.f k bt387.1 bt387.2.1 bt387.2.2.1 bt387.2.2.2.1 bt387.2.2.2.2 bt400.1 bt400.2.1 bt400.2.2.1 bt400.2.2.2.1 bt400.2.2.2.2).bind fun t411 => (if t411 = true then (some true) else (some false)))) else (some false)))))))) = some r := h
 clear h
 obtain ⟨t374, A2, H⟩ := Option.bind_eq_some_iff.mp H
 replace A2 := mA A2
 try dsimp only at H
 by_cases c3 : t374 < 0
 ·
  rw [if_pos c3] at H
  have c3b0 : decide (t374 < 0) = true := decide_eq_true c3
  clear c3
  obtain rfl := Option.some.inj H
  go_enter Try.func6, Try.ntmps6
  go_wp2_with (first | ((with_reducible refine gate_dst (N := 1) rfl ?_); refine boxT 1 #[.int .i64 a0_0, .slice A0_1 l0_1.length c0_1, .slice A0_2 l0_2.length c0_2, .slice A0_3 l0_3.length c0_3, .int .i64 a0_4] 33 ?_; intro gb373 hg w4 hbox hb; have BK373 := mA (hbox); have GW373 := mA ((by rw [hg]; exact (below_size (bT HB)) : w.heap.size ≤ gb373)); have GE373 := GW373; replace HB := mA (below_step (bT HB) hb); clear hb hbox hg; obtain ⟨hcz5_0, hcz5_1, hcz5_2, hcz5_3, hcz5_4, hfz5_0, hfz5_1, hfz5_2, hfz5_3, hfz5_4⟩ := blk5 BK373.out) | ((with_reducible refine gate_callee (f := 22) rfl ?_); refine goesT (some 9) Try.func22 #[.agg #[.int .i64 a0_0, .slice A0_1 l0_1.length c0_1, .slice A0_2 l0_2.length c0_2, .slice A0_3 l0_3.length c0_3, .int .i64 a0_4], .int .i64 1048576] ?_; (with_reducible refine (laws_szTask.calls a0_0 _ _ l0_1 _ _ l0_2 _ _ l0_3 a0_4 1048576 t374 _ ?side1 ?side2 ?side3 ?side4 ?side5 ?side6 A2.out).mono ?_); (case side1 => exact cT (Kd.C_below HR0_1.out HB.out)); (case side2 => exact HC0_1.out); (case side3 => exact cT (Kd.C_below HR0_2.out HB.out)); (case side4 => exact HC0_2.out); (case side5 => exact cT (Kd.C_below HR0_3.out HB.out)); (case side6 => exact HC0_3.out); rintro e w6 ⟨rfl, hb⟩; refine ⟨_, rfl, ?_⟩; replace HB := mA (below_step (bT1 HB GE373) hb); (try clear hb)))
  go_ret
  exact ⟨eT, bT1 HB GE373⟩
 ·
  rw [if_neg c3] at H
  have c3b0 : decide (t374 < 0) = false := decide_eq_false c3
  clear c3
  obtain ⟨⟨t375, t376, t379, t382, t385⟩, A7, H⟩ := Option.bind_eq_some_iff.mp H
  replace A7 := mA A7
  try dsimp only at H
  obtain ⟨t386, A8, H⟩ := Option.bind_eq_some_iff.mp H
  replace A8 := mA A8
  try dsimp only at H
  obtain ⟨⟨t387, t388, t391, t394, t397⟩, A9, H⟩ := Option.bind_eq_some_iff.mp H
  replace A9 := mA A9
  try dsimp only at H
  obtain ⟨t399, A10, H⟩ := Option.bind_eq_some_iff.mp H
  replace A10 := mA A10
  try dsimp only at H
  by_cases c11 : t399 = t386
  ·
   rw [if_pos c11] at H
   have c11b0 : (t399 == t386) = true := beq_iff_eq.mpr c11
   have c11b1 : (t399 != t386) = false := bne_eq_false_iff_eq.mpr c11
   clear c11
   obtain ⟨⟨t400, t401, t404, t407, t410⟩, A12, H⟩ := Option.bind_eq_some_iff.mp H
   replace A12 := mA A12
   try dsimp only at H
   obtain ⟨t411, A13, H⟩ := Option.bind_eq_some_iff.mp H
   replace A13 := mA A13
   replace H : (if t411 = true then (some true) else (some false)) = some r := H
   by_cases c14 : t411 = true
   ·
    subst c14
    rw [if_pos rfl] at H
    obtain rfl := Option.some.inj H
    go_enter Try.func6, Try.ntmps6
    try go_wp2_with (first | ((with_reducible refine gate_dst (N := 1) rfl ?_); refine boxT 1 #[.int .i64 a0_0, .slice A0_1 l0_1.length c0_1, .slice A0_2 l0_2.length c0_2, .slice A0_3 l0_3.length c0_3, .int .i64 a0_4] 33 ?_; intro gb373 hg w15 hbox hb; have BK373 := mA (hbox); have GW373 := mA ((by rw [hg]; exact (below_size (bT HB)) : w.heap.size ≤ gb373)); have GE373 := GW373; replace HB := mA (below_step (bT HB) hb); clear hb hbox hg; obtain ⟨hcz16_0, hcz16_1, hcz16_2, hcz16_3, hcz16_4, hfz16_0, hfz16_1, hfz16_2, hfz16_3, hfz16_4⟩ := blk5 BK373.out) | ((with_reducible refine gate_callee (f := 22) rfl ?_); refine goesT (some 9) Try.func22 #[.agg #[.int .i64 a0_0, .slice A0_1 l0_1.length c0_1, .slice A0_2 l0_2.length c0_2, .slice A0_3 l0_3.length c0_3, .int .i64 a0_4], .int .i64 1048576] ?_; (with_reducible refine (laws_szTask.calls a0_0 _ _ l0_1 _ _ l0_2 _ _ l0_3 a0_4 1048576 t374 _ ?side1 ?side2 ?side3 ?side4 ?side5 ?side6 A2.out).mono ?_); (case side1 => exact cT (Kd.C_below HR0_1.out HB.out)); (case side2 => exact HC0_1.out); (case side3 => exact cT (Kd.C_below HR0_2.out HB.out)); (case side4 => exact HC0_2.out); (case side5 => exact cT (Kd.C_below HR0_3.out HB.out)); (case side6 => exact HC0_3.out); rintro e w17 ⟨rfl, hb⟩; refine ⟨_, rfl, ?_⟩; replace BK373 := kB BK373 hb; replace HB := mA (below_step (bT1 HB GE373) hb); (try clear hb); (try clear hk); obtain ⟨hcz18_0, hcz18_1, hcz18_2, hcz18_3, hcz18_4, hfz18_0, hfz18_1, hfz18_2, hfz18_3, hfz18_4⟩ := blk5 BK373.out) | ((with_reducible refine gate_callee (f := 24) rfl ?_); refine goesT (some 13) Try.func24 #[.agg #[.int .i64 a0_0, .slice A0_1 l0_1.length c0_1, .slice A0_2 l0_2.length c0_2, .slice A0_3 l0_3.length c0_3, .int .i64 a0_4]] ?_; (with_reducible refine (laws_toTask.calls k a0_0 _ _ l0_1 _ _ l0_2 _ _ l0_3 a0_4 t375 t376 t379 t382 t385 _ ?side1 ?side2 ?side3 ?side4 ?side5 ?side6 A7.out).mono ?_); (case side1 => exact cT (Kd.C_below HR0_1.out HB.out)); (case side2 => exact HC0_1.out); (case side3 => exact cT (Kd.C_below HR0_2.out HB.out)); (case side4 => exact HC0_2.out); (case side5 => exact cT (Kd.C_below HR0_3.out HB.out)); (case side6 => exact HC0_3.out); rintro e w19 ⟨v377, v380, v383, rfl, ho0, ho1, ho2, hb⟩; refine ⟨_, rfl, ?_⟩; have HO378 := mA (Kd.R_lower ho0 (below_size (bT1 HB GE373))); have HO381 := mA (Kd.R_lower ho1 (below_size (bT1 HB GE373))); have HO384 := mA (Kd.R_lower ho2 (below_size (bT1 HB GE373))); replace BK373 := kB BK373 hb; replace HB := mA (below_step (bT1 HB GE373) hb); (try clear hb); (try clear hk); (try clear ho0); (try clear ho1); (try clear ho2); obtain ⟨Ao20, co20, eo20⟩ := Kd.R_slice HO378.out; subst eo20; obtain ⟨Ao21, co21, eo21⟩ := Kd.R_slice HO381.out; subst eo21; obtain ⟨Ao22, co22, eo22⟩ := Kd.R_slice HO384.out; subst eo22) | ((with_reducible refine gate_callee (f := 29) rfl ?_); refine goesT (some 14) Try.func29 #[.agg #[.int .i64 t375, .slice Ao20 t376.length co20, .slice Ao21 t379.length co21, .slice Ao22 t382.length co22, .int .i64 t385]] ?_; (with_reducible refine (spec_TaskCost.calls k t375 _ _ t376 _ _ t379 _ _ t382 t385 t386 _ ?side1 ?side2 ?side3 ?side4 ?side5 ?side6 A8.out).mono ?_); (case side1 => exact cT ((Kd.R_reads' HO378.out).2.2)); (case side2 => exact (Kd.R_reads' HO378.out).2.1); (case side3 => exact cT ((Kd.R_reads' HO381.out).2.2)); (case side4 => exact (Kd.R_reads' HO381.out).2.1); (case side5 => exact cT ((Kd.R_reads' HO384.out).2.2)); (case side6 => exact (Kd.R_reads' HO384.out).2.1); rintro e w23 ⟨rfl, hb⟩; refine ⟨_, rfl, ?_⟩; replace HO378 := rBR HO378 hb; replace HO381 := rBR HO381 hb; replace HO384 := rBR HO384 hb; replace BK373 := kB BK373 hb; replace HB := mA (below_step (bT1 HB GE373) hb); (try clear hb); (try clear hk); obtain ⟨hcz24_0, hcz24_1, hcz24_2, hcz24_3, hcz24_4, hfz24_0, hfz24_1, hfz24_2, hfz24_3, hfz24_4⟩ := blk5 BK373.out) | ((with_reducible refine gate_callee (f := 24) rfl ?_); refine goesT (some 16) Try.func24 #[.agg #[.int .i64 a0_0, .slice A0_1 l0_1.length c0_1, .slice A0_2 l0_2.length c0_2, .slice A0_3 l0_3.length c0_3, .int .i64 a0_4]] ?_; (with_reducible refine (laws_toTask.calls k a0_0 _ _ l0_1 _ _ l0_2 _ _ l0_3 a0_4 t387 t388 t391 t394 t397 _ ?side1 ?side2 ?side3 ?side4 ?side5 ?side6 A9.out).mono ?_); (case side1 => exact cT (Kd.C_below HR0_1.out HB.out)); (case side2 => exact HC0_1.out); (case side3 => exact cT (Kd.C_below HR0_2.out HB.out)); (case side4 => exact HC0_2.out); (case side5 => exact cT (Kd.C_below HR0_3.out HB.out)); (case side6 => exact HC0_3.out); rintro e w25 ⟨v389, v392, v395, rfl, ho0, ho1, ho2, hb⟩; refine ⟨_, rfl, ?_⟩; have HO390 := mA (Kd.R_lower (Kd.R_new' (Kd.R_new' ho0 (Kd.R_lt (rTR HO378))) (Kd.R_lt (rTR HO381))) (below_size (bT1 HB GE373))); have HO393 := mA (Kd.R_lower (Kd.R_new' (Kd.R_new' ho1 (Kd.R_lt (rTR HO378))) (Kd.R_lt (rTR HO381))) (below_size (bT1 HB GE373))); replace HO378 := mA (Kd.R_mono (Kd.R_told (Kd.R_told (Kd.R_old (rTR HO378) hb) (Kd.R_base ho0)) (Kd.R_base ho1)) (fun _ h_ => h_.1)); replace HO381 := mA (Kd.R_mono (Kd.R_told (Kd.R_told (Kd.R_old (rTR HO381) hb) (Kd.R_base ho0)) (Kd.R_base ho1)) (fun _ h_ => h_.1)); have HO396 := mA (Kd.R_lower (Kd.R_new' ho2 (Kd.R_lt (rTR HO384))) (below_size (bT1 HB GE373))); replace HO384 := mA (Kd.R_elder' (rTR HO384) (Kd.R_base ho2) hb); replace BK373 := kB BK373 hb; replace HB := mA (below_step (bT1 HB GE373) hb); (try clear hb); (try clear hk); (try clear ho0); (try clear ho1); (try clear ho2)) | ((with_reducible refine gate_dst (N := 5) rfl ?_); refine boxT 5 #[.int .i64 0, .slice none 0 0, .slice none 0 0, .slice none 0 0, .int .i64 0] 37 ?_; intro gb398 hg w26 hbox hb; replace HO378 := rBR HO378 hb; replace HO381 := rBR HO381 hb; replace HO384 := rBR HO384 hb; replace HO390 := rBR HO390 hb; replace HO393 := rBR HO393 hb; replace HO396 := rBR HO396 hb; have BK398 := mA (hbox); have GW398 := mA ((by rw [hg]; exact (below_size (bT1 HB GE373)) : w.heap.size ≤ gb398)); have GE398 := GW398; replace HB := mA (below_step (bT1 HB GE373) hb); have NB373_398 : Aside0 (gb373 ≠ gb398) := nL BK373 hg; have NB398_373 : Aside0 (gb398 ≠ gb373) := nG BK373 hg; replace BK373 := kB BK373 hb; clear hb hbox hg; have hnb27 := NB398_373.out; have hnc27 := NB373_398.out; obtain ⟨hcz28_0, hcz28_1, hcz28_2, hcz28_3, hcz28_4, hfz28_0, hfz28_1, hfz28_2, hfz28_3, hfz28_4⟩ := blk5 BK398.out; obtain ⟨Ao29, co29, eo29⟩ := Kd.R_slice HO390.out; subst eo29; obtain ⟨Ao30, co30, eo30⟩ := Kd.R_slice HO393.out; subst eo30; obtain ⟨Ao31, co31, eo31⟩ := Kd.R_slice HO396.out; subst eo31) | ((with_reducible refine gate_callee (f := 30) rfl ?_); refine goesT (some 18) Try.func30 #[.agg #[.int .i64 t387, .slice Ao29 t388.length co29, .slice Ao30 t391.length co30, .slice Ao31 t394.length co31, .int .i64 t397]] ?_; (with_reducible refine (impl_TaskCost.calls k t387 _ _ t388 _ _ t391 _ _ t394 t397 t399 _ ?side1 ?side2 ?side3 ?side4 ?side5 ?side6 A10.out).mono ?_); (case side1 => refine (Kd.R_reads' (e := 62) (base := w.heap.size) (ok := fun k_ => ((some k_ ≠ (.slice Ao30 t391.length co30 : Value).ownBlock ∧ some k_ ≠ (.slice Ao20 t376.length co20 : Value).ownBlock) ∧ some k_ ≠ (.slice Ao21 t379.length co21 : Value).ownBlock)) (n := t388.length) (c := co29) ?_).2.2; exact (by (with_reducible repeat (first | apply Kd.R_alloc | apply Kd.R_drewN | apply Kd.R_drew)); exact (Kd.R_mono (Kd.R_far (p := ⟨gb398, 4, none⟩) (Kd.R_far (p := ⟨gb398, 3, none⟩) (Kd.R_far (p := ⟨gb398, 2, none⟩) (Kd.R_far (p := ⟨gb398, 1, none⟩) (Kd.R_far (p := ⟨gb398, 0, none⟩) (Kd.R_types HO390.out BK398.out (by decide)) (fun _ hk => hk.2) (.int .i64 t387)) (fun _ hk => hk.2) (.slice Ao29 t388.length co29)) (fun _ hk => hk.2) (.slice Ao30 t391.length co30)) (fun _ hk => hk.2) (.slice Ao31 t394.length co31)) (fun _ hk => hk.2) (.int .i64 t397)) (fun _ h_ => h_.1)))); (case side2 => exact (Kd.R_reads' HO390.out).2.1); (case side3 => refine (Kd.R_reads' (e := 62) (base := w.heap.size) (ok := fun k_ => ((some k_ ≠ (.slice Ao29 t388.length co29 : Value).ownBlock ∧ some k_ ≠ (.slice Ao20 t376.length co20 : Value).ownBlock) ∧ some k_ ≠ (.slice Ao21 t379.length co21 : Value).ownBlock)) (n := t391.length) (c := co30) ?_).2.2; exact (by (with_reducible repeat (first | apply Kd.R_alloc | apply Kd.R_drewN | apply Kd.R_drew)); exact (Kd.R_mono (Kd.R_far (p := ⟨gb398, 4, none⟩) (Kd.R_far (p := ⟨gb398, 3, none⟩) (Kd.R_far (p := ⟨gb398, 2, none⟩) (Kd.R_far (p := ⟨gb398, 1, none⟩) (Kd.R_far (p := ⟨gb398, 0, none⟩) (Kd.R_types HO393.out BK398.out (by decide)) (fun _ hk => hk.2) (.int .i64 t387)) (fun _ hk => hk.2) (.slice Ao29 t388.length co29)) (fun _ hk => hk.2) (.slice Ao30 t391.length co30)) (fun _ hk => hk.2) (.slice Ao31 t394.length co31)) (fun _ hk => hk.2) (.int .i64 t397)) (fun _ h_ => h_.1)))); (case side4 => exact (Kd.R_reads' HO393.out).2.1); (case side5 => refine (Kd.R_reads' (e := 4) (base := w.heap.size) (ok := fun k_ => (True ∧ some k_ ≠ (.slice Ao22 t382.length co22 : Value).ownBlock)) (n := t394.length) (c := co31) ?_).2.2; exact (by (with_reducible repeat (first | apply Kd.R_alloc | apply Kd.R_drewN | apply Kd.R_drew)); exact (Kd.R_mono (Kd.R_far (p := ⟨gb398, 4, none⟩) (Kd.R_far (p := ⟨gb398, 3, none⟩) (Kd.R_far (p := ⟨gb398, 2, none⟩) (Kd.R_far (p := ⟨gb398, 1, none⟩) (Kd.R_far (p := ⟨gb398, 0, none⟩) (Kd.R_types HO396.out BK398.out (by decide)) (fun _ hk => hk.2) (.int .i64 t387)) (fun _ hk => hk.2) (.slice Ao29 t388.length co29)) (fun _ hk => hk.2) (.slice Ao30 t391.length co30)) (fun _ hk => hk.2) (.slice Ao31 t394.length co31)) (fun _ hk => hk.2) (.int .i64 t397)) (fun _ h_ => h_.1)))); (case side6 => exact (Kd.R_reads' HO396.out).2.1); rintro e w32 ⟨rfl, hb⟩; refine ⟨_, rfl, ?_⟩; replace HO378 := mA (Kd.R_below (by (with_reducible repeat (first | apply Kd.R_alloc | apply Kd.R_drewN | apply Kd.R_drew)); exact (Kd.R_mono (Kd.R_far (p := ⟨gb398, 4, none⟩) (Kd.R_far (p := ⟨gb398, 3, none⟩) (Kd.R_far (p := ⟨gb398, 2, none⟩) (Kd.R_far (p := ⟨gb398, 1, none⟩) (Kd.R_far (p := ⟨gb398, 0, none⟩) (Kd.R_types HO378.out BK398.out (by decide)) (fun _ hk => hk.2) (.int .i64 t387)) (fun _ hk => hk.2) (.slice Ao29 t388.length co29)) (fun _ hk => hk.2) (.slice Ao30 t391.length co30)) (fun _ hk => hk.2) (.slice Ao31 t394.length co31)) (fun _ hk => hk.2) (.int .i64 t397)) (fun _ h_ => h_.1))) hb); replace HO381 := mA (Kd.R_below (by (with_reducible repeat (first | apply Kd.R_alloc | apply Kd.R_drewN | apply Kd.R_drew)); exact (Kd.R_mono (Kd.R_far (p := ⟨gb398, 4, none⟩) (Kd.R_far (p := ⟨gb398, 3, none⟩) (Kd.R_far (p := ⟨gb398, 2, none⟩) (Kd.R_far (p := ⟨gb398, 1, none⟩) (Kd.R_far (p := ⟨gb398, 0, none⟩) (Kd.R_types HO381.out BK398.out (by decide)) (fun _ hk => hk.2) (.int .i64 t387)) (fun _ hk => hk.2) (.slice Ao29 t388.length co29)) (fun _ hk => hk.2) (.slice Ao30 t391.length co30)) (fun _ hk => hk.2) (.slice Ao31 t394.length co31)) (fun _ hk => hk.2) (.int .i64 t397)) (fun _ h_ => h_.1))) hb); replace HO384 := mA (Kd.R_below (by (with_reducible repeat (first | apply Kd.R_alloc | apply Kd.R_drewN | apply Kd.R_drew)); exact (Kd.R_mono (Kd.R_far (p := ⟨gb398, 4, none⟩) (Kd.R_far (p := ⟨gb398, 3, none⟩) (Kd.R_far (p := ⟨gb398, 2, none⟩) (Kd.R_far (p := ⟨gb398, 1, none⟩) (Kd.R_far (p := ⟨gb398, 0, none⟩) (Kd.R_types HO384.out BK398.out (by decide)) (fun _ hk => hk.2) (.int .i64 t387)) (fun _ hk => hk.2) (.slice Ao29 t388.length co29)) (fun _ hk => hk.2) (.slice Ao30 t391.length co30)) (fun _ hk => hk.2) (.slice Ao31 t394.length co31)) (fun _ hk => hk.2) (.int .i64 t397)) (fun _ h_ => h_.1))) hb); replace HO390 := mA (Kd.R_below (by (with_reducible repeat (first | apply Kd.R_alloc | apply Kd.R_drewN | apply Kd.R_drew)); exact (Kd.R_mono (Kd.R_far (p := ⟨gb398, 4, none⟩) (Kd.R_far (p := ⟨gb398, 3, none⟩) (Kd.R_far (p := ⟨gb398, 2, none⟩) (Kd.R_far (p := ⟨gb398, 1, none⟩) (Kd.R_far (p := ⟨gb398, 0, none⟩) (Kd.R_types HO390.out BK398.out (by decide)) (fun _ hk => hk.2) (.int .i64 t387)) (fun _ hk => hk.2) (.slice Ao29 t388.length co29)) (fun _ hk => hk.2) (.slice Ao30 t391.length co30)) (fun _ hk => hk.2) (.slice Ao31 t394.length co31)) (fun _ hk => hk.2) (.int .i64 t397)) (fun _ h_ => h_.1))) hb); replace HO393 := mA (Kd.R_below (by (with_reducible repeat (first | apply Kd.R_alloc | apply Kd.R_drewN | apply Kd.R_drew)); exact (Kd.R_mono (Kd.R_far (p := ⟨gb398, 4, none⟩) (Kd.R_far (p := ⟨gb398, 3, none⟩) (Kd.R_far (p := ⟨gb398, 2, none⟩) (Kd.R_far (p := ⟨gb398, 1, none⟩) (Kd.R_far (p := ⟨gb398, 0, none⟩) (Kd.R_types HO393.out BK398.out (by decide)) (fun _ hk => hk.2) (.int .i64 t387)) (fun _ hk => hk.2) (.slice Ao29 t388.length co29)) (fun _ hk => hk.2) (.slice Ao30 t391.length co30)) (fun _ hk => hk.2) (.slice Ao31 t394.length co31)) (fun _ hk => hk.2) (.int .i64 t397)) (fun _ h_ => h_.1))) hb); replace HO396 := mA (Kd.R_below (by (with_reducible repeat (first | apply Kd.R_alloc | apply Kd.R_drewN | apply Kd.R_drew)); exact (Kd.R_mono (Kd.R_far (p := ⟨gb398, 4, none⟩) (Kd.R_far (p := ⟨gb398, 3, none⟩) (Kd.R_far (p := ⟨gb398, 2, none⟩) (Kd.R_far (p := ⟨gb398, 1, none⟩) (Kd.R_far (p := ⟨gb398, 0, none⟩) (Kd.R_types HO396.out BK398.out (by decide)) (fun _ hk => hk.2) (.int .i64 t387)) (fun _ hk => hk.2) (.slice Ao29 t388.length co29)) (fun _ hk => hk.2) (.slice Ao30 t391.length co30)) (fun _ hk => hk.2) (.slice Ao31 t394.length co31)) (fun _ hk => hk.2) (.int .i64 t397)) (fun _ h_ => h_.1))) hb); replace BK373 := mA (blk_below (g := gb373) (o := .cells #[.int .i64 a0_0, .slice A0_1 l0_1.length c0_1, .slice A0_2 l0_2.length c0_2, .slice A0_3 l0_3.length c0_3, .int .i64 a0_4] 33 (0, 0)) (by (with_reducible repeat (first | refine blk_drewN ?_ _ | refine blk_drew ?_ | refine blk_alloc ?_ _)); refine blk_far ?_ NB373_398.out _; (with_reducible repeat (first | refine blk_drewN ?_ _ | refine blk_drew ?_ | refine blk_alloc ?_ _)); refine blk_far ?_ NB373_398.out _; (with_reducible repeat (first | refine blk_drewN ?_ _ | refine blk_drew ?_ | refine blk_alloc ?_ _)); refine blk_far ?_ NB373_398.out _; (with_reducible repeat (first | refine blk_drewN ?_ _ | refine blk_drew ?_ | refine blk_alloc ?_ _)); refine blk_far ?_ NB373_398.out _; (with_reducible repeat (first | refine blk_drewN ?_ _ | refine blk_drew ?_ | refine blk_alloc ?_ _)); refine blk_far ?_ NB373_398.out _; (with_reducible repeat (first | refine blk_drewN ?_ _ | refine blk_drew ?_ | refine blk_alloc ?_ _)); exact BK373.out) hb); replace BK398 := mA (blk_below (g := gb398) (o := .cells #[.int .i64 t387, .slice Ao29 t388.length co29, .slice Ao30 t391.length co30, .slice Ao31 t394.length co31, .int .i64 t397] 37 (0, 0)) (by (with_reducible repeat (first | refine blk_drewN ?_ _ | refine blk_drew ?_ | refine blk_alloc ?_ _)); refine blk_put (cs := #[.int .i64 t387, .slice Ao29 t388.length co29, .slice Ao30 t391.length co30, .slice Ao31 t394.length co31, .int .i64 0]) ?_ 4 _ rfl; (with_reducible repeat (first | refine blk_drewN ?_ _ | refine blk_drew ?_ | refine blk_alloc ?_ _)); refine blk_put (cs := #[.int .i64 t387, .slice Ao29 t388.length co29, .slice Ao30 t391.length co30, .slice none 0 0, .int .i64 0]) ?_ 3 _ rfl; (with_reducible repeat (first | refine blk_drewN ?_ _ | refine blk_drew ?_ | refine blk_alloc ?_ _)); refine blk_put (cs := #[.int .i64 t387, .slice Ao29 t388.length co29, .slice none 0 0, .slice none 0 0, .int .i64 0]) ?_ 2 _ rfl; (with_reducible repeat (first | refine blk_drewN ?_ _ | refine blk_drew ?_ | refine blk_alloc ?_ _)); refine blk_put (cs := #[.int .i64 t387, .slice none 0 0, .slice none 0 0, .slice none 0 0, .int .i64 0]) ?_ 1 _ rfl; (with_reducible repeat (first | refine blk_drewN ?_ _ | refine blk_drew ?_ | refine blk_alloc ?_ _)); refine blk_put (cs := #[.int .i64 0, .slice none 0 0, .slice none 0 0, .slice none 0 0, .int .i64 0]) ?_ 0 _ rfl; (with_reducible repeat (first | refine blk_drewN ?_ _ | refine blk_drew ?_ | refine blk_alloc ?_ _)); exact BK398.out) hb); replace HB := mA (below_step (bT2 HB GE373 GE398) hb); (try clear hb); (try clear hk)))
    replace HO378 := mA (Kd.R_drew HO378.out)
    replace HO381 := mA (Kd.R_drew HO381.out)
    replace HO384 := mA (Kd.R_drew HO384.out)
    replace HO390 := mA (Kd.R_drew HO390.out)
    replace HO393 := mA (Kd.R_drew HO393.out)
    replace HO396 := mA (Kd.R_drew HO396.out)
    replace BK373 := mA (blk_drew BK373.out)
    replace BK398 := mA (blk_drew BK398.out)
    replace HB := mA (below_drew1 HB.out)
    refine start_ (n := 5) (S := fun w' => w'.cell? ⟨gb398, 0, none⟩ = some (.int .i64 t387) ∧ w'.cell? ⟨gb398, 1, none⟩ = some (.slice Ao29 t388.length co29) ∧ w'.cell? ⟨gb398, 2, none⟩ = some (.slice Ao30 t391.length co30) ∧ w'.cell? ⟨gb398, 3, none⟩ = some (.slice Ao31 t394.length co31) ∧ w'.cell? ⟨gb398, 4, none⟩ = some (.int .i64 t397) ∧ w'.cell? ⟨gb373, 0, none⟩ = some (.int .i64 a0_0) ∧ w'.cell? ⟨gb373, 1, none⟩ = some (.slice A0_1 l0_1.length c0_1) ∧ w'.cell? ⟨gb373, 2, none⟩ = some (.slice A0_2 l0_2.length c0_2) ∧ w'.cell? ⟨gb373, 3, none⟩ = some (.slice A0_3 l0_3.length c0_3) ∧ w'.cell? ⟨gb373, 4, none⟩ = some (.int .i64 a0_4)) (ds := []) #[false, false, false, false, false] (by kernel_rfl) rfl rfl ⟨(blk_cell BK398.out 0).trans rfl, (blk_cell BK398.out 1).trans rfl, (blk_cell BK398.out 2).trans rfl, (blk_cell BK398.out 3).trans rfl, (blk_cell BK398.out 4).trans rfl, (blk_cell BK373.out 0).trans rfl, (blk_cell BK373.out 1).trans rfl, (blk_cell BK373.out 2).trans rfl, (blk_cell BK373.out 3).trans rfl, (blk_cell BK373.out 4).trans rfl⟩ (fun hHeld => ?_)
    generalize w32.drew = w33 at HO378 HO381 HO384 HO390 HO393 HO396 BK373 BK398 HB hHeld ⊢
    refine take_ (i := 0) (N := some 22) (v := ?_) (a' := ?_) #[true, false, false, false, false] rfl rfl (by kernel_rfl) (fun _ _ _ h => h) (Or.inl ⟨by rfl, ?_⟩) hHeld ?_ ?_
    rotate_left
    ·
     rintro w' ⟨s0, s1, s2, s3, s4, s5, s6, s7, s8, s9⟩
     go_simp
     with_reducible rfl
    rotate_left
    ·
     simp only [Act.put, List.setIfInBounds_toArray, List.set_cons_zero, List.set_cons_succ, i64_w, i32_w]
     rfl
    refine take_ (i := 1) (N := some 23) (v := ?_) (a' := ?_) #[true, true, false, false, false] rfl rfl (by kernel_rfl) (fun _ _ _ h => h) (Or.inl ⟨by rfl, ?_⟩) hHeld ?_ ?_
    rotate_left
    ·
     rintro w' ⟨s0, s1, s2, s3, s4, s5, s6, s7, s8, s9⟩
     go_simp
     with_reducible rfl
    rotate_left
    ·
     simp only [Act.put, List.setIfInBounds_toArray, List.set_cons_zero, List.set_cons_succ, i64_w, i32_w]
     rfl
    refine one_ (i := 2) (N := some 24) #[true, true, true, false, false] rfl rfl (by kernel_rfl) (by decide) (fun K hK => ?_)
    refine goes_ Try.func24 (by kernel_rfl) rfl #[.agg #[.int .i64 a0_0, .slice A0_1 l0_1.length c0_1, .slice A0_2 l0_2.length c0_2, .slice A0_3 l0_3.length c0_3, .int .i64 a0_4]] (by rfl) rfl rfl mT ?_
    with_reducible refine (laws_toTask.calls k a0_0 _ _ l0_1 _ _ l0_2 _ _ l0_3 a0_4 t400 t401 t404 t407 t410 _ ?side1 ?side2 ?side3 ?side4 ?side5 ?side6 A12.out).mono ?_
    (case side1 => exact cT (Kd.C_below HR0_1.out HB.out))
    (case side2 => exact HC0_1.out)
    (case side3 => exact cT (Kd.C_below HR0_2.out HB.out))
    (case side4 => exact HC0_2.out)
    (case side5 => exact cT (Kd.C_below HR0_3.out HB.out))
    (case side6 => exact HC0_3.out)
    rintro e w34 ⟨v402, v405, v408, rfl, ho0, ho1, ho2, hb⟩
    refine ⟨_, rfl, ?_⟩
    have HO403 := mA (Kd.R_lower (Kd.R_new' (Kd.R_new' (Kd.R_new' (Kd.R_new' ho0 (Kd.R_lt (rTR HO378))) (Kd.R_lt (rTR HO381))) (Kd.R_lt (rTR HO390))) (Kd.R_lt (rTR HO393))) (below_size (bT2 HB GE373 GE398)))
    have HO406 := mA (Kd.R_lower (Kd.R_new' (Kd.R_new' (Kd.R_new' (Kd.R_new' ho1 (Kd.R_lt (rTR HO378))) (Kd.R_lt (rTR HO381))) (Kd.R_lt (rTR HO390))) (Kd.R_lt (rTR HO393))) (below_size (bT2 HB GE373 GE398)))
    replace HO390 := mA (Kd.R_mono (Kd.R_told (Kd.R_told (Kd.R_old (rTR HO390) hb) (Kd.R_base ho0)) (Kd.R_base ho1)) (fun _ h_ => h_.1))
    replace HO393 := mA (Kd.R_mono (Kd.R_told (Kd.R_told (Kd.R_old (rTR HO393) hb) (Kd.R_base ho0)) (Kd.R_base ho1)) (fun _ h_ => h_.1))
    have HO409 := mA (Kd.R_lower (Kd.R_new' (Kd.R_new' ho2 (Kd.R_lt (rTR HO384))) (Kd.R_lt (rTR HO396))) (below_size (bT2 HB GE373 GE398)))
    replace HO396 := mA (Kd.R_elder' (rTR HO396) (Kd.R_base ho2) hb)
    replace BK373 := kB BK373 hb
    replace BK398 := kB BK398 hb
    replace HB := mA (below_step (bT2 HB GE373 GE398) hb)
    (try clear hb)
    (try clear hb2)
    (try clear hk)
    (try clear hi)
    (try clear ho0)
    (try clear ho1)
    (try clear ho2)
    obtain ⟨Ao35, co35, eo35⟩ := Kd.R_slice HO403.out
    (first | subst eo35 | (injection eo35 with f1_ f2_ f3_; have f4_ := f1_.symm; have f5_ := f3_.symm; clear f1_ f2_ f3_; subst f4_; subst f5_))
    obtain ⟨Ao36, co36, eo36⟩ := Kd.R_slice HO406.out
    (first | subst eo36 | (injection eo36 with f1_ f2_ f3_; have f4_ := f1_.symm; have f5_ := f3_.symm; clear f1_ f2_ f3_; subst f4_; subst f5_))
    obtain ⟨Ao37, co37, eo37⟩ := Kd.R_slice HO409.out
    (first | subst eo37 | (injection eo37 with f1_ f2_ f3_; have f4_ := f1_.symm; have f5_ := f3_.symm; clear f1_ f2_ f3_; subst f4_; subst f5_))
    refine hK.out _ _ ⟨(blk_cell BK398.out 0).trans rfl, (blk_cell BK398.out 1).trans rfl, (blk_cell BK398.out 2).trans rfl, (blk_cell BK398.out 3).trans rfl, (blk_cell BK398.out 4).trans rfl, (blk_cell BK373.out 0).trans rfl, (blk_cell BK373.out 1).trans rfl, (blk_cell BK373.out 2).trans rfl, (blk_cell BK373.out 3).trans rfl, (blk_cell BK373.out 4).trans rfl⟩ (fun hHeld => ?_)
    clear hK K
    refine norm_ (a' := ?_) ?_ ?_
    rotate_left
    ·
     show Act.put _ (some 24) _ = _
     simp only [Act.put, List.setIfInBounds_toArray, List.set_cons_zero, List.set_cons_succ, i64_w, i32_w]
     rfl
    refine one_ (i := 3) (N := some 25) #[true, true, true, true, false] rfl rfl (by kernel_rfl) (by decide) (fun K hK => ?_)
    refine goes_ Try.func26 (by kernel_rfl) rfl #[.agg #[.int .i64 t387, .slice Ao29 t388.length co29, .slice Ao30 t391.length co30, .slice Ao31 t394.length co31, .int .i64 t397], .agg #[.int .i64 t400, .slice Ao35 t401.length co35, .slice Ao36 t404.length co36, .slice Ao37 t407.length co37, .int .i64 t410]] (by rfl) rfl rfl mT ?_
    with_reducible refine (laws_eqTask.calls k t387 _ _ t388 _ _ t391 _ _ t394 t397 t400 _ _ t401 _ _ t404 _ _ t407 t410 true _ ?side1 ?side2 ?side3 ?side4 ?side5 ?side6 ?side7 ?side8 ?side9 ?side10 ?side11 ?side12 A13.out).mono ?_
    (case side1 => exact cT ((Kd.R_reads' HO390.out).2.2))
    (case side2 => exact (Kd.R_reads' HO390.out).2.1)
    (case side3 => exact cT ((Kd.R_reads' HO393.out).2.2))
    (case side4 => exact (Kd.R_reads' HO393.out).2.1)
    (case side5 => exact cT ((Kd.R_reads' HO396.out).2.2))
    (case side6 => exact (Kd.R_reads' HO396.out).2.1)
    (case side7 => exact cT ((Kd.R_reads' HO403.out).2.2))
    (case side8 => exact (Kd.R_reads' HO403.out).2.1)
    (case side9 => exact cT ((Kd.R_reads' HO406.out).2.2))
    (case side10 => exact (Kd.R_reads' HO406.out).2.1)
    (case side11 => exact cT ((Kd.R_reads' HO409.out).2.2))
    (case side12 => exact (Kd.R_reads' HO409.out).2.1)
    rintro e w38 ⟨rfl, hb⟩
    refine ⟨_, rfl, ?_⟩
    replace BK373 := kB BK373 hb
    replace BK398 := kB BK398 hb
    replace HB := mA (below_step (bT2 HB GE373 GE398) hb)
    (try clear hb)
    (try clear hb2)
    (try clear hk)
    (try clear hi)
    refine hK.out _ _ ⟨(blk_cell BK398.out 0).trans rfl, (blk_cell BK398.out 1).trans rfl, (blk_cell BK398.out 2).trans rfl, (blk_cell BK398.out 3).trans rfl, (blk_cell BK398.out 4).trans rfl, (blk_cell BK373.out 0).trans rfl, (blk_cell BK373.out 1).trans rfl, (blk_cell BK373.out 2).trans rfl, (blk_cell BK373.out 3).trans rfl, (blk_cell BK373.out 4).trans rfl⟩ (fun hHeld => ?_)
    clear hK K
    refine norm_ (a' := ?_) ?_ ?_
    rotate_left
    ·
     show Act.put _ (some 25) _ = _
     simp only [Act.put, List.setIfInBounds_toArray, List.set_cons_zero, List.set_cons_succ, i64_w, i32_w]
     rfl
    refine pureT (i := 4) (N := some 26) #[true, true, true, true, true] (by kernel_rfl) ?_
    refine done_ (by kernel_rfl) ?_
    try go_wp2
    go_ret
    exact ⟨eT, bT2 HB GE373 GE398⟩
   ·
    replace c14 := Bool.eq_false_iff.mpr c14
    subst c14
    rw [if_neg (show ¬ (false = true) by decide)] at H
    exact absurd ((Option.some.inj H).trans HT.out) (by simp)
  ·
   rw [if_neg c11] at H
   have c11b0 : (t399 == t386) = false := beq_eq_false_iff_ne.mpr c11
   have c11b1 : (t399 != t386) = true := bne_iff_ne.mpr c11
   exact absurd ((Option.some.inj H).trans HT.out) (by simp)

end Go.Proofs.Ythciieopabndcaa.P
