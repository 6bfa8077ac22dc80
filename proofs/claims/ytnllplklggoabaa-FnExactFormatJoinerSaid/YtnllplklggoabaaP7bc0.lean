/- Written by tools/seatprint.py over the translation. Lean checks it. -/
import Derived.Test.YtnllplklggoabaaP0
import Derived.Test.YtnllplklggoabaaP7fc0
namespace Go.Proofs.Ytnllplklggoabaa.P
open Go.RowKit Go.Proofs.YtnllplklggoabaaW.PrintWords Go.Proofs.YtnllplklggoabaaW.PrintLast Go.Proofs.YtnllplklggoabaaW.PrintMore
attribute [local go_sem] max2_int min2_int max_two min_two max_three min_three max_four min_four
set_option linter.unusedVariables false
set_option linter.unusedSimpArgs false

/-! ### spec_l1In: function 88 -/
def spec_l1In.f (a0 : Int) (a1 : Int) (a2 : Int) : Option (Bool) := if a0 ≥ a1 then (some (decide (a0 ≤ a2))) else (some false)
set_option maxHeartbeats 8000000 in
set_option maxRecDepth 100000 in
theorem spec_l1In.calls (a0 : Int) (a1 : Int) (a2 : Int) (r : Bool) (w : World) (h : spec_l1In.f a0 a1 a2 = some r) :
  Calls Try.prog 88 #[.int .i64 a0, .int .i64 a1, .int .i64 a2] w fun e w' => e = .returned (.bool r) ∧ Drawn0 w w' := by
 have H : (if a0 ≥ a1 then (some (decide (a0 ≤ a2))) else (some false)) = some r := h
 clear h
 by_cases c4 : a0 ≥ a1
 ·
  rw [if_pos c4] at H
  have c4b0 : decide (a1 ≤ a0) = true := decide_eq_true c4
  clear c4
  obtain rfl := Option.some.inj H
  go_enter Try.func88, Try.ntmps88
  go_wp2
  go_ret
  exact ⟨sT, by repeat (first | exact Drawn0.refl _ | apply Drawn0.step)⟩
 ·
  rw [if_neg c4] at H
  have c4b0 : decide (a1 ≤ a0) = false := decide_eq_false c4
  clear c4
  obtain rfl := Option.some.inj H
  go_enter Try.func88, Try.ntmps88
  go_wp2
  go_ret
  exact ⟨sT, by repeat (first | exact Drawn0.refl _ | apply Drawn0.step)⟩

/-! ### spec_IsValidRow: function 101 -/
def spec_IsValidRow.f (a0_0 : Int) (a0_1 : Int) (a0_2 : Int) : Option (Bool) := (spec_l1In.f a0_0 0 9).bind fun t207 => (if t207 = true then ((spec_l1In.f a0_1 0 99).bind fun t208 => (if t208 = true then ((spec_l1In.f a0_2 0 3).bind fun t209 => (some t209)) else (some false))) else (some false))
set_option maxHeartbeats 8000000 in
set_option maxRecDepth 100000 in
theorem spec_IsValidRow.calls (a0_0 : Int) (a0_1 : Int) (a0_2 : Int) (r : Bool) (w : World) (h : spec_IsValidRow.f a0_0 a0_1 a0_2 = some r) :
  Calls Try.prog 101 #[.agg #[.int .i64 a0_0, .int .i64 a0_1, .int .i64 a0_2]] w fun e w' => e = .returned (.bool r) ∧ Below w.heap.size w w' := by
 have hu124 := Try.underlying124
 have HB := mA (Below.refl w.heap.size w)
 have H : ((spec_l1In.f a0_0 0 9).bind fun t207 => (if t207 = true then ((spec_l1In.f a0_1 0 99).bind fun t208 => (if t208 = true then ((spec_l1In.f a0_2 0 3).bind fun t209 => (some t209)) else (some false))) else (some false))) = some r := h
 clear h
 obtain ⟨t207, A2, H⟩ := Option.bind_eq_some_iff.mp H
 replace A2 := mA A2
 try dsimp only at H
 by_cases c3 : t207 = true
 ·
  subst c3
  rw [if_pos rfl] at H
  obtain ⟨t208, A4, H⟩ := Option.bind_eq_some_iff.mp H
  replace A4 := mA A4
  try dsimp only at H
  by_cases c5 : t208 = true
  ·
   subst c5
   rw [if_pos rfl] at H
   obtain ⟨t209, A6, H⟩ := Option.bind_eq_some_iff.mp H
   replace A6 := mA A6
   replace H : (some t209) = some r := H
   obtain rfl := Option.some.inj H
   go_enter Try.func101, Try.ntmps101
   go_wp2_with (first | ((with_reducible refine gate_dst (N := 1) rfl ?_); refine boxT 1 #[.int .i64 a0_0, .int .i64 a0_1, .int .i64 a0_2] 124 ?_; intro gb206 hg w7 hbox hb; have BK206 := mA (hbox); have GW206 := mA ((by rw [hg]; exact (below_size (bT HB)) : w.heap.size ≤ gb206)); have GE206 := GW206; replace HB := mA (below_step (bT HB) hb); clear hb hbox hg; obtain ⟨hcz8_0, hcz8_1, hcz8_2, hfz8_0, hfz8_1, hfz8_2⟩ := blk3 BK206.out) | ((with_reducible refine gate_callee (f := 88) rfl ?_); refine goesT (some 5) Try.func88 #[.int .i64 a0_0, .int .i64 0, .int .i64 9] ?_; (with_reducible refine (spec_l1In.calls a0_0 0 9 true _ A2.out).mono ?_); rintro e w' ⟨rfl, ⟨nd, rfl⟩⟩; refine ⟨_, rfl, ?_⟩) | (go_at_call 88; (with_reducible refine (spec_l1In.calls a0_1 0 99 true _ A4.out).mono ?_); rintro e w' ⟨rfl, ⟨nd, rfl⟩⟩) | (go_at_call 88; (with_reducible refine (spec_l1In.calls a0_2 0 3 t209 _ A6.out).mono ?_); rintro e w' ⟨rfl, ⟨nd, rfl⟩⟩))
   go_ret
   exact ⟨eT, bT1 HB GE206⟩
  ·
   replace c5 := Bool.eq_false_iff.mpr c5
   subst c5
   rw [if_neg (show ¬ (false = true) by decide)] at H
   obtain rfl := Option.some.inj H
   go_enter Try.func101, Try.ntmps101
   go_wp2_with (first | ((with_reducible refine gate_dst (N := 1) rfl ?_); refine boxT 1 #[.int .i64 a0_0, .int .i64 a0_1, .int .i64 a0_2] 124 ?_; intro gb206 hg w9 hbox hb; have BK206 := mA (hbox); have GW206 := mA ((by rw [hg]; exact (below_size (bT HB)) : w.heap.size ≤ gb206)); have GE206 := GW206; replace HB := mA (below_step (bT HB) hb); clear hb hbox hg; obtain ⟨hcz10_0, hcz10_1, hcz10_2, hfz10_0, hfz10_1, hfz10_2⟩ := blk3 BK206.out) | ((with_reducible refine gate_callee (f := 88) rfl ?_); refine goesT (some 5) Try.func88 #[.int .i64 a0_0, .int .i64 0, .int .i64 9] ?_; (with_reducible refine (spec_l1In.calls a0_0 0 9 true _ A2.out).mono ?_); rintro e w' ⟨rfl, ⟨nd, rfl⟩⟩; refine ⟨_, rfl, ?_⟩) | (go_at_call 88; (with_reducible refine (spec_l1In.calls a0_1 0 99 false _ A4.out).mono ?_); rintro e w' ⟨rfl, ⟨nd, rfl⟩⟩))
   go_ret
   exact ⟨eT, bT1 HB GE206⟩
 ·
  replace c3 := Bool.eq_false_iff.mpr c3
  subst c3
  rw [if_neg (show ¬ (false = true) by decide)] at H
  obtain rfl := Option.some.inj H
  go_enter Try.func101, Try.ntmps101
  go_wp2_with (first | ((with_reducible refine gate_dst (N := 1) rfl ?_); refine boxT 1 #[.int .i64 a0_0, .int .i64 a0_1, .int .i64 a0_2] 124 ?_; intro gb206 hg w11 hbox hb; have BK206 := mA (hbox); have GW206 := mA ((by rw [hg]; exact (below_size (bT HB)) : w.heap.size ≤ gb206)); have GE206 := GW206; replace HB := mA (below_step (bT HB) hb); clear hb hbox hg; obtain ⟨hcz12_0, hcz12_1, hcz12_2, hfz12_0, hfz12_1, hfz12_2⟩ := blk3 BK206.out) | ((with_reducible refine gate_callee (f := 88) rfl ?_); refine goesT (some 5) Try.func88 #[.int .i64 a0_0, .int .i64 0, .int .i64 9] ?_; (with_reducible refine (spec_l1In.calls a0_0 0 9 false _ A2.out).mono ?_); rintro e w' ⟨rfl, ⟨nd, rfl⟩⟩; refine ⟨_, rfl, ?_⟩))
  go_ret
  exact ⟨eT, bT1 HB GE206⟩

/-! ### spec_AreValidRows: function 87 -/
def spec_AreValidRows.l0 : Nat → List (S124) → Int → Option (Bool)
 | 0, _, _ => none
 | k + 1, x0, x3 => if x3 < (x0.length : Int) then (if 0 ≤ x3 then ((spec_IsValidRow.f ((rd_T124 x0 x3).f0) ((rd_T124 x0 x3).f1) ((rd_T124 x0 x3).f2)).bind fun t211 => (if t211 = true then (spec_AreValidRows.l0 k x0 (wrap64 (x3 + 1))) else (some false))) else (none)) else (some (decide ((x0.length : Int) ≤ 24)))
def spec_AreValidRows.f (k : Nat) (l0 : List (S124)) : Option (Bool) := spec_AreValidRows.l0 k l0 0
theorem spec_AreValidRows.mono_l : ∀ k, (∀ y0 y1, LeO (spec_AreValidRows.l0 k y0 y1) (spec_AreValidRows.l0 (k + 1) y0 y1))
 | 0 => fun _ _ r h => by simp [spec_AreValidRows.l0] at h
 | k + 1 => by
  have ih0 := spec_AreValidRows.mono_l k
  ·
   intro y0 y1
   unfold spec_AreValidRows.l0
   repeat' first
   | (with_reducible exact ih0 _ _)
   | (with_reducible exact LeO.refl _)
   | (with_reducible exact LeO.none _)
   | (with_reducible refine LeO.ite ?_ ?_)
   | (with_reducible refine LeO.bind ?_ (fun _ => ?_))
   | exact ih0 _ _
   | exact LeO.none _
   | refine LeO.ite ?_ ?_
   | refine LeO.bind ?_ (fun _ => ?_)
theorem spec_AreValidRows.mono : ∀ a0 k, LeO (spec_AreValidRows.f k a0) (spec_AreValidRows.f (k + 1) a0) := by
 intro a0 k
 have ih0 := spec_AreValidRows.mono_l k
 unfold spec_AreValidRows.f
 repeat' first
   | (with_reducible exact ih0 _ _)
   | (with_reducible exact LeO.refl _)
   | (with_reducible exact LeO.none _)
   | (with_reducible refine LeO.ite ?_ ?_)
   | (with_reducible refine LeO.bind ?_ (fun _ => ?_))
   | exact ih0 _ _
   | exact LeO.none _
   | refine LeO.ite ?_ ?_
   | refine LeO.bind ?_ (fun _ => ?_)
set_option maxHeartbeats 8000000 in
set_option maxRecDepth 100000 in
theorem spec_AreValidRows.calls (k : Nat) (A0 : Option Addr) (c0 : Nat) (l0 : List (S124)) (r : Bool) (w : World) (hr0 : Kd.C k124 w A0 l0.length l0) (hc0 : l0.length ≤ c0) (h : spec_AreValidRows.f k l0 = some r) :
  Calls Try.prog 87 #[.slice A0 l0.length c0] w fun e w' => e = .returned (.bool r) ∧ Below w.heap.size w w' := by
 have hu124 := Try.underlying124
 have HR0 := mA hr0
 have HC0 := mA hc0
 clear hr0 hc0
 have HB := mA (Below.refl w.heap.size w)
 have H : (spec_AreValidRows.l0 k l0 0) = some r := h
 clear h
 have H' := mA H
 clear H
 go_enter Try.func87, Try.ntmps87
 go_wp2
 go_loopg [3] k (fun kq v3 w' => ∃ (x3_1 : Int), v3 = .int .i64 x3_1 ∧ Aside0 (spec_AreValidRows.l0 kq l0 x3_1 = some r) ∧ Aside0 (kq ≤ k) ∧ Aside0 (Below w.heap.size w w'))
 case atStart => exact ⟨(0), sT, H', ⟨Nat.le_refl _⟩, ⟨bT HB⟩⟩
 case round =>
  clear H'
  obtain ⟨x3_1, rfl, HA, HK1, HB⟩ := hrel
  cases gk with
  | zero => exact absurd HA.out (by simp [spec_AreValidRows.l0])
  | succ k1 =>
   have H := HA.out
   clear HA
   simp only [spec_AreValidRows.l0] at H
   by_cases c2 : x3_1 < (l0.length : Int)
   ·
    rw [if_pos c2] at H
    have c2b0 : decide (x3_1 < (l0.length : Int)) = true := decide_eq_true c2
    clear c2
    by_cases c3 : 0 ≤ x3_1
    ·
     rw [if_pos c3] at H
     have c3b0 : decide (0 ≤ x3_1) = true := decide_eq_true c3
     clear c3
     obtain ⟨t211, A4, H⟩ := Option.bind_eq_some_iff.mp H
     replace A4 := mA A4
     try dsimp only at H
     by_cases c5 : t211 = true
     ·
      subst c5
      rw [if_pos rfl] at H
      have H' := mA H
      clear H
      have p210 : 0 ≤ (x3_1 : Int) := of_decide_eq_true aT
      have q210 : x3_1 < (l0.length : Int) := of_decide_eq_true aT
      obtain ⟨ad210, e210, hx210_0, hx210_1, hx210_2⟩ := at_T124 HR0.out x3_1 p210 q210
      cases e210
      replace hx210_0 := (HB.out.cell (World.block_lt_of_cell? w _ hx210_0)).trans hx210_0
      replace hx210_1 := (HB.out.cell (World.block_lt_of_cell? w _ hx210_1)).trans hx210_1
      replace hx210_2 := (HB.out.cell (World.block_lt_of_cell? w _ hx210_2)).trans hx210_2
      replace p210 := eq_true p210
      replace q210 := eq_true q210
      go_wp2_with (first | ((with_reducible refine gate_callee (f := 101) rfl ?_); refine goesT (some 14) Try.func101 #[.agg #[.int .i64 ((rd_T124 l0 x3_1).f0), .int .i64 ((rd_T124 l0 x3_1).f1), .int .i64 ((rd_T124 l0 x3_1).f2)]] ?_; (with_reducible refine (spec_IsValidRow.calls ((rd_T124 l0 x3_1).f0) ((rd_T124 l0 x3_1).f1) ((rd_T124 l0 x3_1).f2) true _ A4.out).mono ?_); rintro e w6 ⟨rfl, hb⟩; refine ⟨_, rfl, ?_⟩; replace HB := mA (below_step (bT HB) hb); (try clear hb)))
      go_roundg k1
      case measure => have := HK1.out; omega
      case rel => exact ⟨(wrap64 (x3_1 + 1)), sT, H', ⟨by have := HK1.out; omega⟩, ⟨bT HB⟩⟩
     ·
      replace c5 := Bool.eq_false_iff.mpr c5
      subst c5
      rw [if_neg (show ¬ (false = true) by decide)] at H
      obtain rfl := Option.some.inj H
      have p210 : 0 ≤ (x3_1 : Int) := of_decide_eq_true aT
      have q210 : x3_1 < (l0.length : Int) := of_decide_eq_true aT
      obtain ⟨ad210, e210, hx210_0, hx210_1, hx210_2⟩ := at_T124 HR0.out x3_1 p210 q210
      cases e210
      replace hx210_0 := (HB.out.cell (World.block_lt_of_cell? w _ hx210_0)).trans hx210_0
      replace hx210_1 := (HB.out.cell (World.block_lt_of_cell? w _ hx210_1)).trans hx210_1
      replace hx210_2 := (HB.out.cell (World.block_lt_of_cell? w _ hx210_2)).trans hx210_2
      replace p210 := eq_true p210
      replace q210 := eq_true q210
      go_wp2_with (first | ((with_reducible refine gate_callee (f := 101) rfl ?_); refine goesT (some 14) Try.func101 #[.agg #[.int .i64 ((rd_T124 l0 x3_1).f0), .int .i64 ((rd_T124 l0 x3_1).f1), .int .i64 ((rd_T124 l0 x3_1).f2)]] ?_; (with_reducible refine (spec_IsValidRow.calls ((rd_T124 l0 x3_1).f0) ((rd_T124 l0 x3_1).f1) ((rd_T124 l0 x3_1).f2) false _ A4.out).mono ?_); rintro e w7 ⟨rfl, hb⟩; refine ⟨_, rfl, ?_⟩; replace HB := mA (below_step (bT HB) hb); (try clear hb)))
      go_ret
      exact ⟨eT, bT HB⟩
    ·
     rw [if_neg c3] at H
     exact absurd H (by simp)
   ·
    rw [if_neg c2] at H
    have c2b0 : decide (x3_1 < (l0.length : Int)) = false := decide_eq_false c2
    clear c2
    obtain rfl := Option.some.inj H
    go_wp2
    go_ret
    exact ⟨eT, bT HB⟩

/-! ### spec_FormatRow: function 89 -/
def spec_FormatRow.f (k : Nat) (a0_0 : Int) (a0_1 : Int) (a0_2 : Int) : Option (ByteArray) := (spec_IsValidRow.f a0_0 a0_1 a0_2).bind fun t218 => (if t218 = true then ((spec_FormatInt.f k a0_0).bind fun t219 => (if t219.size + 1 ≤ 9223372036854775807 then ((spec_FormatInt.f k a0_1).bind fun t220 => (if (t219 ++ (⟨#[46]⟩ : ByteArray)).size + t220.size ≤ 9223372036854775807 then (if ((t219 ++ (⟨#[46]⟩ : ByteArray)) ++ t220).size + 1 ≤ 9223372036854775807 then ((spec_FormatInt.f k a0_2).bind fun t221 => (if (((t219 ++ (⟨#[46]⟩ : ByteArray)) ++ t220) ++ (⟨#[46]⟩ : ByteArray)).size + t221.size ≤ 9223372036854775807 then (some ((((t219 ++ (⟨#[46]⟩ : ByteArray)) ++ t220) ++ (⟨#[46]⟩ : ByteArray)) ++ t221)) else (none))) else (none)) else (none))) else (none))) else (some (⟨#[]⟩ : ByteArray)))
theorem spec_FormatRow.mono : ∀ a0 a1 a2 k, LeO (spec_FormatRow.f k a0 a1 a2) (spec_FormatRow.f (k + 1) a0 a1 a2) := by
 intro a0 a1 a2 k
 unfold spec_FormatRow.f
 repeat' first
   | (with_reducible exact spec_FormatInt.mono _ _)
   | (with_reducible exact LeO.refl _)
   | (with_reducible exact LeO.none _)
   | (with_reducible refine LeO.ite ?_ ?_)
   | (with_reducible refine LeO.bind ?_ (fun _ => ?_))
   | exact spec_FormatInt.mono _ _
   | exact LeO.none _
   | refine LeO.ite ?_ ?_
   | refine LeO.bind ?_ (fun _ => ?_)
def spec_FormatRow.T3 : Bool × List (List Nat × List Nat) := (true, [([], []), ([0], [0]), ([1], [1]), ([2], [2]), ([], []), ([4], [4]), ([5, 2], [5]), ([3, 6], [3, 6]), ([7], [7]), ([], []), ([9], [9]), ([10, 6], [10]), ([8, 11], [8, 11]), ([12, 11, 0, 1, 2, 3, 4, 5, 6, 7, 8, 9, 10, 11, 12], [12])])
def spec_FormatRow.B3 : List Nat := [0, 1, 3, 7, 0, 16, 55, 127, 255, 0, 512, 1655, 4095, 8191]
theorem spec_FormatRow.tab3 : rtab .any (opsOf Try.f89 3) = spec_FormatRow.T3 := by kernel_rfl
theorem spec_FormatRow.bits3 : waitsOk spec_FormatRow.T3.2 spec_FormatRow.B3 = true := by kernel_rfl
set_option maxHeartbeats 8000000 in
set_option maxRecDepth 100000 in
theorem spec_FormatRow.calls (k : Nat) (a0_0 : Int) (a0_1 : Int) (a0_2 : Int) (r : ByteArray) (w : World) (h : spec_FormatRow.f k a0_0 a0_1 a0_2 = some r) :
  Calls Try.prog 89 #[.agg #[.int .i64 a0_0, .int .i64 a0_1, .int .i64 a0_2]] w fun e w' => e = .returned (.string r) ∧ Below w.heap.size w w' := by
 have hu124 := Try.underlying124
 have HB := mA (Below.refl w.heap.size w)
 have H : ((spec_IsValidRow.f a0_0 a0_1 a0_2).bind fun t218 => (if t218 = true then ((spec_FormatInt.f k a0_0).bind fun t219 => (if t219.size + 1 ≤ 9223372036854775807 then ((spec_FormatInt.f k a0_1).bind fun t220 => (if (t219 ++ (⟨#[46]⟩ : ByteArray)).size + t220.size ≤ 9223372036854775807 then (if ((t219 ++ (⟨#[46]⟩ : ByteArray)) ++ t220).size + 1 ≤ 9223372036854775807 then ((spec_FormatInt.f k a0_2).bind fun t221 => (if (((t219 ++ (⟨#[46]⟩ : ByteArray)) ++ t220) ++ (⟨#[46]⟩ : ByteArray)).size + t221.size ≤ 9223372036854775807 then (some ((((t219 ++ (⟨#[46]⟩ : ByteArray)) ++ t220) ++ (⟨#[46]⟩ : ByteArray)) ++ t221)) else (none))) else (none)) else (none))) else (none))) else (some (⟨#[]⟩ : ByteArray)))) = some r := h
 clear h
 obtain ⟨t218, A2, H⟩ := Option.bind_eq_some_iff.mp H
 replace A2 := mA A2
 try dsimp only at H
 by_cases c3 : t218 = true
 ·
  subst c3
  rw [if_pos rfl] at H
  obtain ⟨t219, A4, H⟩ := Option.bind_eq_some_iff.mp H
  replace A4 := mA A4
  try dsimp only at H
  by_cases c5 : t219.size + 1 ≤ 9223372036854775807
  ·
   rw [if_pos c5] at H
   have c5b0 := eq_true c5
   have c5b1 : decide (t219.size + 1 ≤ 9223372036854775807) = true := decide_eq_true c5
   try have c5b2 : (9223372036854775807 < t219.size + 1) = False := eq_false (Nat.not_lt.2 c5)
   obtain ⟨t220, A6, H⟩ := Option.bind_eq_some_iff.mp H
   replace A6 := mA A6
   try dsimp only at H
   by_cases c7 : (t219 ++ (⟨#[46]⟩ : ByteArray)).size + t220.size ≤ 9223372036854775807
   ·
    rw [if_pos c7] at H
    have c7b0 := eq_true c7
    have c7b1 : decide ((t219 ++ (⟨#[46]⟩ : ByteArray)).size + t220.size ≤ 9223372036854775807) = true := decide_eq_true c7
    try have c7b2 : (9223372036854775807 < (t219 ++ (⟨#[46]⟩ : ByteArray)).size + t220.size) = False := eq_false (Nat.not_lt.2 c7)
    try have c7b3 : (9223372036854775807 < t219.size + 1 + t220.size) = False := szF c7
    by_cases c8 : ((t219 ++ (⟨#[46]⟩ : ByteArray)) ++ t220).size + 1 ≤ 9223372036854775807
    ·
     rw [if_pos c8] at H
     have c8b0 := eq_true c8
     have c8b1 : decide (((t219 ++ (⟨#[46]⟩ : ByteArray)) ++ t220).size + 1 ≤ 9223372036854775807) = true := decide_eq_true c8
     try have c8b2 : (9223372036854775807 < ((t219 ++ (⟨#[46]⟩ : ByteArray)) ++ t220).size + 1) = False := eq_false (Nat.not_lt.2 c8)
     try have c8b3 : (9223372036854775807 < t219.size + 1 + t220.size + 1) = False := szF c8
     obtain ⟨t221, A9, H⟩ := Option.bind_eq_some_iff.mp H
     replace A9 := mA A9
     try dsimp only at H
     by_cases c10 : (((t219 ++ (⟨#[46]⟩ : ByteArray)) ++ t220) ++ (⟨#[46]⟩ : ByteArray)).size + t221.size ≤ 9223372036854775807
     ·
      rw [if_pos c10] at H
      have c10b0 := eq_true c10
      have c10b1 : decide ((((t219 ++ (⟨#[46]⟩ : ByteArray)) ++ t220) ++ (⟨#[46]⟩ : ByteArray)).size + t221.size ≤ 9223372036854775807) = true := decide_eq_true c10
      try have c10b2 : (9223372036854775807 < (((t219 ++ (⟨#[46]⟩ : ByteArray)) ++ t220) ++ (⟨#[46]⟩ : ByteArray)).size + t221.size) = False := eq_false (Nat.not_lt.2 c10)
      try have c10b3 : (9223372036854775807 < t219.size + 1 + t220.size + 1 + t221.size) = False := szF c10
      obtain rfl := Option.some.inj H
      go_enter Try.func89, Try.ntmps89
      try go_wp2_with (first | ((with_reducible refine gate_dst (N := 1) rfl ?_); refine boxT 1 #[.int .i64 a0_0, .int .i64 a0_1, .int .i64 a0_2] 124 ?_; intro gb217 hg w11 hbox hb; have BK217 := mA (hbox); have GW217 := mA ((by rw [hg]; exact (below_size (bT HB)) : w.heap.size ≤ gb217)); have GE217 := GW217; replace HB := mA (below_step (bT HB) hb); clear hb hbox hg; obtain ⟨hcz12_0, hcz12_1, hcz12_2, hfz12_0, hfz12_1, hfz12_2⟩ := blk3 BK217.out) | ((with_reducible refine gate_callee (f := 101) rfl ?_); refine goesT (some 4) Try.func101 #[.agg #[.int .i64 a0_0, .int .i64 a0_1, .int .i64 a0_2]] ?_; (with_reducible refine (spec_IsValidRow.calls a0_0 a0_1 a0_2 true _ A2.out).mono ?_); rintro e w13 ⟨rfl, hb⟩; refine ⟨_, rfl, ?_⟩; replace BK217 := kB BK217 hb; replace HB := mA (below_step (bT1 HB GE217) hb); (try clear hb)))
      replace BK217 := mA (blk_drew BK217.out)
      replace HB := mA (below_drew1 HB.out)
      refine start_ (n := 14) (S := fun w' => w'.cell? ⟨gb217, 0, none⟩ = some (.int .i64 a0_0) ∧ w'.cell? ⟨gb217, 1, none⟩ = some (.int .i64 a0_1) ∧ w'.cell? ⟨gb217, 2, none⟩ = some (.int .i64 a0_2)) (ds := []) #[false, false, false, false, false, false, false, false, false, false, false, false, false, false] (by kernel_rfl) rfl rfl ⟨(blk_cell BK217.out 0).trans rfl, (blk_cell BK217.out 1).trans rfl, (blk_cell BK217.out 2).trans rfl⟩ (fun hHeld => ?_); refine with_tabW spec_FormatRow.tab3 spec_FormatRow.bits3 (fun HT_ HW_ => ?_)
      generalize w13.drew = w14 at BK217 HB hHeld ⊢
      refine pureT (i := 0) (N := some 6) #[true, false, false, false, false, false, false, false, false, false, false, false, false, false] (any_of HT_.out (by kernel_rfl)) ?_
      refine pureT (i := 4) (N := some 10) #[true, false, false, false, true, false, false, false, false, false, false, false, false, false] (any_of HT_.out (by kernel_rfl)) ?_
      refine pureT (i := 9) (N := some 15) #[true, false, false, false, true, false, false, false, false, true, false, false, false, false] (any_of HT_.out (by kernel_rfl)) ?_
      refine take_ (i := 1) (N := some 7) (v := ?_) (a' := ?_) #[true, true, false, false, true, false, false, false, false, true, false, false, false, false] rfl rfl (take_ofW HT_.out HW_.out (by kernel_rfl)) (fun _ _ _ h => h) (Or.inl ⟨by rfl, ?_⟩) hHeld ?_ ?_
      rotate_left
      ·
       rintro w' ⟨s0, s1, s2⟩
       go_simp
       with_reducible rfl
      rotate_left
      ·
       simp only [Act.put, List.setIfInBounds_toArray, List.set_cons_zero, List.set_cons_succ, i64_w, i32_w]
       rfl
      refine take_ (i := 5) (N := some 11) (v := ?_) (a' := ?_) #[true, true, false, false, true, true, false, false, false, true, false, false, false, false] rfl rfl (take_ofW HT_.out HW_.out (by kernel_rfl)) (fun _ _ _ h => h) (Or.inl ⟨by rfl, ?_⟩) hHeld ?_ ?_
      rotate_left
      ·
       rintro w' ⟨s0, s1, s2⟩
       go_simp
       with_reducible rfl
      rotate_left
      ·
       simp only [Act.put, List.setIfInBounds_toArray, List.set_cons_zero, List.set_cons_succ, i64_w, i32_w]
       rfl
      refine take_ (i := 10) (N := some 16) (v := ?_) (a' := ?_) #[true, true, false, false, true, true, false, false, false, true, true, false, false, false] rfl rfl (take_ofW HT_.out HW_.out (by kernel_rfl)) (fun _ _ _ h => h) (Or.inl ⟨by rfl, ?_⟩) hHeld ?_ ?_
      rotate_left
      ·
       rintro w' ⟨s0, s1, s2⟩
       go_simp
       with_reducible rfl
      rotate_left
      ·
       simp only [Act.put, List.setIfInBounds_toArray, List.set_cons_zero, List.set_cons_succ, i64_w, i32_w]
       rfl
      refine one_ (i := 2) (N := some 8) #[true, true, true, false, true, true, false, false, false, true, true, false, false, false] rfl rfl (one_of HT_.out (by kernel_rfl)) (by decide) (fun K hK => ?_)
      refine goes_ Try.func42 (by kernel_rfl) rfl #[.int .i64 a0_0] (by rfl) rfl rfl mT ?_
      with_reducible refine (spec_FormatInt.calls k a0_0 t219 _ A4.out).mono ?_
      rintro e w15 ⟨rfl, hb⟩
      refine ⟨_, rfl, ?_⟩
      replace BK217 := kB BK217 hb
      replace HB := mA (below_step (bT1 HB GE217) hb)
      (try clear hb)
      (try clear hb2)
      (try clear hk)
      (try clear hi)
      refine hK.out _ _ ⟨(blk_cell BK217.out 0).trans rfl, (blk_cell BK217.out 1).trans rfl, (blk_cell BK217.out 2).trans rfl⟩ (fun hHeld => ?_)
      clear hK K
      refine norm_ (a' := ?_) ?_ ?_
      rotate_left
      ·
       show Act.put _ (some 8) _ = _
       simp only [Act.put, List.setIfInBounds_toArray, List.set_cons_zero, List.set_cons_succ, i64_w, i32_w]
       rfl
      refine pureT (i := 3) (N := some 9) #[true, true, true, true, true, true, false, false, false, true, true, false, false, false] (any_of HT_.out (by kernel_rfl)) ?_
      refine one_ (i := 6) (N := some 12) #[true, true, true, true, true, true, true, false, false, true, true, false, false, false] rfl rfl (one_of HT_.out (by kernel_rfl)) (by decide) (fun K hK => ?_)
      refine goes_ Try.func42 (by kernel_rfl) rfl #[.int .i64 a0_1] (by rfl) rfl rfl mT ?_
      with_reducible refine (spec_FormatInt.calls k a0_1 t220 _ A6.out).mono ?_
      rintro e w16 ⟨rfl, hb⟩
      refine ⟨_, rfl, ?_⟩
      replace BK217 := kB BK217 hb
      replace HB := mA (below_step (bT1 HB GE217) hb)
      (try clear hb)
      (try clear hb2)
      (try clear hk)
      (try clear hi)
      refine hK.out _ _ ⟨(blk_cell BK217.out 0).trans rfl, (blk_cell BK217.out 1).trans rfl, (blk_cell BK217.out 2).trans rfl⟩ (fun hHeld => ?_)
      clear hK K
      refine norm_ (a' := ?_) ?_ ?_
      rotate_left
      ·
       show Act.put _ (some 12) _ = _
       simp only [Act.put, List.setIfInBounds_toArray, List.set_cons_zero, List.set_cons_succ, i64_w, i32_w]
       rfl
      refine pureT (i := 7) (N := some 13) #[true, true, true, true, true, true, true, true, false, true, true, false, false, false] (any_of HT_.out (by kernel_rfl)) ?_
      refine pureT (i := 8) (N := some 14) #[true, true, true, true, true, true, true, true, true, true, true, false, false, false] (any_of HT_.out (by kernel_rfl)) ?_
      refine one_ (i := 11) (N := some 17) #[true, true, true, true, true, true, true, true, true, true, true, true, false, false] rfl rfl (one_of HT_.out (by kernel_rfl)) (by decide) (fun K hK => ?_)
      refine goes_ Try.func42 (by kernel_rfl) rfl #[.int .i64 a0_2] (by rfl) rfl rfl mT ?_
      with_reducible refine (spec_FormatInt.calls k a0_2 t221 _ A9.out).mono ?_
      rintro e w17 ⟨rfl, hb⟩
      refine ⟨_, rfl, ?_⟩
      replace BK217 := kB BK217 hb
      replace HB := mA (below_step (bT1 HB GE217) hb)
      (try clear hb)
      (try clear hb2)
      (try clear hk)
      (try clear hi)
      refine hK.out _ _ ⟨(blk_cell BK217.out 0).trans rfl, (blk_cell BK217.out 1).trans rfl, (blk_cell BK217.out 2).trans rfl⟩ (fun hHeld => ?_)
      clear hK K
      refine norm_ (a' := ?_) ?_ ?_
      rotate_left
      ·
       show Act.put _ (some 17) _ = _
       simp only [Act.put, List.setIfInBounds_toArray, List.set_cons_zero, List.set_cons_succ, i64_w, i32_w]
       rfl
      refine pureT (i := 12) (N := some 18) #[true, true, true, true, true, true, true, true, true, true, true, true, true, false] (any_of HT_.out (by kernel_rfl)) ?_
      refine pureT (i := 13) (N := some 2) #[true, true, true, true, true, true, true, true, true, true, true, true, true, true] (any_of HT_.out (by kernel_rfl)) ?_
      refine done_ (done_of HT_.out (by kernel_rfl)) ?_
      try go_wp2
      go_ret
      exact ⟨eT, bT1 HB GE217⟩
     ·
      rw [if_neg c10] at H
      exact absurd H (by simp)
    ·
     rw [if_neg c8] at H
     exact absurd H (by simp)
   ·
    rw [if_neg c7] at H
    exact absurd H (by simp)
  ·
   rw [if_neg c5] at H
   exact absurd H (by simp)
 ·
  replace c3 := Bool.eq_false_iff.mpr c3
  subst c3
  rw [if_neg (show ¬ (false = true) by decide)] at H
  obtain rfl := Option.some.inj H
  go_enter Try.func89, Try.ntmps89
  go_wp2_with (first | ((with_reducible refine gate_dst (N := 1) rfl ?_); refine boxT 1 #[.int .i64 a0_0, .int .i64 a0_1, .int .i64 a0_2] 124 ?_; intro gb217 hg w18 hbox hb; have BK217 := mA (hbox); have GW217 := mA ((by rw [hg]; exact (below_size (bT HB)) : w.heap.size ≤ gb217)); have GE217 := GW217; replace HB := mA (below_step (bT HB) hb); clear hb hbox hg; obtain ⟨hcz19_0, hcz19_1, hcz19_2, hfz19_0, hfz19_1, hfz19_2⟩ := blk3 BK217.out) | ((with_reducible refine gate_callee (f := 101) rfl ?_); refine goesT (some 4) Try.func101 #[.agg #[.int .i64 a0_0, .int .i64 a0_1, .int .i64 a0_2]] ?_; (with_reducible refine (spec_IsValidRow.calls a0_0 a0_1 a0_2 false _ A2.out).mono ?_); rintro e w20 ⟨rfl, hb⟩; refine ⟨_, rfl, ?_⟩; replace HB := mA (below_step (bT1 HB GE217) hb); (try clear hb)))
  go_ret
  exact ⟨eT, bT1 HB GE217⟩

/-! ### spec_FormatRows: function 52 -/
mutual
def spec_FormatRows.l0 : Nat → List (S124) → ByteArray → Int → Option (ByteArray)
 | 0, _, _, _ => none
 | k + 1, x0, x3, x4 => if x4 < (x0.length : Int) then ((spec_AreValidRows.f k x0).bind fun t222 => (spec_FormatRows.j1 k x0 x3 x4 t222)) else (spec_FormatRows.j1 k x0 x3 x4 false)
def spec_FormatRows.j1 : Nat → List (S124) → ByteArray → Int → Bool → Option (ByteArray)
 | 0, _, _, _, _ => none
 | k + 1, x0, x3, x4, x12 => if x12 = true then (if x4 > 0 then (if x3.size + 1 ≤ 9223372036854775807 then (if 0 ≤ x4 then (if x4 < (x0.length : Int) then ((spec_FormatRow.f k ((rd_T124 x0 x4).f0) ((rd_T124 x0 x4).f1) ((rd_T124 x0 x4).f2)).bind fun t224 => (if (x3 ++ (⟨#[32]⟩ : ByteArray)).size + t224.size ≤ 9223372036854775807 then (spec_FormatRows.l0 k x0 ((x3 ++ (⟨#[32]⟩ : ByteArray)) ++ t224) (wrap64 (x4 + 1))) else (none))) else (none)) else (none)) else (none)) else (if 0 ≤ x4 then (if x4 < (x0.length : Int) then ((spec_FormatRow.f k ((rd_T124 x0 x4).f0) ((rd_T124 x0 x4).f1) ((rd_T124 x0 x4).f2)).bind fun t226 => (if x3.size + t226.size ≤ 9223372036854775807 then (spec_FormatRows.l0 k x0 (x3 ++ t226) (wrap64 (x4 + 1))) else (none))) else (none)) else (none))) else (some x3)
end
def spec_FormatRows.f (k : Nat) (l0 : List (S124)) : Option (ByteArray) := spec_FormatRows.l0 k l0 (⟨#[]⟩ : ByteArray) 0
theorem spec_FormatRows.mono_l : ∀ k, (∀ y0 y1 y2, LeO (spec_FormatRows.l0 k y0 y1 y2) (spec_FormatRows.l0 (k + 1) y0 y1 y2)) ∧ (∀ y0 y1 y2 y3, LeO (spec_FormatRows.j1 k y0 y1 y2 y3) (spec_FormatRows.j1 (k + 1) y0 y1 y2 y3))
 | 0 => ⟨fun _ _ _ r h => by simp [spec_FormatRows.l0] at h, fun _ _ _ _ r h => by simp [spec_FormatRows.j1] at h⟩
 | k + 1 => by
  obtain ⟨ih0, ih1⟩ := spec_FormatRows.mono_l k
  refine ⟨?_, ?_⟩
  ·
   intro y0 y1 y2
   unfold spec_FormatRows.l0
   repeat' first
   | (with_reducible exact ih0 _ _ _)
   | (with_reducible exact ih1 _ _ _ _)
   | (with_reducible exact spec_AreValidRows.mono _ _)
   | (with_reducible exact spec_FormatRow.mono _ _ _ _)
   | (with_reducible exact LeO.refl _)
   | (with_reducible exact LeO.none _)
   | (with_reducible refine LeO.ite ?_ ?_)
   | (with_reducible refine LeO.bind ?_ (fun _ => ?_))
   | exact ih0 _ _ _
   | exact ih1 _ _ _ _
   | exact spec_AreValidRows.mono _ _
   | exact spec_FormatRow.mono _ _ _ _
   | exact LeO.none _
   | refine LeO.ite ?_ ?_
   | refine LeO.bind ?_ (fun _ => ?_)
  ·
   intro y0 y1 y2 y3
   unfold spec_FormatRows.j1
   repeat' first
   | (with_reducible exact ih0 _ _ _)
   | (with_reducible exact ih1 _ _ _ _)
   | (with_reducible exact spec_AreValidRows.mono _ _)
   | (with_reducible exact spec_FormatRow.mono _ _ _ _)
   | (with_reducible exact LeO.refl _)
   | (with_reducible exact LeO.none _)
   | (with_reducible refine LeO.ite ?_ ?_)
   | (with_reducible refine LeO.bind ?_ (fun _ => ?_))
   | exact ih0 _ _ _
   | exact ih1 _ _ _ _
   | exact spec_AreValidRows.mono _ _
   | exact spec_FormatRow.mono _ _ _ _
   | exact LeO.none _
   | refine LeO.ite ?_ ?_
   | refine LeO.bind ?_ (fun _ => ?_)
theorem spec_FormatRows.mono : ∀ a0 k, LeO (spec_FormatRows.f k a0) (spec_FormatRows.f (k + 1) a0) := by
 intro a0 k
 obtain ⟨ih0, ih1⟩ := spec_FormatRows.mono_l k
 unfold spec_FormatRows.f
 repeat' first
   | (with_reducible exact ih0 _ _ _)
   | (with_reducible exact ih1 _ _ _ _)
   | (with_reducible exact spec_AreValidRows.mono _ _)
   | (with_reducible exact spec_FormatRow.mono _ _ _ _)
   | (with_reducible exact LeO.refl _)
   | (with_reducible exact LeO.none _)
   | (with_reducible refine LeO.ite ?_ ?_)
   | (with_reducible refine LeO.bind ?_ (fun _ => ?_))
   | exact ih0 _ _ _
   | exact ih1 _ _ _ _
   | exact spec_AreValidRows.mono _ _
   | exact spec_FormatRow.mono _ _ _ _
   | exact LeO.none _
   | refine LeO.ite ?_ ?_
   | refine LeO.bind ?_ (fun _ => ?_)
set_option maxHeartbeats 8000000 in
set_option maxRecDepth 100000 in
theorem spec_FormatRows.calls (k : Nat) (A0 : Option Addr) (c0 : Nat) (l0 : List (S124)) (r : ByteArray) (w : World) (hr0 : Kd.C k124 w A0 l0.length l0) (hc0 : l0.length ≤ c0) (h : spec_FormatRows.f k l0 = some r) :
  Calls Try.prog 52 #[.slice A0 l0.length c0] w fun e w' => e = .returned (.string r) ∧ Below w.heap.size w w' := by
 have hu124 := Try.underlying124
 have HR0 := mA hr0
 have HC0 := mA hc0
 clear hr0 hc0
 have HB := mA (Below.refl w.heap.size w)
 have H : (spec_FormatRows.l0 k l0 (⟨#[]⟩ : ByteArray) 0) = some r := h
 clear h
 have H' := mA H
 clear H
 go_enter Try.func52, Try.ntmps52
 go_wp2
 go_loopg [3, 4] k (fun kq v3 v4 w' => ∃ (x3_1 : ByteArray) (x4_1 : Int), v3 = .string x3_1 ∧ v4 = .int .i64 x4_1 ∧ Aside0 (spec_FormatRows.l0 kq l0 x3_1 x4_1 = some r) ∧ Aside0 (kq ≤ k) ∧ Aside0 (Below w.heap.size w w'))
 case atStart => exact ⟨((⟨#[]⟩ : ByteArray)), (0), sT, sT, H', ⟨Nat.le_refl _⟩, ⟨bT HB⟩⟩
 case round =>
  clear H'
  obtain ⟨x3_1, x4_1, rfl, rfl, HA, HK1, HB⟩ := hrel
  cases gk with
  | zero => exact absurd HA.out (by simp [spec_FormatRows.l0])
  | succ k1 =>
   have H := HA.out
   clear HA
   simp only [spec_FormatRows.l0] at H
   have HC2 := mA H
   clear H
   go_upto_region 3 with (fail)
   go_cut [12] (fun v12 wc => ∃ (kq : Nat) (x12_1 : Bool), v12 = .bool x12_1 ∧ Aside0 (spec_FormatRows.j1 kq l0 x3_1 x4_1 x12_1 = some r) ∧ Aside0 (kq ≤ k1) ∧ Aside0 (Below w.heap.size w wc))
   case first =>
    have H := HC2.out
    clear HC2
    by_cases c3 : x4_1 < (l0.length : Int)
    ·
     rw [if_pos c3] at H
     have c3b0 : decide (x4_1 < (l0.length : Int)) = true := decide_eq_true c3
     clear c3
     (first | rw [c3b0] | (simp only [i64_w, i32_w]; rw [c3b0]) | skip)
     obtain ⟨t222, A4, H⟩ := Option.bind_eq_some_iff.mp H
     replace A4 := mA A4
     replace H : (spec_FormatRows.j1 k1 l0 x3_1 x4_1 t222) = some r := H
     have H' := mA H
     clear H
     go_wp2_with (first | (go_at_call 87; (with_reducible refine (spec_AreValidRows.calls k1 _ _ l0 t222 _ ?side1 ?side2 A4.out).mono ?_); (case side1 => exact cT (Kd.C_below HR0.out HB.out)); (case side2 => exact HC0.out); rintro e w5 ⟨rfl, hb⟩; replace HB := mA (below_step (bT HB) hb); (try clear hb)))
     go_meet
     case rel => exact ⟨_, (t222), sT, H', ⟨by have := HK1.out; first | omega | exact Nat.le_refl _⟩, ⟨bT HB⟩⟩
    ·
     rw [if_neg c3] at H
     have c3b0 : decide (x4_1 < (l0.length : Int)) = false := decide_eq_false c3
     clear c3
     (first | rw [c3b0] | (simp only [i64_w, i32_w]; rw [c3b0]) | skip)
     have H' := mA H
     clear H
     go_wp2
     go_meet
     case rel => exact ⟨_, (false), sT, H', ⟨by have := HK1.out; first | omega | exact Nat.le_refl _⟩, ⟨bT HB⟩⟩
   case rest =>
    clear HC2
    try clear p2
    try clear c3
    try clear c3b0
    try clear c5
    obtain ⟨kq, x12_1, rfl, HA, HJ1, HB⟩ := hcut
    cases kq with
    | zero => exact absurd HA.out (by simp [spec_FormatRows.j1])
    | succ kj1 =>
     have H := HA.out
     clear HA
     simp only [spec_FormatRows.j1] at H
     by_cases c6 : x12_1 = true
     ·
      subst c6
      rw [if_pos rfl] at H
      by_cases c7 : x4_1 > 0
      ·
       rw [if_pos c7] at H
       have c7b0 : decide (0 < x4_1) = true := decide_eq_true c7
       clear c7
       by_cases c8 : x3_1.size + 1 ≤ 9223372036854775807
       ·
        rw [if_pos c8] at H
        have c8b0 := eq_true c8
        have c8b1 : decide (x3_1.size + 1 ≤ 9223372036854775807) = true := decide_eq_true c8
        try have c8b2 : (9223372036854775807 < x3_1.size + 1) = False := eq_false (Nat.not_lt.2 c8)
        by_cases c9 : 0 ≤ x4_1
        ·
         rw [if_pos c9] at H
         have c9b0 : decide (0 ≤ x4_1) = true := decide_eq_true c9
         clear c9
         by_cases c10 : x4_1 < (l0.length : Int)
         ·
          rw [if_pos c10] at H
          have c10b0 : decide (x4_1 < (l0.length : Int)) = true := decide_eq_true c10
          clear c10
          obtain ⟨t224, A11, H⟩ := Option.bind_eq_some_iff.mp H
          replace A11 := mA A11
          try dsimp only at H
          by_cases c12 : (x3_1 ++ (⟨#[32]⟩ : ByteArray)).size + t224.size ≤ 9223372036854775807
          ·
           rw [if_pos c12] at H
           have c12b0 := eq_true c12
           have c12b1 : decide ((x3_1 ++ (⟨#[32]⟩ : ByteArray)).size + t224.size ≤ 9223372036854775807) = true := decide_eq_true c12
           try have c12b2 : (9223372036854775807 < (x3_1 ++ (⟨#[32]⟩ : ByteArray)).size + t224.size) = False := eq_false (Nat.not_lt.2 c12)
           try have c12b3 : (9223372036854775807 < x3_1.size + 1 + t224.size) = False := szF c12
           have H' := mA H
           clear H
           have p223 : 0 ≤ (x4_1 : Int) := of_decide_eq_true aT
           have q223 : x4_1 < (l0.length : Int) := of_decide_eq_true aT
           obtain ⟨ad223, e223, hx223_0, hx223_1, hx223_2⟩ := at_T124 HR0.out x4_1 p223 q223
           cases e223
           replace hx223_0 := (HB.out.cell (World.block_lt_of_cell? w _ hx223_0)).trans hx223_0
           replace hx223_1 := (HB.out.cell (World.block_lt_of_cell? w _ hx223_1)).trans hx223_1
           replace hx223_2 := (HB.out.cell (World.block_lt_of_cell? w _ hx223_2)).trans hx223_2
           replace p223 := eq_true p223
           replace q223 := eq_true q223
           go_wp2_with (first | ((with_reducible refine gate_callee (f := 89) rfl ?_); refine goesT (some 24) Try.func89 #[.agg #[.int .i64 ((rd_T124 l0 x4_1).f0), .int .i64 ((rd_T124 l0 x4_1).f1), .int .i64 ((rd_T124 l0 x4_1).f2)]] ?_; (with_reducible refine (spec_FormatRow.calls kj1 ((rd_T124 l0 x4_1).f0) ((rd_T124 l0 x4_1).f1) ((rd_T124 l0 x4_1).f2) t224 _ A11.out).mono ?_); rintro e w13 ⟨rfl, hb⟩; refine ⟨_, rfl, ?_⟩; replace HB := mA (below_step (bT HB) hb); (try clear hb)))
           go_roundg kj1
           case measure => have := HK1.out; have := HJ1.out; omega
           case rel => exact ⟨((x3_1 ++ (⟨#[32]⟩ : ByteArray)) ++ t224), (wrap64 (x4_1 + 1)), sT, sT, H', ⟨by have := HK1.out; have := HJ1.out; omega⟩, ⟨bT HB⟩⟩
          ·
           rw [if_neg c12] at H
           exact absurd H (by simp)
         ·
          rw [if_neg c10] at H
          exact absurd H (by simp)
        ·
         rw [if_neg c9] at H
         exact absurd H (by simp)
       ·
        rw [if_neg c8] at H
        exact absurd H (by simp)
      ·
       rw [if_neg c7] at H
       have c7b0 : decide (0 < x4_1) = false := decide_eq_false c7
       clear c7
       by_cases c14 : 0 ≤ x4_1
       ·
        rw [if_pos c14] at H
        have c14b0 : decide (0 ≤ x4_1) = true := decide_eq_true c14
        clear c14
        by_cases c15 : x4_1 < (l0.length : Int)
        ·
         rw [if_pos c15] at H
         have c15b0 : decide (x4_1 < (l0.length : Int)) = true := decide_eq_true c15
         clear c15
         obtain ⟨t226, A16, H⟩ := Option.bind_eq_some_iff.mp H
         replace A16 := mA A16
         try dsimp only at H
         by_cases c17 : x3_1.size + t226.size ≤ 9223372036854775807
         ·
          rw [if_pos c17] at H
          have c17b0 := eq_true c17
          have c17b1 : decide (x3_1.size + t226.size ≤ 9223372036854775807) = true := decide_eq_true c17
          try have c17b2 : (9223372036854775807 < x3_1.size + t226.size) = False := eq_false (Nat.not_lt.2 c17)
          have H' := mA H
          clear H
          have p225 : 0 ≤ (x4_1 : Int) := of_decide_eq_true aT
          have q225 : x4_1 < (l0.length : Int) := of_decide_eq_true aT
          obtain ⟨ad225, e225, hx225_0, hx225_1, hx225_2⟩ := at_T124 HR0.out x4_1 p225 q225
          cases e225
          replace hx225_0 := (HB.out.cell (World.block_lt_of_cell? w _ hx225_0)).trans hx225_0
          replace hx225_1 := (HB.out.cell (World.block_lt_of_cell? w _ hx225_1)).trans hx225_1
          replace hx225_2 := (HB.out.cell (World.block_lt_of_cell? w _ hx225_2)).trans hx225_2
          replace p225 := eq_true p225
          replace q225 := eq_true q225
          go_wp2_with (first | ((with_reducible refine gate_callee (f := 89) rfl ?_); refine goesT (some 24) Try.func89 #[.agg #[.int .i64 ((rd_T124 l0 x4_1).f0), .int .i64 ((rd_T124 l0 x4_1).f1), .int .i64 ((rd_T124 l0 x4_1).f2)]] ?_; (with_reducible refine (spec_FormatRow.calls kj1 ((rd_T124 l0 x4_1).f0) ((rd_T124 l0 x4_1).f1) ((rd_T124 l0 x4_1).f2) t226 _ A16.out).mono ?_); rintro e w18 ⟨rfl, hb⟩; refine ⟨_, rfl, ?_⟩; replace HB := mA (below_step (bT HB) hb); (try clear hb)))
          go_roundg kj1
          case measure => have := HK1.out; have := HJ1.out; omega
          case rel => exact ⟨(x3_1 ++ t226), (wrap64 (x4_1 + 1)), sT, sT, H', ⟨by have := HK1.out; have := HJ1.out; omega⟩, ⟨bT HB⟩⟩
         ·
          rw [if_neg c17] at H
          exact absurd H (by simp)
        ·
         rw [if_neg c15] at H
         exact absurd H (by simp)
       ·
        rw [if_neg c14] at H
        exact absurd H (by simp)
     ·
      replace c6 := Bool.eq_false_iff.mpr c6
      subst c6
      rw [if_neg (show ¬ (false = true) by decide)] at H
      obtain rfl := Option.some.inj H
      go_wp2
      go_ret
      exact ⟨eT, bT HB⟩

/-! ### impl_within: function 93 -/
def impl_within.f (a0 : Int) (a1 : Int) (a2 : Int) : Option (Bool) := if a0 ≥ a1 then (some (decide (a0 ≤ a2))) else (some false)
set_option maxHeartbeats 8000000 in
set_option maxRecDepth 100000 in
theorem impl_within.calls (a0 : Int) (a1 : Int) (a2 : Int) (r : Bool) (w : World) (h : impl_within.f a0 a1 a2 = some r) :
  Calls Try.prog 93 #[.int .i64 a0, .int .i64 a1, .int .i64 a2] w fun e w' => e = .returned (.bool r) ∧ Drawn0 w w' := by
 have H : (if a0 ≥ a1 then (some (decide (a0 ≤ a2))) else (some false)) = some r := h
 clear h
 by_cases c4 : a0 ≥ a1
 ·
  rw [if_pos c4] at H
  have c4b0 : decide (a1 ≤ a0) = true := decide_eq_true c4
  clear c4
  obtain rfl := Option.some.inj H
  go_enter Try.func93, Try.ntmps93
  go_wp2
  go_ret
  exact ⟨sT, by repeat (first | exact Drawn0.refl _ | apply Drawn0.step)⟩
 ·
  rw [if_neg c4] at H
  have c4b0 : decide (a1 ≤ a0) = false := decide_eq_false c4
  clear c4
  obtain rfl := Option.some.inj H
  go_enter Try.func93, Try.ntmps93
  go_wp2
  go_ret
  exact ⟨sT, by repeat (first | exact Drawn0.refl _ | apply Drawn0.step)⟩

/-! ### impl_IsValidRow: function 104 -/
def impl_IsValidRow.f (a0_0 : Int) (a0_1 : Int) (a0_2 : Int) : Option (Bool) := (impl_within.f a0_0 0 9).bind fun t264 => (if t264 = true then ((impl_within.f a0_1 0 99).bind fun t265 => (if t265 = true then ((impl_within.f a0_2 0 3).bind fun t266 => (some t266)) else (some false))) else (some false))
set_option maxHeartbeats 8000000 in
set_option maxRecDepth 100000 in
theorem impl_IsValidRow.calls (a0_0 : Int) (a0_1 : Int) (a0_2 : Int) (r : Bool) (w : World) (h : impl_IsValidRow.f a0_0 a0_1 a0_2 = some r) :
  Calls Try.prog 104 #[.agg #[.int .i64 a0_0, .int .i64 a0_1, .int .i64 a0_2]] w fun e w' => e = .returned (.bool r) ∧ Below w.heap.size w w' := by
 have hu124 := Try.underlying124
 have HB := mA (Below.refl w.heap.size w)
 have H : ((impl_within.f a0_0 0 9).bind fun t264 => (if t264 = true then ((impl_within.f a0_1 0 99).bind fun t265 => (if t265 = true then ((impl_within.f a0_2 0 3).bind fun t266 => (some t266)) else (some false))) else (some false))) = some r := h
 clear h
 obtain ⟨t264, A2, H⟩ := Option.bind_eq_some_iff.mp H
 replace A2 := mA A2
 try dsimp only at H
 by_cases c3 : t264 = true
 ·
  subst c3
  rw [if_pos rfl] at H
  obtain ⟨t265, A4, H⟩ := Option.bind_eq_some_iff.mp H
  replace A4 := mA A4
  try dsimp only at H
  by_cases c5 : t265 = true
  ·
   subst c5
   rw [if_pos rfl] at H
   obtain ⟨t266, A6, H⟩ := Option.bind_eq_some_iff.mp H
   replace A6 := mA A6
   replace H : (some t266) = some r := H
   obtain rfl := Option.some.inj H
   go_enter Try.func104, Try.ntmps104
   go_wp2_with (first | ((with_reducible refine gate_dst (N := 1) rfl ?_); refine boxT 1 #[.int .i64 a0_0, .int .i64 a0_1, .int .i64 a0_2] 124 ?_; intro gb263 hg w7 hbox hb; have BK263 := mA (hbox); have GW263 := mA ((by rw [hg]; exact (below_size (bT HB)) : w.heap.size ≤ gb263)); have GE263 := GW263; replace HB := mA (below_step (bT HB) hb); clear hb hbox hg; obtain ⟨hcz8_0, hcz8_1, hcz8_2, hfz8_0, hfz8_1, hfz8_2⟩ := blk3 BK263.out) | ((with_reducible refine gate_callee (f := 93) rfl ?_); refine goesT (some 5) Try.func93 #[.int .i64 a0_0, .int .i64 0, .int .i64 9] ?_; (with_reducible refine (impl_within.calls a0_0 0 9 true _ A2.out).mono ?_); rintro e w' ⟨rfl, ⟨nd, rfl⟩⟩; refine ⟨_, rfl, ?_⟩) | (go_at_call 93; (with_reducible refine (impl_within.calls a0_1 0 99 true _ A4.out).mono ?_); rintro e w' ⟨rfl, ⟨nd, rfl⟩⟩) | (go_at_call 93; (with_reducible refine (impl_within.calls a0_2 0 3 t266 _ A6.out).mono ?_); rintro e w' ⟨rfl, ⟨nd, rfl⟩⟩))
   go_ret
   exact ⟨eT, bT1 HB GE263⟩
  ·
   replace c5 := Bool.eq_false_iff.mpr c5
   subst c5
   rw [if_neg (show ¬ (false = true) by decide)] at H
   obtain rfl := Option.some.inj H
   go_enter Try.func104, Try.ntmps104
   go_wp2_with (first | ((with_reducible refine gate_dst (N := 1) rfl ?_); refine boxT 1 #[.int .i64 a0_0, .int .i64 a0_1, .int .i64 a0_2] 124 ?_; intro gb263 hg w9 hbox hb; have BK263 := mA (hbox); have GW263 := mA ((by rw [hg]; exact (below_size (bT HB)) : w.heap.size ≤ gb263)); have GE263 := GW263; replace HB := mA (below_step (bT HB) hb); clear hb hbox hg; obtain ⟨hcz10_0, hcz10_1, hcz10_2, hfz10_0, hfz10_1, hfz10_2⟩ := blk3 BK263.out) | ((with_reducible refine gate_callee (f := 93) rfl ?_); refine goesT (some 5) Try.func93 #[.int .i64 a0_0, .int .i64 0, .int .i64 9] ?_; (with_reducible refine (impl_within.calls a0_0 0 9 true _ A2.out).mono ?_); rintro e w' ⟨rfl, ⟨nd, rfl⟩⟩; refine ⟨_, rfl, ?_⟩) | (go_at_call 93; (with_reducible refine (impl_within.calls a0_1 0 99 false _ A4.out).mono ?_); rintro e w' ⟨rfl, ⟨nd, rfl⟩⟩))
   go_ret
   exact ⟨eT, bT1 HB GE263⟩
 ·
  replace c3 := Bool.eq_false_iff.mpr c3
  subst c3
  rw [if_neg (show ¬ (false = true) by decide)] at H
  obtain rfl := Option.some.inj H
  go_enter Try.func104, Try.ntmps104
  go_wp2_with (first | ((with_reducible refine gate_dst (N := 1) rfl ?_); refine boxT 1 #[.int .i64 a0_0, .int .i64 a0_1, .int .i64 a0_2] 124 ?_; intro gb263 hg w11 hbox hb; have BK263 := mA (hbox); have GW263 := mA ((by rw [hg]; exact (below_size (bT HB)) : w.heap.size ≤ gb263)); have GE263 := GW263; replace HB := mA (below_step (bT HB) hb); clear hb hbox hg; obtain ⟨hcz12_0, hcz12_1, hcz12_2, hfz12_0, hfz12_1, hfz12_2⟩ := blk3 BK263.out) | ((with_reducible refine gate_callee (f := 93) rfl ?_); refine goesT (some 5) Try.func93 #[.int .i64 a0_0, .int .i64 0, .int .i64 9] ?_; (with_reducible refine (impl_within.calls a0_0 0 9 false _ A2.out).mono ?_); rintro e w' ⟨rfl, ⟨nd, rfl⟩⟩; refine ⟨_, rfl, ?_⟩))
  go_ret
  exact ⟨eT, bT1 HB GE263⟩

/-! ### impl_allValid: function 102 -/
def impl_allValid.l0 : Nat → List (S124) → Int → Int → Option (Bool)
 | 0, _, _, _ => none
 | k + 1, x5, x6, x7 => if x7 < x6 then (if 0 ≤ x7 then (if x7 < (x5.length : Int) then ((impl_IsValidRow.f ((rd_T124 x5 x7).f0) ((rd_T124 x5 x7).f1) ((rd_T124 x5 x7).f2)).bind fun t269 => (if t269 = true then (impl_allValid.l0 k x5 x6 (wrap64 (x7 + 1))) else (some false))) else (none)) else (none)) else (some true)
def impl_allValid.f (k : Nat) (l0 : List (S124)) : Option (Bool) := impl_allValid.l0 k l0 (l0.length : Int) 0
theorem impl_allValid.mono_l : ∀ k, (∀ y0 y1 y2, LeO (impl_allValid.l0 k y0 y1 y2) (impl_allValid.l0 (k + 1) y0 y1 y2))
 | 0 => fun _ _ _ r h => by simp [impl_allValid.l0] at h
 | k + 1 => by
  have ih0 := impl_allValid.mono_l k
  ·
   intro y0 y1 y2
   unfold impl_allValid.l0
   repeat' first
   | (with_reducible exact ih0 _ _ _)
   | (with_reducible exact LeO.refl _)
   | (with_reducible exact LeO.none _)
   | (with_reducible refine LeO.ite ?_ ?_)
   | (with_reducible refine LeO.bind ?_ (fun _ => ?_))
   | exact ih0 _ _ _
   | exact LeO.none _
   | refine LeO.ite ?_ ?_
   | refine LeO.bind ?_ (fun _ => ?_)
theorem impl_allValid.mono : ∀ a0 k, LeO (impl_allValid.f k a0) (impl_allValid.f (k + 1) a0) := by
 intro a0 k
 have ih0 := impl_allValid.mono_l k
 unfold impl_allValid.f
 repeat' first
   | (with_reducible exact ih0 _ _ _)
   | (with_reducible exact LeO.refl _)
   | (with_reducible exact LeO.none _)
   | (with_reducible refine LeO.ite ?_ ?_)
   | (with_reducible refine LeO.bind ?_ (fun _ => ?_))
   | exact ih0 _ _ _
   | exact LeO.none _
   | refine LeO.ite ?_ ?_
   | refine LeO.bind ?_ (fun _ => ?_)
set_option maxHeartbeats 8000000 in
set_option maxRecDepth 100000 in
theorem impl_allValid.calls (k : Nat) (A0 : Option Addr) (c0 : Nat) (l0 : List (S124)) (r : Bool) (w : World) (hr0 : Kd.C k124 w A0 l0.length l0) (hc0 : l0.length ≤ c0) (h : impl_allValid.f k l0 = some r) :
  Calls Try.prog 102 #[.slice A0 l0.length c0] w fun e w' => e = .returned (.bool r) ∧ Below w.heap.size w w' := by
 have hu124 := Try.underlying124
 have HR0 := mA hr0
 have HC0 := mA hc0
 clear hr0 hc0
 have HB := mA (Below.refl w.heap.size w)
 have H : (impl_allValid.l0 k l0 (l0.length : Int) 0) = some r := h
 clear h
 have H' := mA H
 clear H
 go_enter Try.func102, Try.ntmps102
 go_wp2
 go_loopg [7] k (fun kq v7 w' => ∃ (x7_1 : Int), v7 = .int .i64 x7_1 ∧ Aside0 (impl_allValid.l0 kq l0 (l0.length : Int) x7_1 = some r) ∧ Aside0 (kq ≤ k) ∧ Aside0 (Below w.heap.size w w'))
 case atStart => exact ⟨(0), sT, H', ⟨Nat.le_refl _⟩, ⟨bT HB⟩⟩
 case round =>
  clear H'
  try clear c1
  obtain ⟨x7_1, rfl, HA, HK1, HB⟩ := hrel
  cases gk with
  | zero => exact absurd HA.out (by simp [impl_allValid.l0])
  | succ k1 =>
   have H := HA.out
   clear HA
   simp only [impl_allValid.l0] at H
   by_cases c2 : x7_1 < (l0.length : Int)
   ·
    rw [if_pos c2] at H
    have c2b0 : decide (x7_1 < (l0.length : Int)) = true := decide_eq_true c2
    clear c2
    by_cases c3 : 0 ≤ x7_1
    ·
     rw [if_pos c3] at H
     have c3b0 : decide (0 ≤ x7_1) = true := decide_eq_true c3
     clear c3
     by_cases c4 : x7_1 < (l0.length : Int)
     ·
      rw [if_pos c4] at H
      have c4b0 : decide (x7_1 < (l0.length : Int)) = true := decide_eq_true c4
      clear c4
      obtain ⟨t269, A5, H⟩ := Option.bind_eq_some_iff.mp H
      replace A5 := mA A5
      try dsimp only at H
      by_cases c6 : t269 = true
      ·
       subst c6
       rw [if_pos rfl] at H
       have H' := mA H
       clear H
       have p267 : 0 ≤ (x7_1 : Int) := of_decide_eq_true aT
       have q267 : x7_1 < (l0.length : Int) := of_decide_eq_true aT
       obtain ⟨ad267, e267, hx267_0, hx267_1, hx267_2⟩ := at_T124 HR0.out x7_1 p267 q267
       cases e267
       replace hx267_0 := (HB.out.cell (World.block_lt_of_cell? w _ hx267_0)).trans hx267_0
       replace hx267_1 := (HB.out.cell (World.block_lt_of_cell? w _ hx267_1)).trans hx267_1
       replace hx267_2 := (HB.out.cell (World.block_lt_of_cell? w _ hx267_2)).trans hx267_2
       replace p267 := eq_true p267
       replace q267 := eq_true q267
       go_wp2_with (first | ((with_reducible refine gate_dst (N := 4) rfl ?_); refine boxT 4 #[.int .i64 0, .int .i64 0, .int .i64 0] 124 ?_; intro gb268 hg w7 hbox hb; have BK268 := mA (hbox); have GW268 := mA ((by rw [hg]; exact (below_size (bT HB)) : w.heap.size ≤ gb268)); have GE268 := GW268; replace HB := mA (below_step (bT HB) hb); clear hb hbox hg; obtain ⟨hcz8_0, hcz8_1, hcz8_2, hfz8_0, hfz8_1, hfz8_2⟩ := blk3 BK268.out) | ((with_reducible refine gate_callee (f := 104) rfl ?_); refine goesT (some 12) Try.func104 #[.agg #[.int .i64 ((rd_T124 l0 x7_1).f0), .int .i64 ((rd_T124 l0 x7_1).f1), .int .i64 ((rd_T124 l0 x7_1).f2)]] ?_; (with_reducible refine (impl_IsValidRow.calls ((rd_T124 l0 x7_1).f0) ((rd_T124 l0 x7_1).f1) ((rd_T124 l0 x7_1).f2) true _ A5.out).mono ?_); rintro e w9 ⟨rfl, hb⟩; refine ⟨_, rfl, ?_⟩; replace BK268 := mA (blk_below (g := gb268) (o := .cells #[.int .i64 ((rd_T124 l0 x7_1).f0), .int .i64 ((rd_T124 l0 x7_1).f1), .int .i64 ((rd_T124 l0 x7_1).f2)] 124 (0, 0)) (by (with_reducible repeat (first | refine blk_drewN ?_ _ | refine blk_drew ?_ | refine blk_alloc ?_ _)); refine blk_put (cs := #[.int .i64 ((rd_T124 l0 x7_1).f0), .int .i64 ((rd_T124 l0 x7_1).f1), .int .i64 0]) ?_ 2 _ rfl; (with_reducible repeat (first | refine blk_drewN ?_ _ | refine blk_drew ?_ | refine blk_alloc ?_ _)); refine blk_put (cs := #[.int .i64 ((rd_T124 l0 x7_1).f0), .int .i64 0, .int .i64 0]) ?_ 1 _ rfl; (with_reducible repeat (first | refine blk_drewN ?_ _ | refine blk_drew ?_ | refine blk_alloc ?_ _)); refine blk_put (cs := #[.int .i64 0, .int .i64 0, .int .i64 0]) ?_ 0 _ rfl; (with_reducible repeat (first | refine blk_drewN ?_ _ | refine blk_drew ?_ | refine blk_alloc ?_ _)); exact BK268.out) hb); replace HB := mA (below_step (bT1 HB GE268) hb); (try clear hb)))
       go_roundg k1
       case measure => have := HK1.out; omega
       case rel => exact ⟨(wrap64 (x7_1 + 1)), sT, H', ⟨by have := HK1.out; omega⟩, ⟨bT1 HB GE268⟩⟩
      ·
       replace c6 := Bool.eq_false_iff.mpr c6
       subst c6
       rw [if_neg (show ¬ (false = true) by decide)] at H
       obtain rfl := Option.some.inj H
       have p267 : 0 ≤ (x7_1 : Int) := of_decide_eq_true aT
       have q267 : x7_1 < (l0.length : Int) := of_decide_eq_true aT
       obtain ⟨ad267, e267, hx267_0, hx267_1, hx267_2⟩ := at_T124 HR0.out x7_1 p267 q267
       cases e267
       replace hx267_0 := (HB.out.cell (World.block_lt_of_cell? w _ hx267_0)).trans hx267_0
       replace hx267_1 := (HB.out.cell (World.block_lt_of_cell? w _ hx267_1)).trans hx267_1
       replace hx267_2 := (HB.out.cell (World.block_lt_of_cell? w _ hx267_2)).trans hx267_2
       replace p267 := eq_true p267
       replace q267 := eq_true q267
       go_wp2_with (first | ((with_reducible refine gate_dst (N := 4) rfl ?_); refine boxT 4 #[.int .i64 0, .int .i64 0, .int .i64 0] 124 ?_; intro gb268 hg w10 hbox hb; have BK268 := mA (hbox); have GW268 := mA ((by rw [hg]; exact (below_size (bT HB)) : w.heap.size ≤ gb268)); have GE268 := GW268; replace HB := mA (below_step (bT HB) hb); clear hb hbox hg; obtain ⟨hcz11_0, hcz11_1, hcz11_2, hfz11_0, hfz11_1, hfz11_2⟩ := blk3 BK268.out) | ((with_reducible refine gate_callee (f := 104) rfl ?_); refine goesT (some 12) Try.func104 #[.agg #[.int .i64 ((rd_T124 l0 x7_1).f0), .int .i64 ((rd_T124 l0 x7_1).f1), .int .i64 ((rd_T124 l0 x7_1).f2)]] ?_; (with_reducible refine (impl_IsValidRow.calls ((rd_T124 l0 x7_1).f0) ((rd_T124 l0 x7_1).f1) ((rd_T124 l0 x7_1).f2) false _ A5.out).mono ?_); rintro e w12 ⟨rfl, hb⟩; refine ⟨_, rfl, ?_⟩; replace HB := mA (below_step (bT1 HB GE268) hb); (try clear hb)))
       go_ret
       exact ⟨eT, bT1 HB GE268⟩
     ·
      rw [if_neg c4] at H
      exact absurd H (by simp)
    ·
     rw [if_neg c3] at H
     exact absurd H (by simp)
   ·
    rw [if_neg c2] at H
    have c2b0 : decide (x7_1 < (l0.length : Int)) = false := decide_eq_false c2
    clear c2
    obtain rfl := Option.some.inj H
    go_wp2
    go_ret
    exact ⟨eT, bT HB⟩

/-! ### impl_AreValidRows: function 92 -/
def impl_AreValidRows.f (k : Nat) (l0 : List (S124)) : Option (Bool) := if (l0.length : Int) ≤ 24 then ((impl_allValid.f k l0).bind fun t270 => (some t270)) else (some false)
theorem impl_AreValidRows.mono : ∀ a0 k, LeO (impl_AreValidRows.f k a0) (impl_AreValidRows.f (k + 1) a0) := by
 intro a0 k
 unfold impl_AreValidRows.f
 repeat' first
   | (with_reducible exact impl_allValid.mono _ _)
   | (with_reducible exact LeO.refl _)
   | (with_reducible exact LeO.none _)
   | (with_reducible refine LeO.ite ?_ ?_)
   | (with_reducible refine LeO.bind ?_ (fun _ => ?_))
   | exact impl_allValid.mono _ _
   | exact LeO.none _
   | refine LeO.ite ?_ ?_
   | refine LeO.bind ?_ (fun _ => ?_)
set_option maxHeartbeats 8000000 in
set_option maxRecDepth 100000 in
theorem impl_AreValidRows.calls (k : Nat) (A0 : Option Addr) (c0 : Nat) (l0 : List (S124)) (r : Bool) (w : World) (hr0 : Kd.C k124 w A0 l0.length l0) (hc0 : l0.length ≤ c0) (h : impl_AreValidRows.f k l0 = some r) :
  Calls Try.prog 92 #[.slice A0 l0.length c0] w fun e w' => e = .returned (.bool r) ∧ Below w.heap.size w w' := by
 have HR0 := mA hr0
 have HC0 := mA hc0
 clear hr0 hc0
 have HB := mA (Below.refl w.heap.size w)
 have H : (if (l0.length : Int) ≤ 24 then ((impl_allValid.f k l0).bind fun t270 => (some t270)) else (some false)) = some r := h
 clear h
 by_cases c2 : (l0.length : Int) ≤ 24
 ·
  rw [if_pos c2] at H
  have c2b0 : decide ((l0.length : Int) ≤ 24) = true := decide_eq_true c2
  have c2b1 : decide (l0.length ≤ 24) = true := decide_eq_true (by omega)
  clear c2
  obtain ⟨t270, A3, H⟩ := Option.bind_eq_some_iff.mp H
  replace A3 := mA A3
  replace H : (some t270) = some r := H
  obtain rfl := Option.some.inj H
  go_enter Try.func92, Try.ntmps92
  go_wp2_with (first | (go_at_call 102; (with_reducible refine (impl_allValid.calls k _ _ l0 t270 _ ?side1 ?side2 A3.out).mono ?_); (case side1 => exact cT HR0.out); (case side2 => exact HC0.out); rintro e w4 ⟨rfl, hb⟩; replace HB := mA (below_step (bT HB) hb); (try clear hb)))
  go_ret
  exact ⟨eT, bT HB⟩
 ·
  rw [if_neg c2] at H
  have c2b0 : decide ((l0.length : Int) ≤ 24) = false := decide_eq_false c2
  have c2b1 : decide (l0.length ≤ 24) = false := decide_eq_false (by omega)
  clear c2
  obtain rfl := Option.some.inj H
  go_enter Try.func92, Try.ntmps92
  go_wp2
  go_ret
  exact ⟨eT, bT HB⟩

/-! ### laws_eqRow: function 95 -/
def laws_eqRow.f (a0_0 : Int) (a0_1 : Int) (a0_2 : Int) (a1_0 : Int) (a1_1 : Int) (a1_2 : Int) : Option (Bool) := if a0_0 = a1_0 then (if a0_1 = a1_1 then (if a0_2 = a1_2 then (some true) else (some false)) else (some false)) else (some false)
set_option maxHeartbeats 8000000 in
set_option maxRecDepth 100000 in
theorem laws_eqRow.calls (a0_0 : Int) (a0_1 : Int) (a0_2 : Int) (a1_0 : Int) (a1_1 : Int) (a1_2 : Int) (r : Bool) (w : World) (h : laws_eqRow.f a0_0 a0_1 a0_2 a1_0 a1_1 a1_2 = some r) :
  Calls Try.prog 95 #[.agg #[.int .i64 a0_0, .int .i64 a0_1, .int .i64 a0_2], .agg #[.int .i64 a1_0, .int .i64 a1_1, .int .i64 a1_2]] w fun e w' => e = .returned (.bool r) ∧ Below w.heap.size w w' := by
 have hu124 := Try.underlying124
 have HB := mA (Below.refl w.heap.size w)
 have H : (if a0_0 = a1_0 then (if a0_1 = a1_1 then (if a0_2 = a1_2 then (some true) else (some false)) else (some false)) else (some false)) = some r := h
 clear h
 by_cases c3 : a0_0 = a1_0
 ·
  rw [if_pos c3] at H
  have c3b0 : (a0_0 == a1_0) = true := beq_iff_eq.mpr c3
  have c3b1 : (a0_0 != a1_0) = false := bne_eq_false_iff_eq.mpr c3
  clear c3
  by_cases c4 : a0_1 = a1_1
  ·
   rw [if_pos c4] at H
   have c4b0 : (a0_1 == a1_1) = true := beq_iff_eq.mpr c4
   have c4b1 : (a0_1 != a1_1) = false := bne_eq_false_iff_eq.mpr c4
   clear c4
   by_cases c5 : a0_2 = a1_2
   ·
    rw [if_pos c5] at H
    have c5b0 : (a0_2 == a1_2) = true := beq_iff_eq.mpr c5
    have c5b1 : (a0_2 != a1_2) = false := bne_eq_false_iff_eq.mpr c5
    clear c5
    obtain rfl := Option.some.inj H
    go_enter Try.func95, Try.ntmps95
    go_wp2_with (first | ((with_reducible refine gate_dst (N := 2) rfl ?_); refine boxT 2 #[.int .i64 a0_0, .int .i64 a0_1, .int .i64 a0_2] 124 ?_; intro gb304 hg w6 hbox hb; have BK304 := mA (hbox); have GW304 := mA ((by rw [hg]; exact (below_size (bT HB)) : w.heap.size ≤ gb304)); have GE304 := GW304; replace HB := mA (below_step (bT HB) hb); clear hb hbox hg) | ((with_reducible refine gate_dst (N := 3) rfl ?_); refine boxT 3 #[.int .i64 a1_0, .int .i64 a1_1, .int .i64 a1_2] 124 ?_; intro gb305 hg w7 hbox hb; have BK305 := mA (hbox); have GW305 := mA ((by rw [hg]; exact (below_size (bT1 HB GE304)) : w.heap.size ≤ gb305)); have GE305 := GW305; replace HB := mA (below_step (bT1 HB GE304) hb); have NB304_305 : Aside0 (gb304 ≠ gb305) := nL BK304 hg; have NB305_304 : Aside0 (gb305 ≠ gb304) := nG BK304 hg; replace BK304 := kB BK304 hb; clear hb hbox hg; have hnb8 := NB304_305.out; have hnc8 := NB305_304.out; obtain ⟨hcz9_0, hcz9_1, hcz9_2, hfz9_0, hfz9_1, hfz9_2⟩ := blk3 BK304.out; obtain ⟨hcz10_0, hcz10_1, hcz10_2, hfz10_0, hfz10_1, hfz10_2⟩ := blk3 BK305.out))
    go_ret
    exact ⟨eT, bT2 HB GE304 GE305⟩
   ·
    rw [if_neg c5] at H
    have c5b0 : (a0_2 == a1_2) = false := beq_eq_false_iff_ne.mpr c5
    have c5b1 : (a0_2 != a1_2) = true := bne_iff_ne.mpr c5
    obtain rfl := Option.some.inj H
    go_enter Try.func95, Try.ntmps95
    go_wp2_with (first | ((with_reducible refine gate_dst (N := 2) rfl ?_); refine boxT 2 #[.int .i64 a0_0, .int .i64 a0_1, .int .i64 a0_2] 124 ?_; intro gb304 hg w11 hbox hb; have BK304 := mA (hbox); have GW304 := mA ((by rw [hg]; exact (below_size (bT HB)) : w.heap.size ≤ gb304)); have GE304 := GW304; replace HB := mA (below_step (bT HB) hb); clear hb hbox hg) | ((with_reducible refine gate_dst (N := 3) rfl ?_); refine boxT 3 #[.int .i64 a1_0, .int .i64 a1_1, .int .i64 a1_2] 124 ?_; intro gb305 hg w12 hbox hb; have BK305 := mA (hbox); have GW305 := mA ((by rw [hg]; exact (below_size (bT1 HB GE304)) : w.heap.size ≤ gb305)); have GE305 := GW305; replace HB := mA (below_step (bT1 HB GE304) hb); have NB304_305 : Aside0 (gb304 ≠ gb305) := nL BK304 hg; have NB305_304 : Aside0 (gb305 ≠ gb304) := nG BK304 hg; replace BK304 := kB BK304 hb; clear hb hbox hg; have hnb13 := NB304_305.out; have hnc13 := NB305_304.out; obtain ⟨hcz14_0, hcz14_1, hcz14_2, hfz14_0, hfz14_1, hfz14_2⟩ := blk3 BK304.out; obtain ⟨hcz15_0, hcz15_1, hcz15_2, hfz15_0, hfz15_1, hfz15_2⟩ := blk3 BK305.out))
    go_ret
    exact ⟨eT, bT2 HB GE304 GE305⟩
  ·
   rw [if_neg c4] at H
   have c4b0 : (a0_1 == a1_1) = false := beq_eq_false_iff_ne.mpr c4
   have c4b1 : (a0_1 != a1_1) = true := bne_iff_ne.mpr c4
   obtain rfl := Option.some.inj H
   go_enter Try.func95, Try.ntmps95
   go_wp2_with (first | ((with_reducible refine gate_dst (N := 2) rfl ?_); refine boxT 2 #[.int .i64 a0_0, .int .i64 a0_1, .int .i64 a0_2] 124 ?_; intro gb304 hg w16 hbox hb; have BK304 := mA (hbox); have GW304 := mA ((by rw [hg]; exact (below_size (bT HB)) : w.heap.size ≤ gb304)); have GE304 := GW304; replace HB := mA (below_step (bT HB) hb); clear hb hbox hg) | ((with_reducible refine gate_dst (N := 3) rfl ?_); refine boxT 3 #[.int .i64 a1_0, .int .i64 a1_1, .int .i64 a1_2] 124 ?_; intro gb305 hg w17 hbox hb; have BK305 := mA (hbox); have GW305 := mA ((by rw [hg]; exact (below_size (bT1 HB GE304)) : w.heap.size ≤ gb305)); have GE305 := GW305; replace HB := mA (below_step (bT1 HB GE304) hb); have NB304_305 : Aside0 (gb304 ≠ gb305) := nL BK304 hg; have NB305_304 : Aside0 (gb305 ≠ gb304) := nG BK304 hg; replace BK304 := kB BK304 hb; clear hb hbox hg; have hnb18 := NB304_305.out; have hnc18 := NB305_304.out; obtain ⟨hcz19_0, hcz19_1, hcz19_2, hfz19_0, hfz19_1, hfz19_2⟩ := blk3 BK304.out; obtain ⟨hcz20_0, hcz20_1, hcz20_2, hfz20_0, hfz20_1, hfz20_2⟩ := blk3 BK305.out))
   go_ret
   exact ⟨eT, bT2 HB GE304 GE305⟩
 ·
  rw [if_neg c3] at H
  have c3b0 : (a0_0 == a1_0) = false := beq_eq_false_iff_ne.mpr c3
  have c3b1 : (a0_0 != a1_0) = true := bne_iff_ne.mpr c3
  obtain rfl := Option.some.inj H
  go_enter Try.func95, Try.ntmps95
  go_wp2_with (first | ((with_reducible refine gate_dst (N := 2) rfl ?_); refine boxT 2 #[.int .i64 a0_0, .int .i64 a0_1, .int .i64 a0_2] 124 ?_; intro gb304 hg w21 hbox hb; have BK304 := mA (hbox); have GW304 := mA ((by rw [hg]; exact (below_size (bT HB)) : w.heap.size ≤ gb304)); have GE304 := GW304; replace HB := mA (below_step (bT HB) hb); clear hb hbox hg) | ((with_reducible refine gate_dst (N := 3) rfl ?_); refine boxT 3 #[.int .i64 a1_0, .int .i64 a1_1, .int .i64 a1_2] 124 ?_; intro gb305 hg w22 hbox hb; have BK305 := mA (hbox); have GW305 := mA ((by rw [hg]; exact (below_size (bT1 HB GE304)) : w.heap.size ≤ gb305)); have GE305 := GW305; replace HB := mA (below_step (bT1 HB GE304) hb); have NB304_305 : Aside0 (gb304 ≠ gb305) := nL BK304 hg; have NB305_304 : Aside0 (gb305 ≠ gb304) := nG BK304 hg; replace BK304 := kB BK304 hb; clear hb hbox hg; have hnb23 := NB304_305.out; have hnc23 := NB305_304.out; obtain ⟨hcz24_0, hcz24_1, hcz24_2, hfz24_0, hfz24_1, hfz24_2⟩ := blk3 BK304.out; obtain ⟨hcz25_0, hcz25_1, hcz25_2, hfz25_0, hfz25_1, hfz25_2⟩ := blk3 BK305.out))
  go_ret
  exact ⟨eT, bT2 HB GE304 GE305⟩

/-! ### laws_eqRowS: function 57 -/
def laws_eqRowS.l0 : Nat → List (S124) → List (S124) → Int → Option (Bool)
 | 0, _, _, _ => none
 | k + 1, x0, x1, x5 => if x5 < (x0.length : Int) then (if 0 ≤ x5 then (if x5 < (x1.length : Int) then ((laws_eqRow.f ((rd_T124 x0 x5).f0) ((rd_T124 x0 x5).f1) ((rd_T124 x0 x5).f2) ((rd_T124 x1 x5).f0) ((rd_T124 x1 x5).f1) ((rd_T124 x1 x5).f2)).bind fun t308 => (if t308 = true then (laws_eqRowS.l0 k x0 x1 (wrap64 (x5 + 1))) else (some false))) else (none)) else (none)) else (some true)
def laws_eqRowS.f (k : Nat) (l0 : List (S124)) (l1 : List (S124)) : Option (Bool) := if (l0.length : Int) = (l1.length : Int) then (laws_eqRowS.l0 k l0 l1 0) else (some false)
theorem laws_eqRowS.mono_l : ∀ k, (∀ y0 y1 y2, LeO (laws_eqRowS.l0 k y0 y1 y2) (laws_eqRowS.l0 (k + 1) y0 y1 y2))
 | 0 => fun _ _ _ r h => by simp [laws_eqRowS.l0] at h
 | k + 1 => by
  have ih0 := laws_eqRowS.mono_l k
  ·
   intro y0 y1 y2
   unfold laws_eqRowS.l0
   repeat' first
   | (with_reducible exact ih0 _ _ _)
   | (with_reducible exact LeO.refl _)
   | (with_reducible exact LeO.none _)
   | (with_reducible refine LeO.ite ?_ ?_)
   | (with_reducible refine LeO.bind ?_ (fun _ => ?_))
   | exact ih0 _ _ _
   | exact LeO.none _
   | refine LeO.ite ?_ ?_
   | refine LeO.bind ?_ (fun _ => ?_)
theorem laws_eqRowS.mono : ∀ a0 a1 k, LeO (laws_eqRowS.f k a0 a1) (laws_eqRowS.f (k + 1) a0 a1) := by
 intro a0 a1 k
 have ih0 := laws_eqRowS.mono_l k
 unfold laws_eqRowS.f
 repeat' first
   | (with_reducible exact ih0 _ _ _)
   | (with_reducible exact LeO.refl _)
   | (with_reducible exact LeO.none _)
   | (with_reducible refine LeO.ite ?_ ?_)
   | (with_reducible refine LeO.bind ?_ (fun _ => ?_))
   | exact ih0 _ _ _
   | exact LeO.none _
   | refine LeO.ite ?_ ?_
   | refine LeO.bind ?_ (fun _ => ?_)
def laws_eqRowS.T6 : Bool × List (List Nat × List Nat) := (true, [([], []), ([], []), ([0, 1], [0, 1]), ([2], [2]), ([], []), ([], []), ([4, 5], [4, 5]), ([6], [6]), ([3, 7], [3, 7]), ([8], [8])])
def laws_eqRowS.B6 : List Nat := [0, 0, 3, 7, 0, 0, 48, 112, 255, 511]
theorem laws_eqRowS.tab6 : rtab .any (opsOf Try.f57 6) = laws_eqRowS.T6 := by kernel_rfl
theorem laws_eqRowS.bits6 : waitsOk laws_eqRowS.T6.2 laws_eqRowS.B6 = true := by kernel_rfl
set_option maxHeartbeats 8000000 in
set_option maxRecDepth 100000 in
theorem laws_eqRowS.calls (k : Nat) (A0 : Option Addr) (c0 : Nat) (l0 : List (S124)) (A1 : Option Addr) (c1 : Nat) (l1 : List (S124)) (r : Bool) (w : World) (hr0 : Kd.C k124 w A0 l0.length l0) (hc0 : l0.length ≤ c0) (hr1 : Kd.C k124 w A1 l1.length l1) (hc1 : l1.length ≤ c1) (h : laws_eqRowS.f k l0 l1 = some r) :
  Calls Try.prog 57 #[.slice A0 l0.length c0, .slice A1 l1.length c1] w fun e w' => e = .returned (.bool r) ∧ Below w.heap.size w w' := by
 have hu124 := Try.underlying124
 have HR0 := mA hr0
 have HC0 := mA hc0
 clear hr0 hc0
 have HR1 := mA hr1
 have HC1 := mA hc1
 clear hr1 hc1
 have HB := mA (Below.refl w.heap.size w)
 have H : (if (l0.length : Int) = (l1.length : Int) then (laws_eqRowS.l0 k l0 l1 0) else (some false)) = some r := h
 clear h
 by_cases c3 : (l0.length : Int) = (l1.length : Int)
 ·
  rw [if_pos c3] at H
  have c3b0 : ((l0.length : Int) == (l1.length : Int)) = true := beq_iff_eq.mpr c3
  have c3b1 : ((l0.length : Int) != (l1.length : Int)) = false := bne_eq_false_iff_eq.mpr c3
  have c3b2 : (l0.length == l1.length) = true := by first | simpa using c3 | (simp at c3 ⊢; omega)
  clear c3
  have H' := mA H
  clear H
  go_enter Try.func57, Try.ntmps57
  go_wp2
  go_loopg [5] k (fun kq v5 w' => ∃ (x5_1 : Int), v5 = .int .i64 x5_1 ∧ Aside0 (laws_eqRowS.l0 kq l0 l1 x5_1 = some r) ∧ Aside0 (kq ≤ k) ∧ Aside0 (Below w.heap.size w w'))
  case atStart => exact ⟨(0), sT, H', ⟨Nat.le_refl _⟩, ⟨bT HB⟩⟩
  case round =>
   clear H'
   try clear c1
   try clear p2
   try clear c3
   try clear c3b0
   try clear c3b1
   try clear c3b2
   obtain ⟨x5_1, rfl, HA, HK1, HB⟩ := hrel
   cases gk with
   | zero => exact absurd HA.out (by simp [laws_eqRowS.l0])
   | succ k1 =>
    have H := HA.out
    clear HA
    simp only [laws_eqRowS.l0] at H
    by_cases c4 : x5_1 < (l0.length : Int)
    ·
     rw [if_pos c4] at H
     have c4b0 : decide (x5_1 < (l0.length : Int)) = true := decide_eq_true c4
     clear c4
     by_cases c5 : 0 ≤ x5_1
     ·
      rw [if_pos c5] at H
      have c5b0 : decide (0 ≤ x5_1) = true := decide_eq_true c5
      clear c5
      by_cases c6 : x5_1 < (l1.length : Int)
      ·
       rw [if_pos c6] at H
       have c6b0 : decide (x5_1 < (l1.length : Int)) = true := decide_eq_true c6
       clear c6
       obtain ⟨t308, A7, H⟩ := Option.bind_eq_some_iff.mp H
       replace A7 := mA A7
       try dsimp only at H
       by_cases c8 : t308 = true
       ·
        subst c8
        rw [if_pos rfl] at H
        have H' := mA H
        clear H
        try go_wp2
        replace HB := mA (below_drew1 HB.out)
        have p306 : 0 ≤ (x5_1 : Int) := of_decide_eq_true aT
        have q306 : x5_1 < (l0.length : Int) := of_decide_eq_true aT
        obtain ⟨ad306, e306, hx306_0, hx306_1, hx306_2⟩ := at_T124 HR0.out x5_1 p306 q306
        have hw306_2 := hx306_2
        have hw306_1 := hx306_1
        have hw306_0 := hx306_0
        cases e306
        replace hx306_0 := (HB.out.cell (World.block_lt_of_cell? w _ hx306_0)).trans hx306_0
        replace hx306_1 := (HB.out.cell (World.block_lt_of_cell? w _ hx306_1)).trans hx306_1
        replace hx306_2 := (HB.out.cell (World.block_lt_of_cell? w _ hx306_2)).trans hx306_2
        replace p306 := eq_true p306
        replace q306 := eq_true q306
        have p307 : 0 ≤ (x5_1 : Int) := of_decide_eq_true aT
        have q307 : x5_1 < (l1.length : Int) := of_decide_eq_true aT
        obtain ⟨ad307, e307, hx307_0, hx307_1, hx307_2⟩ := at_T124 HR1.out x5_1 p307 q307
        have hw307_2 := hx307_2
        have hw307_1 := hx307_1
        have hw307_0 := hx307_0
        cases e307
        replace hx307_0 := (HB.out.cell (World.block_lt_of_cell? w _ hx307_0)).trans hx307_0
        replace hx307_1 := (HB.out.cell (World.block_lt_of_cell? w _ hx307_1)).trans hx307_1
        replace hx307_2 := (HB.out.cell (World.block_lt_of_cell? w _ hx307_2)).trans hx307_2
        replace p307 := eq_true p307
        replace q307 := eq_true q307
        refine start_ (n := 10) (S := fun w' => w'.cell? (ad306.add ((x5_1).toNat * 3)) = some (.int .i64 ((rd_T124 l0 x5_1).f0)) ∧ w'.cell? ⟨(ad306.add ((x5_1).toNat * 3)).block, (ad306.add ((x5_1).toNat * 3)).off + 1, none⟩ = some (.int .i64 ((rd_T124 l0 x5_1).f1)) ∧ w'.cell? ⟨(ad306.add ((x5_1).toNat * 3)).block, (ad306.add ((x5_1).toNat * 3)).off + 2, none⟩ = some (.int .i64 ((rd_T124 l0 x5_1).f2)) ∧ w'.cell? (ad307.add ((x5_1).toNat * 3)) = some (.int .i64 ((rd_T124 l1 x5_1).f0)) ∧ w'.cell? ⟨(ad307.add ((x5_1).toNat * 3)).block, (ad307.add ((x5_1).toNat * 3)).off + 1, none⟩ = some (.int .i64 ((rd_T124 l1 x5_1).f1)) ∧ w'.cell? ⟨(ad307.add ((x5_1).toNat * 3)).block, (ad307.add ((x5_1).toNat * 3)).off + 2, none⟩ = some (.int .i64 ((rd_T124 l1 x5_1).f2))) (ds := []) #[false, false, false, false, false, false, false, false, false, false] (by kernel_rfl) rfl rfl ⟨((HB.out.cell (World.block_lt_of_cell? w _ hw306_0)).trans hw306_0), ((HB.out.cell (World.block_lt_of_cell? w _ hw306_1)).trans hw306_1), ((HB.out.cell (World.block_lt_of_cell? w _ hw306_2)).trans hw306_2), ((HB.out.cell (World.block_lt_of_cell? w _ hw307_0)).trans hw307_0), ((HB.out.cell (World.block_lt_of_cell? w _ hw307_1)).trans hw307_1), ((HB.out.cell (World.block_lt_of_cell? w _ hw307_2)).trans hw307_2)⟩ (fun hHeld => ?_); refine with_tabW laws_eqRowS.tab6 laws_eqRowS.bits6 (fun HT_ HW_ => ?_)
        generalize wr.drew = w9 at HB hx306_0 hx306_1 hx306_2 hx307_0 hx307_1 hx307_2 hHeld ⊢
        refine pureT (i := 0) (N := some 17) #[true, false, false, false, false, false, false, false, false, false] (any_of HT_.out (by kernel_rfl)) ?_
        refine pureT (i := 1) (N := some 18) #[true, true, false, false, false, false, false, false, false, false] (any_of HT_.out (by kernel_rfl)) ?_
        refine pureT (i := 2) (N := some 19) #[true, true, true, false, false, false, false, false, false, false] (any_of HT_.out (by kernel_rfl)) ?_
        refine pureT (i := 4) (N := some 21) #[true, true, true, false, true, false, false, false, false, false] (any_of HT_.out (by kernel_rfl)) ?_
        refine pureT (i := 5) (N := some 22) #[true, true, true, false, true, true, false, false, false, false] (any_of HT_.out (by kernel_rfl)) ?_
        refine pureT (i := 6) (N := some 23) #[true, true, true, false, true, true, true, false, false, false] (any_of HT_.out (by kernel_rfl)) ?_
        refine take_ (i := 3) (N := some 20) (v := ?_) (a' := ?_) #[true, true, true, true, true, true, true, false, false, false] rfl rfl (take_ofW HT_.out HW_.out (by kernel_rfl)) (fun _ _ _ h => h) (Or.inl ⟨by rfl, ?_⟩) hHeld ?_ ?_
        rotate_left
        ·
         rintro w' ⟨s0, s1, s2, s3, s4, s5⟩
         go_simp
         with_reducible rfl
        rotate_left
        ·
         simp only [Act.put, List.setIfInBounds_toArray, List.set_cons_zero, List.set_cons_succ, i64_w, i32_w]
         rfl
        refine take_ (i := 7) (N := some 24) (v := ?_) (a' := ?_) #[true, true, true, true, true, true, true, true, false, false] rfl rfl (take_ofW HT_.out HW_.out (by kernel_rfl)) (fun _ _ _ h => h) (Or.inl ⟨by rfl, ?_⟩) hHeld ?_ ?_
        rotate_left
        ·
         rintro w' ⟨s0, s1, s2, s3, s4, s5⟩
         go_simp
         with_reducible rfl
        rotate_left
        ·
         simp only [Act.put, List.setIfInBounds_toArray, List.set_cons_zero, List.set_cons_succ, i64_w, i32_w]
         rfl
        refine one_ (i := 8) (N := some 25) #[true, true, true, true, true, true, true, true, true, false] rfl rfl (one_of HT_.out (by kernel_rfl)) (by decide) (fun K hK => ?_)
        refine goes_ Try.func95 (by kernel_rfl) rfl #[.agg #[.int .i64 ((rd_T124 l0 x5_1).f0), .int .i64 ((rd_T124 l0 x5_1).f1), .int .i64 ((rd_T124 l0 x5_1).f2)], .agg #[.int .i64 ((rd_T124 l1 x5_1).f0), .int .i64 ((rd_T124 l1 x5_1).f1), .int .i64 ((rd_T124 l1 x5_1).f2)]] (by rfl) rfl rfl mT ?_
        with_reducible refine (laws_eqRow.calls ((rd_T124 l0 x5_1).f0) ((rd_T124 l0 x5_1).f1) ((rd_T124 l0 x5_1).f2) ((rd_T124 l1 x5_1).f0) ((rd_T124 l1 x5_1).f1) ((rd_T124 l1 x5_1).f2) true _ A7.out).mono ?_
        rintro e w10 ⟨rfl, hb⟩
        refine ⟨_, rfl, ?_⟩
        replace HB := mA (below_step (bT HB) hb)
        (try clear hb)
        (try clear hb2)
        (try clear hk)
        (try clear hi)
        refine hK.out _ _ ⟨((HB.out.cell (World.block_lt_of_cell? w _ hw306_0)).trans hw306_0), ((HB.out.cell (World.block_lt_of_cell? w _ hw306_1)).trans hw306_1), ((HB.out.cell (World.block_lt_of_cell? w _ hw306_2)).trans hw306_2), ((HB.out.cell (World.block_lt_of_cell? w _ hw307_0)).trans hw307_0), ((HB.out.cell (World.block_lt_of_cell? w _ hw307_1)).trans hw307_1), ((HB.out.cell (World.block_lt_of_cell? w _ hw307_2)).trans hw307_2)⟩ (fun hHeld => ?_)
        clear hK K
        refine norm_ (a' := ?_) ?_ ?_
        rotate_left
        ·
         show Act.put _ (some 25) _ = _
         simp only [Act.put, List.setIfInBounds_toArray, List.set_cons_zero, List.set_cons_succ, i64_w, i32_w]
         rfl
        refine pureT (i := 9) (N := some 26) #[true, true, true, true, true, true, true, true, true, true] (any_of HT_.out (by kernel_rfl)) ?_
        refine done_ (done_of HT_.out (by kernel_rfl)) ?_
        try go_wp2
        go_roundg k1
        case measure => have := HK1.out; omega
        case rel => exact ⟨(wrap64 (x5_1 + 1)), sT, H', ⟨by have := HK1.out; omega⟩, ⟨bT HB⟩⟩
       ·
        replace c8 := Bool.eq_false_iff.mpr c8
        subst c8
        rw [if_neg (show ¬ (false = true) by decide)] at H
        obtain rfl := Option.some.inj H
        try go_wp2
        replace HB := mA (below_drew1 HB.out)
        have p306 : 0 ≤ (x5_1 : Int) := of_decide_eq_true aT
        have q306 : x5_1 < (l0.length : Int) := of_decide_eq_true aT
        obtain ⟨ad306, e306, hx306_0, hx306_1, hx306_2⟩ := at_T124 HR0.out x5_1 p306 q306
        have hw306_2 := hx306_2
        have hw306_1 := hx306_1
        have hw306_0 := hx306_0
        cases e306
        replace hx306_0 := (HB.out.cell (World.block_lt_of_cell? w _ hx306_0)).trans hx306_0
        replace hx306_1 := (HB.out.cell (World.block_lt_of_cell? w _ hx306_1)).trans hx306_1
        replace hx306_2 := (HB.out.cell (World.block_lt_of_cell? w _ hx306_2)).trans hx306_2
        replace p306 := eq_true p306
        replace q306 := eq_true q306
        have p307 : 0 ≤ (x5_1 : Int) := of_decide_eq_true aT
        have q307 : x5_1 < (l1.length : Int) := of_decide_eq_true aT
        obtain ⟨ad307, e307, hx307_0, hx307_1, hx307_2⟩ := at_T124 HR1.out x5_1 p307 q307
        have hw307_2 := hx307_2
        have hw307_1 := hx307_1
        have hw307_0 := hx307_0
        cases e307
        replace hx307_0 := (HB.out.cell (World.block_lt_of_cell? w _ hx307_0)).trans hx307_0
        replace hx307_1 := (HB.out.cell (World.block_lt_of_cell? w _ hx307_1)).trans hx307_1
        replace hx307_2 := (HB.out.cell (World.block_lt_of_cell? w _ hx307_2)).trans hx307_2
        replace p307 := eq_true p307
        replace q307 := eq_true q307
        refine start_ (n := 10) (S := fun w' => w'.cell? (ad306.add ((x5_1).toNat * 3)) = some (.int .i64 ((rd_T124 l0 x5_1).f0)) ∧ w'.cell? ⟨(ad306.add ((x5_1).toNat * 3)).block, (ad306.add ((x5_1).toNat * 3)).off + 1, none⟩ = some (.int .i64 ((rd_T124 l0 x5_1).f1)) ∧ w'.cell? ⟨(ad306.add ((x5_1).toNat * 3)).block, (ad306.add ((x5_1).toNat * 3)).off + 2, none⟩ = some (.int .i64 ((rd_T124 l0 x5_1).f2)) ∧ w'.cell? (ad307.add ((x5_1).toNat * 3)) = some (.int .i64 ((rd_T124 l1 x5_1).f0)) ∧ w'.cell? ⟨(ad307.add ((x5_1).toNat * 3)).block, (ad307.add ((x5_1).toNat * 3)).off + 1, none⟩ = some (.int .i64 ((rd_T124 l1 x5_1).f1)) ∧ w'.cell? ⟨(ad307.add ((x5_1).toNat * 3)).block, (ad307.add ((x5_1).toNat * 3)).off + 2, none⟩ = some (.int .i64 ((rd_T124 l1 x5_1).f2))) (ds := []) #[false, false, false, false, false, false, false, false, false, false] (by kernel_rfl) rfl rfl ⟨((HB.out.cell (World.block_lt_of_cell? w _ hw306_0)).trans hw306_0), ((HB.out.cell (World.block_lt_of_cell? w _ hw306_1)).trans hw306_1), ((HB.out.cell (World.block_lt_of_cell? w _ hw306_2)).trans hw306_2), ((HB.out.cell (World.block_lt_of_cell? w _ hw307_0)).trans hw307_0), ((HB.out.cell (World.block_lt_of_cell? w _ hw307_1)).trans hw307_1), ((HB.out.cell (World.block_lt_of_cell? w _ hw307_2)).trans hw307_2)⟩ (fun hHeld => ?_); refine with_tabW laws_eqRowS.tab6 laws_eqRowS.bits6 (fun HT_ HW_ => ?_)
        generalize wr.drew = w11 at HB hx306_0 hx306_1 hx306_2 hx307_0 hx307_1 hx307_2 hHeld ⊢
        refine pureT (i := 0) (N := some 17) #[true, false, false, false, false, false, false, false, false, false] (any_of HT_.out (by kernel_rfl)) ?_
        refine pureT (i := 1) (N := some 18) #[true, true, false, false, false, false, false, false, false, false] (any_of HT_.out (by kernel_rfl)) ?_
        refine pureT (i := 2) (N := some 19) #[true, true, true, false, false, false, false, false, false, false] (any_of HT_.out (by kernel_rfl)) ?_
        refine pureT (i := 4) (N := some 21) #[true, true, true, false, true, false, false, false, false, false] (any_of HT_.out (by kernel_rfl)) ?_
        refine pureT (i := 5) (N := some 22) #[true, true, true, false, true, true, false, false, false, false] (any_of HT_.out (by kernel_rfl)) ?_
        refine pureT (i := 6) (N := some 23) #[true, true, true, false, true, true, true, false, false, false] (any_of HT_.out (by kernel_rfl)) ?_
        refine take_ (i := 3) (N := some 20) (v := ?_) (a' := ?_) #[true, true, true, true, true, true, true, false, false, false] rfl rfl (take_ofW HT_.out HW_.out (by kernel_rfl)) (fun _ _ _ h => h) (Or.inl ⟨by rfl, ?_⟩) hHeld ?_ ?_
        rotate_left
        ·
         rintro w' ⟨s0, s1, s2, s3, s4, s5⟩
         go_simp
         with_reducible rfl
        rotate_left
        ·
         simp only [Act.put, List.setIfInBounds_toArray, List.set_cons_zero, List.set_cons_succ, i64_w, i32_w]
         rfl
        refine take_ (i := 7) (N := some 24) (v := ?_) (a' := ?_) #[true, true, true, true, true, true, true, true, false, false] rfl rfl (take_ofW HT_.out HW_.out (by kernel_rfl)) (fun _ _ _ h => h) (Or.inl ⟨by rfl, ?_⟩) hHeld ?_ ?_
        rotate_left
        ·
         rintro w' ⟨s0, s1, s2, s3, s4, s5⟩
         go_simp
         with_reducible rfl
        rotate_left
        ·
         simp only [Act.put, List.setIfInBounds_toArray, List.set_cons_zero, List.set_cons_succ, i64_w, i32_w]
         rfl
        refine one_ (i := 8) (N := some 25) #[true, true, true, true, true, true, true, true, true, false] rfl rfl (one_of HT_.out (by kernel_rfl)) (by decide) (fun K hK => ?_)
        refine goes_ Try.func95 (by kernel_rfl) rfl #[.agg #[.int .i64 ((rd_T124 l0 x5_1).f0), .int .i64 ((rd_T124 l0 x5_1).f1), .int .i64 ((rd_T124 l0 x5_1).f2)], .agg #[.int .i64 ((rd_T124 l1 x5_1).f0), .int .i64 ((rd_T124 l1 x5_1).f1), .int .i64 ((rd_T124 l1 x5_1).f2)]] (by rfl) rfl rfl mT ?_
        with_reducible refine (laws_eqRow.calls ((rd_T124 l0 x5_1).f0) ((rd_T124 l0 x5_1).f1) ((rd_T124 l0 x5_1).f2) ((rd_T124 l1 x5_1).f0) ((rd_T124 l1 x5_1).f1) ((rd_T124 l1 x5_1).f2) false _ A7.out).mono ?_
        rintro e w12 ⟨rfl, hb⟩
        refine ⟨_, rfl, ?_⟩
        replace HB := mA (below_step (bT HB) hb)
        (try clear hb)
        (try clear hb2)
        (try clear hk)
        (try clear hi)
        refine hK.out _ _ ⟨((HB.out.cell (World.block_lt_of_cell? w _ hw306_0)).trans hw306_0), ((HB.out.cell (World.block_lt_of_cell? w _ hw306_1)).trans hw306_1), ((HB.out.cell (World.block_lt_of_cell? w _ hw306_2)).trans hw306_2), ((HB.out.cell (World.block_lt_of_cell? w _ hw307_0)).trans hw307_0), ((HB.out.cell (World.block_lt_of_cell? w _ hw307_1)).trans hw307_1), ((HB.out.cell (World.block_lt_of_cell? w _ hw307_2)).trans hw307_2)⟩ (fun hHeld => ?_)
        clear hK K
        refine norm_ (a' := ?_) ?_ ?_
        rotate_left
        ·
         show Act.put _ (some 25) _ = _
         simp only [Act.put, List.setIfInBounds_toArray, List.set_cons_zero, List.set_cons_succ, i64_w, i32_w]
         rfl
        refine pureT (i := 9) (N := some 26) #[true, true, true, true, true, true, true, true, true, true] (any_of HT_.out (by kernel_rfl)) ?_
        refine done_ (done_of HT_.out (by kernel_rfl)) ?_
        try go_wp2
        go_ret
        exact ⟨eT, bT HB⟩
      ·
       rw [if_neg c6] at H
       exact absurd H (by simp)
     ·
      rw [if_neg c5] at H
      exact absurd H (by simp)
    ·
     rw [if_neg c4] at H
     have c4b0 : decide (x5_1 < (l0.length : Int)) = false := decide_eq_false c4
     clear c4
     obtain rfl := Option.some.inj H
     go_wp2
     go_ret
     exact ⟨eT, bT HB⟩
 ·
  rw [if_neg c3] at H
  have c3b0 : ((l0.length : Int) == (l1.length : Int)) = false := beq_eq_false_iff_ne.mpr c3
  have c3b1 : ((l0.length : Int) != (l1.length : Int)) = true := bne_iff_ne.mpr c3
  have c3b2 : (l0.length == l1.length) = false := by first | simpa using c3 | (simp at c3 ⊢; omega)
  obtain rfl := Option.some.inj H
  go_enter Try.func57, Try.ntmps57
  go_wp2
  go_ret
  exact ⟨eT, bT HB⟩

end Go.Proofs.Ytnllplklggoabaa.P
