/- Written by tools/seatprint.py over the translation. Lean checks it. -/
import Derived.Test.YtnllplklggoabaaP0
import Derived.Test.YtnllplklggoabaaP6fc0
import Derived.Test.YtnllplklggoabaaP7fc0
namespace Go.Proofs.Ytnllplklggoabaa.P
open Go.RowKit Go.Proofs.YtnllplklggoabaaW.PrintWords Go.Proofs.YtnllplklggoabaaW.PrintLast Go.Proofs.YtnllplklggoabaaW.PrintMore
attribute [local go_sem] max2_int min2_int max_two min_two max_three min_three max_four min_four
set_option linter.unusedVariables false
set_option linter.unusedSimpArgs false

/-! ### laws_szRollupRowS: function 10 -/
def laws_szRollupRowS.f (l0 : List (S83)) (a1 : Int) : Option (Int) := if (wrap64 (a1 - (l0.length : Int))) < 0 then (some (-1)) else (some (wrap64 (a1 - (l0.length : Int))))
set_option maxHeartbeats 8000000 in
set_option maxRecDepth 100000 in
theorem laws_szRollupRowS.calls (A0 : Option Addr) (c0 : Nat) (l0 : List (S83)) (a1 : Int) (r : Int) (w : World) (hr0 : Kd.C k83 w A0 l0.length l0) (hc0 : l0.length ≤ c0) (h : laws_szRollupRowS.f l0 a1 = some r) :
  Calls Try.prog 10 #[.slice A0 l0.length c0, .int .i64 a1] w fun e w' => e = .returned (.int .i64 r) ∧ Drawn0 w w' := by
 have HR0 := mA hr0
 have HC0 := mA hc0
 clear hr0 hc0
 have H : (if (wrap64 (a1 - (l0.length : Int))) < 0 then (some (-1)) else (some (wrap64 (a1 - (l0.length : Int))))) = some r := h
 clear h
 by_cases c3 : (wrap64 (a1 - (l0.length : Int))) < 0
 ·
  rw [if_pos c3] at H
  have c3b0 : decide ((wrap64 (a1 - (l0.length : Int))) < 0) = true := decide_eq_true c3
  clear c3
  obtain rfl := Option.some.inj H
  go_enter Try.func10, Try.ntmps10
  go_wp2
  go_ret
  exact ⟨sT, by repeat (first | exact Drawn0.refl _ | apply Drawn0.step)⟩
 ·
  rw [if_neg c3] at H
  have c3b0 : decide ((wrap64 (a1 - (l0.length : Int))) < 0) = false := decide_eq_false c3
  clear c3
  obtain rfl := Option.some.inj H
  go_enter Try.func10, Try.ntmps10
  go_wp2
  go_ret
  exact ⟨sT, by repeat (first | exact Drawn0.refl _ | apply Drawn0.step)⟩

/-! ### spec_FormatGroups: function 43 -/
mutual
def spec_FormatGroups.l0 : Nat → List (S75) → ByteArray → Int → Option (ByteArray)
 | 0, _, _, _ => none
 | k + 1, x0, x3, x4 => if x4 < (x0.length : Int) then (if x4 > 0 then (if x3.size + 1 ≤ 9223372036854775807 then (spec_FormatGroups.j1 k x0 (x3 ++ (⟨#[32]⟩ : ByteArray)) x4) else (none)) else (spec_FormatGroups.j1 k x0 x3 x4)) else (some x3)
def spec_FormatGroups.j1 : Nat → List (S75) → ByteArray → Int → Option (ByteArray)
 | 0, _, _, _ => none
 | k + 1, x0, x3, x4 => if 0 ≤ x4 then (if x4 < (x0.length : Int) then ((spec_FormatInt.f k ((rd_T75 x0 x4).f0)).bind fun t108 => (if x3.size + t108.size ≤ 9223372036854775807 then (if (x3 ++ t108).size + 1 ≤ 9223372036854775807 then ((spec_FormatInt.f k ((rd_T75 x0 x4).f1)).bind fun t110 => (if ((x3 ++ t108) ++ (⟨#[58]⟩ : ByteArray)).size + t110.size ≤ 9223372036854775807 then (if (((x3 ++ t108) ++ (⟨#[58]⟩ : ByteArray)) ++ t110).size + 1 ≤ 9223372036854775807 then ((spec_FormatInt.f k ((rd_T75 x0 x4).f2)).bind fun t112 => (if ((((x3 ++ t108) ++ (⟨#[58]⟩ : ByteArray)) ++ t110) ++ (⟨#[44]⟩ : ByteArray)).size + t112.size ≤ 9223372036854775807 then (if (((((x3 ++ t108) ++ (⟨#[58]⟩ : ByteArray)) ++ t110) ++ (⟨#[44]⟩ : ByteArray)) ++ t112).size + 1 ≤ 9223372036854775807 then ((spec_FormatInt.f k ((rd_T75 x0 x4).f3)).bind fun t114 => (if ((((((x3 ++ t108) ++ (⟨#[58]⟩ : ByteArray)) ++ t110) ++ (⟨#[44]⟩ : ByteArray)) ++ t112) ++ (⟨#[44]⟩ : ByteArray)).size + t114.size ≤ 9223372036854775807 then (if (((((((x3 ++ t108) ++ (⟨#[58]⟩ : ByteArray)) ++ t110) ++ (⟨#[44]⟩ : ByteArray)) ++ t112) ++ (⟨#[44]⟩ : ByteArray)) ++ t114).size + 1 ≤ 9223372036854775807 then ((spec_FormatInt.f k ((rd_T75 x0 x4).f4)).bind fun t116 => (if ((((((((x3 ++ t108) ++ (⟨#[58]⟩ : ByteArray)) ++ t110) ++ (⟨#[44]⟩ : ByteArray)) ++ t112) ++ (⟨#[44]⟩ : ByteArray)) ++ t114) ++ (⟨#[44]⟩ : ByteArray)).size + t116.size ≤ 9223372036854775807 then (spec_FormatGroups.l0 k x0 (((((((((x3 ++ t108) ++ (⟨#[58]⟩ : ByteArray)) ++ t110) ++ (⟨#[44]⟩ : ByteArray)) ++ t112) ++ (⟨#[44]⟩ : ByteArray)) ++ t114) ++ (⟨#[44]⟩ : ByteArray)) ++ t116) (wrap64 (x4 + 1))) else (none))) else (none)) else (none))) else (none)) else (none))) else (none)) else (none))) else (none)) else (none))) else (none)) else (none)
end
def spec_FormatGroups.f (k : Nat) (l0 : List (S75)) : Option (ByteArray) := spec_FormatGroups.l0 k l0 (⟨#[]⟩ : ByteArray) 0
theorem spec_FormatGroups.mono_l : ∀ k, (∀ y0 y1 y2, LeO (spec_FormatGroups.l0 k y0 y1 y2) (spec_FormatGroups.l0 (k + 1) y0 y1 y2)) ∧ (∀ y0 y1 y2, LeO (spec_FormatGroups.j1 k y0 y1 y2) (spec_FormatGroups.j1 (k + 1) y0 y1 y2))
 | 0 => ⟨fun _ _ _ r h => by simp [spec_FormatGroups.l0] at h, fun _ _ _ r h => by simp [spec_FormatGroups.j1] at h⟩
 | k + 1 => by
  obtain ⟨ih0, ih1⟩ := spec_FormatGroups.mono_l k
  refine ⟨?_, ?_⟩
  ·
   intro y0 y1 y2
   unfold spec_FormatGroups.l0
   repeat' first
   | (with_reducible exact ih0 _ _ _)
   | (with_reducible exact ih1 _ _ _)
   | (with_reducible exact spec_FormatInt.mono _ _)
   | (with_reducible exact LeO.refl _)
   | (with_reducible exact LeO.none _)
   | (with_reducible refine LeO.ite ?_ ?_)
   | (with_reducible refine LeO.bind ?_ (fun _ => ?_))
   | exact ih0 _ _ _
   | exact ih1 _ _ _
   | exact spec_FormatInt.mono _ _
   | exact LeO.none _
   | refine LeO.ite ?_ ?_
   | refine LeO.bind ?_ (fun _ => ?_)
  ·
   intro y0 y1 y2
   unfold spec_FormatGroups.j1
   repeat' first
   | (with_reducible exact ih0 _ _ _)
   | (with_reducible exact ih1 _ _ _)
   | (with_reducible exact spec_FormatInt.mono _ _)
   | (with_reducible exact LeO.refl _)
   | (with_reducible exact LeO.none _)
   | (with_reducible refine LeO.ite ?_ ?_)
   | (with_reducible refine LeO.bind ?_ (fun _ => ?_))
   | exact ih0 _ _ _
   | exact ih1 _ _ _
   | exact spec_FormatInt.mono _ _
   | exact LeO.none _
   | refine LeO.ite ?_ ?_
   | refine LeO.bind ?_ (fun _ => ?_)
theorem spec_FormatGroups.mono : ∀ a0 k, LeO (spec_FormatGroups.f k a0) (spec_FormatGroups.f (k + 1) a0) := by
 intro a0 k
 obtain ⟨ih0, ih1⟩ := spec_FormatGroups.mono_l k
 unfold spec_FormatGroups.f
 repeat' first
   | (with_reducible exact ih0 _ _ _)
   | (with_reducible exact ih1 _ _ _)
   | (with_reducible exact spec_FormatInt.mono _ _)
   | (with_reducible exact LeO.refl _)
   | (with_reducible exact LeO.none _)
   | (with_reducible refine LeO.ite ?_ ?_)
   | (with_reducible refine LeO.bind ?_ (fun _ => ?_))
   | exact ih0 _ _ _
   | exact ih1 _ _ _
   | exact spec_FormatInt.mono _ _
   | exact LeO.none _
   | refine LeO.ite ?_ ?_
   | refine LeO.bind ?_ (fun _ => ?_)
def spec_FormatGroups.T7 : Bool × List (List Nat × List Nat) := (true, [([], []), ([], []), ([], []), ([1, 2], [1, 2]), ([3], [3]), ([4], [4]), ([5], [5]), ([0, 6], [0, 6]), ([7], [7]), ([], []), ([], []), ([9, 10], [9, 10]), ([11], [11]), ([12], [12]), ([13, 6], [13]), ([8, 14], [8, 14]), ([15], [15]), ([], []), ([], []), ([17, 18], [17, 18]), ([19], [19]), ([20], [20]), ([21, 14], [21]), ([16, 22], [16, 22]), ([23], [23]), ([], []), ([], []), ([25, 26], [25, 26]), ([27], [27]), ([28], [28]), ([29, 22], [29]), ([24, 30], [24, 30]), ([31], [31]), ([], []), ([], []), ([33, 34], [33, 34]), ([35], [35]), ([36], [36]), ([37, 30], [37]), ([32, 38], [32, 38]), ([39, 38, 0, 1, 2, 3, 4, 5, 6, 7, 8, 9, 10, 11, 12, 13, 14, 15, 16, 17, 18, 19, 20, 21, 22, 23, 24, 25, 26, 27, 28, 29, 30, 31, 32, 33, 34, 35, 36, 37, 38, 39], [0, 39])])
def spec_FormatGroups.B7 : List Nat := [0, 0, 0, 6, 14, 30, 62, 127, 255, 0, 0, 1536, 3584, 7680, 15998, 32767, 65535, 0, 0, 393216, 917504, 1966080, 4095614, 8388607, 16777215, 0, 0, 100663296, 234881024, 503316480, 1048477310, 2147483647, 4294967295, 0, 0, 25769803776, 60129542144, 128849018880, 268410191486, 549755813887, 1099511627775]
theorem spec_FormatGroups.tab7 : rtab .any (opsOf Try.f43 7) = spec_FormatGroups.T7 := by kernel_rfl
theorem spec_FormatGroups.bits7 : waitsOk spec_FormatGroups.T7.2 spec_FormatGroups.B7 = true := by kernel_rfl
set_option maxHeartbeats 8000000 in
set_option maxRecDepth 100000 in
theorem spec_FormatGroups.calls (k : Nat) (A0 : Option Addr) (c0 : Nat) (l0 : List (S75)) (r : ByteArray) (w : World) (hr0 : Kd.C k75 w A0 l0.length l0) (hc0 : l0.length ≤ c0) (h : spec_FormatGroups.f k l0 = some r) :
  Calls Try.prog 43 #[.slice A0 l0.length c0] w fun e w' => e = .returned (.string r) ∧ Below w.heap.size w w' := by
 have HR0 := mA hr0
 have HC0 := mA hc0
 clear hr0 hc0
 have HB := mA (Below.refl w.heap.size w)
 have H : (spec_FormatGroups.l0 k l0 (⟨#[]⟩ : ByteArray) 0) = some r := h
 clear h
 have H' := mA H
 clear H
 go_enter Try.func43, Try.ntmps43
 go_wp2
 go_loopg [3, 4] k (fun kq v3 v4 w' => ∃ (x3_1 : ByteArray) (x4_1 : Int), v3 = .string x3_1 ∧ v4 = .int .i64 x4_1 ∧ Aside0 (spec_FormatGroups.l0 kq l0 x3_1 x4_1 = some r) ∧ Aside0 (kq ≤ k) ∧ Aside0 (Below w.heap.size w w'))
 case atStart => exact ⟨((⟨#[]⟩ : ByteArray)), (0), sT, sT, H', ⟨Nat.le_refl _⟩, ⟨bT HB⟩⟩
 case round =>
  clear H'
  obtain ⟨x3_1, x4_1, rfl, rfl, HA, HK1, HB⟩ := hrel
  cases gk with
  | zero => exact absurd HA.out (by simp [spec_FormatGroups.l0])
  | succ k1 =>
   have H := HA.out
   clear HA
   simp only [spec_FormatGroups.l0] at H
   by_cases c2 : x4_1 < (l0.length : Int)
   ·
    rw [if_pos c2] at H
    have c2b0 : decide (x4_1 < (l0.length : Int)) = true := decide_eq_true c2
    clear c2
    have HC3 := mA H
    clear H
    go_upto_if 12 with (fail)
    go_cut [3] (fun v3 wc => ∃ (kq : Nat) (x3_2 : ByteArray), v3 = .string x3_2 ∧ Aside0 (spec_FormatGroups.j1 kq l0 x3_2 x4_1 = some r) ∧ Aside0 (kq ≤ k1) ∧ Aside0 (Below w.heap.size w wc))
    case first =>
     have H := HC3.out
     clear HC3
     by_cases c4 : x4_1 > 0
     ·
      rw [if_pos c4] at H
      have c4b0 : decide (0 < x4_1) = true := decide_eq_true c4
      clear c4
      (first | rw [c4b0] | (simp only [i64_w, i32_w]; rw [c4b0]) | skip)
      by_cases c5 : x3_1.size + 1 ≤ 9223372036854775807
      ·
       rw [if_pos c5] at H
       have c5b0 := eq_true c5
       have c5b1 : decide (x3_1.size + 1 ≤ 9223372036854775807) = true := decide_eq_true c5
       try have c5b2 : (9223372036854775807 < x3_1.size + 1) = False := eq_false (Nat.not_lt.2 c5)
       have H' := mA H
       clear H
       go_wp2
       go_meet
       case rel => exact ⟨_, (x3_1 ++ (⟨#[32]⟩ : ByteArray)), sT, H', ⟨by have := HK1.out; first | omega | exact Nat.le_refl _⟩, ⟨bT HB⟩⟩
      ·
       rw [if_neg c5] at H
       exact absurd H (by simp)
     ·
      rw [if_neg c4] at H
      have c4b0 : decide (0 < x4_1) = false := decide_eq_false c4
      clear c4
      (first | rw [c4b0] | (simp only [i64_w, i32_w]; rw [c4b0]) | skip)
      have H' := mA H
      clear H
      go_wp2
      go_meet
      case rel => exact ⟨_, (x3_1), sT, H', ⟨by have := HK1.out; first | omega | exact Nat.le_refl _⟩, ⟨bT HB⟩⟩
    case rest =>
     clear HC3
     try clear c2
     try clear c2b0
     try clear p2
     try clear c4
     try clear c4b0
     try clear c5
     try clear c5b0
     try clear c5b1
     try clear c5b2
     obtain ⟨kq, x3_2, rfl, HA, HJ2, HB⟩ := hcut
     cases kq with
     | zero => exact absurd HA.out (by simp [spec_FormatGroups.j1])
     | succ kj2 =>
      have H := HA.out
      clear HA
      simp only [spec_FormatGroups.j1] at H
      by_cases c6 : 0 ≤ x4_1
      ·
       rw [if_pos c6] at H
       have c6b0 : decide (0 ≤ x4_1) = true := decide_eq_true c6
       clear c6
       by_cases c7 : x4_1 < (l0.length : Int)
       ·
        rw [if_pos c7] at H
        have c7b0 : decide (x4_1 < (l0.length : Int)) = true := decide_eq_true c7
        clear c7
        obtain ⟨t108, A8, H⟩ := Option.bind_eq_some_iff.mp H
        replace A8 := mA A8
        try dsimp only at H
        by_cases c9 : x3_2.size + t108.size ≤ 9223372036854775807
        ·
         rw [if_pos c9] at H
         have c9b0 := eq_true c9
         have c9b1 : decide (x3_2.size + t108.size ≤ 9223372036854775807) = true := decide_eq_true c9
         try have c9b2 : (9223372036854775807 < x3_2.size + t108.size) = False := eq_false (Nat.not_lt.2 c9)
         by_cases c10 : (x3_2 ++ t108).size + 1 ≤ 9223372036854775807
         ·
          rw [if_pos c10] at H
          have c10b0 := eq_true c10
          have c10b1 : decide ((x3_2 ++ t108).size + 1 ≤ 9223372036854775807) = true := decide_eq_true c10
          try have c10b2 : (9223372036854775807 < (x3_2 ++ t108).size + 1) = False := eq_false (Nat.not_lt.2 c10)
          try have c10b3 : (9223372036854775807 < x3_2.size + t108.size + 1) = False := szF c10
          obtain ⟨t110, A11, H⟩ := Option.bind_eq_some_iff.mp H
          replace A11 := mA A11
          try dsimp only at H
          by_cases c12 : ((x3_2 ++ t108) ++ (⟨#[58]⟩ : ByteArray)).size + t110.size ≤ 9223372036854775807
          ·
           rw [if_pos c12] at H
           have c12b0 := eq_true c12
           have c12b1 : decide (((x3_2 ++ t108) ++ (⟨#[58]⟩ : ByteArray)).size + t110.size ≤ 9223372036854775807) = true := decide_eq_true c12
           try have c12b2 : (9223372036854775807 < ((x3_2 ++ t108) ++ (⟨#[58]⟩ : ByteArray)).size + t110.size) = False := eq_false (Nat.not_lt.2 c12)
           try have c12b3 : (9223372036854775807 < x3_2.size + t108.size + 1 + t110.size) = False := szF c12
           by_cases c13 : (((x3_2 ++ t108) ++ (⟨#[58]⟩ : ByteArray)) ++ t110).size + 1 ≤ 9223372036854775807
           ·
            rw [if_pos c13] at H
            have c13b0 := eq_true c13
            have c13b1 : decide ((((x3_2 ++ t108) ++ (⟨#[58]⟩ : ByteArray)) ++ t110).size + 1 ≤ 9223372036854775807) = true := decide_eq_true c13
            try have c13b2 : (9223372036854775807 < (((x3_2 ++ t108) ++ (⟨#[58]⟩ : ByteArray)) ++ t110).size + 1) = False := eq_false (Nat.not_lt.2 c13)
            try have c13b3 : (9223372036854775807 < x3_2.size + t108.size + 1 + t110.size + 1) = False := szF c13
            obtain ⟨t112, A14, H⟩ := Option.bind_eq_some_iff.mp H
            replace A14 := mA A14
            try dsimp only at H
            by_cases c15 : ((((x3_2 ++ t108) ++ (⟨#[58]⟩ : ByteArray)) ++ t110) ++ (⟨#[44]⟩ : ByteArray)).size + t112.size ≤ 9223372036854775807
            ·
             rw [if_pos c15] at H
             have c15b0 := eq_true c15
             have c15b1 : decide (((((x3_2 ++ t108) ++ (⟨#[58]⟩ : ByteArray)) ++ t110) ++ (⟨#[44]⟩ : ByteArray)).size + t112.size ≤ 9223372036854775807) = true := decide_eq_true c15
             try have c15b2 : (9223372036854775807 < ((((x3_2 ++ t108) ++ (⟨#[58]⟩ : ByteArray)) ++ t110) ++ (⟨#[44]⟩ : ByteArray)).size + t112.size) = False := eq_false (Nat.not_lt.2 c15)
             try have c15b3 : (9223372036854775807 < x3_2.size + t108.size + 1 + t110.size + 1 + t112.size) = False := szF c15
             by_cases c16 : (((((x3_2 ++ t108) ++ (⟨#[58]⟩ : ByteArray)) ++ t110) ++ (⟨#[44]⟩ : ByteArray)) ++ t112).size + 1 ≤ 9223372036854775807
             ·
              rw [if_pos c16] at H
              have c16b0 := eq_true c16
              have c16b1 : decide ((((((x3_2 ++ t108) ++ (⟨#[58]⟩ : ByteArray)) ++ t110) ++ (⟨#[44]⟩ : ByteArray)) ++ t112).size + 1 ≤ 9223372036854775807) = true := decide_eq_true c16
              try have c16b2 : (9223372036854775807 < (((((x3_2 ++ t108) ++ (⟨#[58]⟩ : ByteArray)) ++ t110) ++ (⟨#[44]⟩ : ByteArray)) ++ t112).size + 1) = False := eq_false (Nat.not_lt.2 c16)
              try have c16b3 : (9223372036854775807 < x3_2.size + t108.size + 1 + t110.size + 1 + t112.size + 1) = False := szF c16
              obtain ⟨t114, A17, H⟩ := Option.bind_eq_some_iff.mp H
              replace A17 := mA A17
              try dsimp only at H
              by_cases c18 : ((((((x3_2 ++ t108) ++ (⟨#[58]⟩ : ByteArray)) ++ t110) ++ (⟨#[44]⟩ : ByteArray)) ++ t112) ++ (⟨#[44]⟩ : ByteArray)).size + t114.size ≤ 9223372036854775807
              ·
               rw [if_pos c18] at H
               have c18b0 := eq_true c18
               have c18b1 : decide (((((((x3_2 ++ t108) ++ (⟨#[58]⟩ : ByteArray)) ++ t110) ++ (⟨#[44]⟩ : ByteArray)) ++ t112) ++ (⟨#[44]⟩ : ByteArray)).size + t114.size ≤ 9223372036854775807) = true := decide_eq_true c18
               try have c18b2 : (9223372036854775807 < ((((((x3_2 ++ t108) ++ (⟨#[58]⟩ : ByteArray)) ++ t110) ++ (⟨#[44]⟩ : ByteArray)) ++ t112) ++ (⟨#[44]⟩ : ByteArray)).size + t114.size) = False := eq_false (Nat.not_lt.2 c18)
               try have c18b3 : (9223372036854775807 < x3_2.size + t108.size + 1 + t110.size + 1 + t112.size + 1 + t114.size) = False := szF c18
               by_cases c19 : (((((((x3_2 ++ t108) ++ (⟨#[58]⟩ : ByteArray)) ++ t110) ++ (⟨#[44]⟩ : ByteArray)) ++ t112) ++ (⟨#[44]⟩ : ByteArray)) ++ t114).size + 1 ≤ 9223372036854775807
               ·
                rw [if_pos c19] at H
                have c19b0 := eq_true c19
                have c19b1 : decide ((((((((x3_2 ++ t108) ++ (⟨#[58]⟩ : ByteArray)) ++ t110) ++ (⟨#[44]⟩ : ByteArray)) ++ t112) ++ (⟨#[44]⟩ : ByteArray)) ++ t114).size + 1 ≤ 9223372036854775807) = true := decide_eq_true c19
                try have c19b2 : (9223372036854775807 < (((((((x3_2 ++ t108) ++ (⟨#[58]⟩ : ByteArray)) ++ t110) ++ (⟨#[44]⟩ : ByteArray)) ++ t112) ++ (⟨#[44]⟩ : ByteArray)) ++ t114).size + 1) = False := eq_false (Nat.not_lt.2 c19)
                try have c19b3 : (9223372036854775807 < x3_2.size + t108.size + 1 + t110.size + 1 + t112.size + 1 + t114.size + 1) = False := szF c19
                obtain ⟨t116, A20, H⟩ := Option.bind_eq_some_iff.mp H
                replace A20 := mA A20
                try dsimp only at H
                by_cases c21 : ((((((((x3_2 ++ t108) ++ (⟨#[58]⟩ : ByteArray)) ++ t110) ++ (⟨#[44]⟩ : ByteArray)) ++ t112) ++ (⟨#[44]⟩ : ByteArray)) ++ t114) ++ (⟨#[44]⟩ : ByteArray)).size + t116.size ≤ 9223372036854775807
                ·
                 rw [if_pos c21] at H
                 have c21b0 := eq_true c21
                 have c21b1 : decide (((((((((x3_2 ++ t108) ++ (⟨#[58]⟩ : ByteArray)) ++ t110) ++ (⟨#[44]⟩ : ByteArray)) ++ t112) ++ (⟨#[44]⟩ : ByteArray)) ++ t114) ++ (⟨#[44]⟩ : ByteArray)).size + t116.size ≤ 9223372036854775807) = true := decide_eq_true c21
                 try have c21b2 : (9223372036854775807 < ((((((((x3_2 ++ t108) ++ (⟨#[58]⟩ : ByteArray)) ++ t110) ++ (⟨#[44]⟩ : ByteArray)) ++ t112) ++ (⟨#[44]⟩ : ByteArray)) ++ t114) ++ (⟨#[44]⟩ : ByteArray)).size + t116.size) = False := eq_false (Nat.not_lt.2 c21)
                 try have c21b3 : (9223372036854775807 < x3_2.size + t108.size + 1 + t110.size + 1 + t112.size + 1 + t114.size + 1 + t116.size) = False := szF c21
                 have H' := mA H
                 clear H
                 try go_wp2
                 replace HB := mA (below_drew1 HB.out)
                 have p107 : 0 ≤ (x4_1 : Int) := of_decide_eq_true aT
                 have q107 : x4_1 < (l0.length : Int) := of_decide_eq_true aT
                 obtain ⟨ad107, e107, hx107_0, hx107_1, hx107_2, hx107_3, hx107_4⟩ := at_T75 HR0.out x4_1 p107 q107
                 have hw107_4 := hx107_4
                 have hw107_3 := hx107_3
                 have hw107_2 := hx107_2
                 have hw107_1 := hx107_1
                 have hw107_0 := hx107_0
                 cases e107
                 replace hx107_0 := (HB.out.cell (World.block_lt_of_cell? w _ hx107_0)).trans hx107_0
                 replace hx107_1 := (HB.out.cell (World.block_lt_of_cell? w _ hx107_1)).trans hx107_1
                 replace hx107_2 := (HB.out.cell (World.block_lt_of_cell? w _ hx107_2)).trans hx107_2
                 replace hx107_3 := (HB.out.cell (World.block_lt_of_cell? w _ hx107_3)).trans hx107_3
                 replace hx107_4 := (HB.out.cell (World.block_lt_of_cell? w _ hx107_4)).trans hx107_4
                 replace p107 := eq_true p107
                 replace q107 := eq_true q107
                 have p109 : 0 ≤ (x4_1 : Int) := of_decide_eq_true aT
                 have q109 : x4_1 < (l0.length : Int) := of_decide_eq_true aT
                 obtain ⟨ad109, e109, hx109_0, hx109_1, hx109_2, hx109_3, hx109_4⟩ := at_T75 HR0.out x4_1 p109 q109
                 have hw109_4 := hx109_4
                 have hw109_3 := hx109_3
                 have hw109_2 := hx109_2
                 have hw109_1 := hx109_1
                 have hw109_0 := hx109_0
                 obtain rfl : ad107 = ad109 := (by injection e109)
                 replace hx109_0 := (HB.out.cell (World.block_lt_of_cell? w _ hx109_0)).trans hx109_0
                 replace hx109_1 := (HB.out.cell (World.block_lt_of_cell? w _ hx109_1)).trans hx109_1
                 replace hx109_2 := (HB.out.cell (World.block_lt_of_cell? w _ hx109_2)).trans hx109_2
                 replace hx109_3 := (HB.out.cell (World.block_lt_of_cell? w _ hx109_3)).trans hx109_3
                 replace hx109_4 := (HB.out.cell (World.block_lt_of_cell? w _ hx109_4)).trans hx109_4
                 replace p109 := eq_true p109
                 replace q109 := eq_true q109
                 have p111 : 0 ≤ (x4_1 : Int) := of_decide_eq_true aT
                 have q111 : x4_1 < (l0.length : Int) := of_decide_eq_true aT
                 obtain ⟨ad111, e111, hx111_0, hx111_1, hx111_2, hx111_3, hx111_4⟩ := at_T75 HR0.out x4_1 p111 q111
                 have hw111_4 := hx111_4
                 have hw111_3 := hx111_3
                 have hw111_2 := hx111_2
                 have hw111_1 := hx111_1
                 have hw111_0 := hx111_0
                 obtain rfl : ad107 = ad111 := (by injection e111)
                 replace hx111_0 := (HB.out.cell (World.block_lt_of_cell? w _ hx111_0)).trans hx111_0
                 replace hx111_1 := (HB.out.cell (World.block_lt_of_cell? w _ hx111_1)).trans hx111_1
                 replace hx111_2 := (HB.out.cell (World.block_lt_of_cell? w _ hx111_2)).trans hx111_2
                 replace hx111_3 := (HB.out.cell (World.block_lt_of_cell? w _ hx111_3)).trans hx111_3
                 replace hx111_4 := (HB.out.cell (World.block_lt_of_cell? w _ hx111_4)).trans hx111_4
                 replace p111 := eq_true p111
                 replace q111 := eq_true q111
                 have p113 : 0 ≤ (x4_1 : Int) := of_decide_eq_true aT
                 have q113 : x4_1 < (l0.length : Int) := of_decide_eq_true aT
                 obtain ⟨ad113, e113, hx113_0, hx113_1, hx113_2, hx113_3, hx113_4⟩ := at_T75 HR0.out x4_1 p113 q113
                 have hw113_4 := hx113_4
                 have hw113_3 := hx113_3
                 have hw113_2 := hx113_2
                 have hw113_1 := hx113_1
                 have hw113_0 := hx113_0
                 obtain rfl : ad107 = ad113 := (by injection e113)
                 replace hx113_0 := (HB.out.cell (World.block_lt_of_cell? w _ hx113_0)).trans hx113_0
                 replace hx113_1 := (HB.out.cell (World.block_lt_of_cell? w _ hx113_1)).trans hx113_1
                 replace hx113_2 := (HB.out.cell (World.block_lt_of_cell? w _ hx113_2)).trans hx113_2
                 replace hx113_3 := (HB.out.cell (World.block_lt_of_cell? w _ hx113_3)).trans hx113_3
                 replace hx113_4 := (HB.out.cell (World.block_lt_of_cell? w _ hx113_4)).trans hx113_4
                 replace p113 := eq_true p113
                 replace q113 := eq_true q113
                 have p115 : 0 ≤ (x4_1 : Int) := of_decide_eq_true aT
                 have q115 : x4_1 < (l0.length : Int) := of_decide_eq_true aT
                 obtain ⟨ad115, e115, hx115_0, hx115_1, hx115_2, hx115_3, hx115_4⟩ := at_T75 HR0.out x4_1 p115 q115
                 have hw115_4 := hx115_4
                 have hw115_3 := hx115_3
                 have hw115_2 := hx115_2
                 have hw115_1 := hx115_1
                 have hw115_0 := hx115_0
                 obtain rfl : ad107 = ad115 := (by injection e115)
                 replace hx115_0 := (HB.out.cell (World.block_lt_of_cell? w _ hx115_0)).trans hx115_0
                 replace hx115_1 := (HB.out.cell (World.block_lt_of_cell? w _ hx115_1)).trans hx115_1
                 replace hx115_2 := (HB.out.cell (World.block_lt_of_cell? w _ hx115_2)).trans hx115_2
                 replace hx115_3 := (HB.out.cell (World.block_lt_of_cell? w _ hx115_3)).trans hx115_3
                 replace hx115_4 := (HB.out.cell (World.block_lt_of_cell? w _ hx115_4)).trans hx115_4
                 replace p115 := eq_true p115
                 replace q115 := eq_true q115
                 refine start_ (n := 41) (S := fun w' => w'.cell? (ad107.add ((x4_1).toNat * 5)) = some (.int .i64 ((rd_T75 l0 x4_1).f0)) ∧ w'.cell? ⟨(ad107.add ((x4_1).toNat * 5)).block, (ad107.add ((x4_1).toNat * 5)).off + 1, none⟩ = some (.int .i64 ((rd_T75 l0 x4_1).f1)) ∧ w'.cell? ⟨(ad107.add ((x4_1).toNat * 5)).block, (ad107.add ((x4_1).toNat * 5)).off + 2, none⟩ = some (.int .i64 ((rd_T75 l0 x4_1).f2)) ∧ w'.cell? ⟨(ad107.add ((x4_1).toNat * 5)).block, (ad107.add ((x4_1).toNat * 5)).off + 3, none⟩ = some (.int .i64 ((rd_T75 l0 x4_1).f3)) ∧ w'.cell? ⟨(ad107.add ((x4_1).toNat * 5)).block, (ad107.add ((x4_1).toNat * 5)).off + 4, none⟩ = some (.int .i64 ((rd_T75 l0 x4_1).f4)) ∧ w'.cell? (ad107.add ((x4_1).toNat * 5)) = some (.int .i64 ((rd_T75 l0 x4_1).f0)) ∧ w'.cell? ⟨(ad107.add ((x4_1).toNat * 5)).block, (ad107.add ((x4_1).toNat * 5)).off + 1, none⟩ = some (.int .i64 ((rd_T75 l0 x4_1).f1)) ∧ w'.cell? ⟨(ad107.add ((x4_1).toNat * 5)).block, (ad107.add ((x4_1).toNat * 5)).off + 2, none⟩ = some (.int .i64 ((rd_T75 l0 x4_1).f2)) ∧ w'.cell? ⟨(ad107.add ((x4_1).toNat * 5)).block, (ad107.add ((x4_1).toNat * 5)).off + 3, none⟩ = some (.int .i64 ((rd_T75 l0 x4_1).f3)) ∧ w'.cell? ⟨(ad107.add ((x4_1).toNat * 5)).block, (ad107.add ((x4_1).toNat * 5)).off + 4, none⟩ = some (.int .i64 ((rd_T75 l0 x4_1).f4)) ∧ w'.cell? (ad107.add ((x4_1).toNat * 5)) = some (.int .i64 ((rd_T75 l0 x4_1).f0)) ∧ w'.cell? ⟨(ad107.add ((x4_1).toNat * 5)).block, (ad107.add ((x4_1).toNat * 5)).off + 1, none⟩ = some (.int .i64 ((rd_T75 l0 x4_1).f1)) ∧ w'.cell? ⟨(ad107.add ((x4_1).toNat * 5)).block, (ad107.add ((x4_1).toNat * 5)).off + 2, none⟩ = some (.int .i64 ((rd_T75 l0 x4_1).f2)) ∧ w'.cell? ⟨(ad107.add ((x4_1).toNat * 5)).block, (ad107.add ((x4_1).toNat * 5)).off + 3, none⟩ = some (.int .i64 ((rd_T75 l0 x4_1).f3)) ∧ w'.cell? ⟨(ad107.add ((x4_1).toNat * 5)).block, (ad107.add ((x4_1).toNat * 5)).off + 4, none⟩ = some (.int .i64 ((rd_T75 l0 x4_1).f4)) ∧ w'.cell? (ad107.add ((x4_1).toNat * 5)) = some (.int .i64 ((rd_T75 l0 x4_1).f0)) ∧ w'.cell? ⟨(ad107.add ((x4_1).toNat * 5)).block, (ad107.add ((x4_1).toNat * 5)).off + 1, none⟩ = some (.int .i64 ((rd_T75 l0 x4_1).f1)) ∧ w'.cell? ⟨(ad107.add ((x4_1).toNat * 5)).block, (ad107.add ((x4_1).toNat * 5)).off + 2, none⟩ = some (.int .i64 ((rd_T75 l0 x4_1).f2)) ∧ w'.cell? ⟨(ad107.add ((x4_1).toNat * 5)).block, (ad107.add ((x4_1).toNat * 5)).off + 3, none⟩ = some (.int .i64 ((rd_T75 l0 x4_1).f3)) ∧ w'.cell? ⟨(ad107.add ((x4_1).toNat * 5)).block, (ad107.add ((x4_1).toNat * 5)).off + 4, none⟩ = some (.int .i64 ((rd_T75 l0 x4_1).f4)) ∧ w'.cell? (ad107.add ((x4_1).toNat * 5)) = some (.int .i64 ((rd_T75 l0 x4_1).f0)) ∧ w'.cell? ⟨(ad107.add ((x4_1).toNat * 5)).block, (ad107.add ((x4_1).toNat * 5)).off + 1, none⟩ = some (.int .i64 ((rd_T75 l0 x4_1).f1)) ∧ w'.cell? ⟨(ad107.add ((x4_1).toNat * 5)).block, (ad107.add ((x4_1).toNat * 5)).off + 2, none⟩ = some (.int .i64 ((rd_T75 l0 x4_1).f2)) ∧ w'.cell? ⟨(ad107.add ((x4_1).toNat * 5)).block, (ad107.add ((x4_1).toNat * 5)).off + 3, none⟩ = some (.int .i64 ((rd_T75 l0 x4_1).f3)) ∧ w'.cell? ⟨(ad107.add ((x4_1).toNat * 5)).block, (ad107.add ((x4_1).toNat * 5)).off + 4, none⟩ = some (.int .i64 ((rd_T75 l0 x4_1).f4))) (ds := []) #[false, false, false, false, false, false, false, false, false, false, false, false, false, false, false, false, false, false, false, false, false, false, false, false, false, false, false, false, false, false, false, false, false, false, false, false, false, false, false, false, false] (by kernel_rfl) rfl rfl ⟨((HB.out.cell (World.block_lt_of_cell? w _ hw107_0)).trans hw107_0), ((HB.out.cell (World.block_lt_of_cell? w _ hw107_1)).trans hw107_1), ((HB.out.cell (World.block_lt_of_cell? w _ hw107_2)).trans hw107_2), ((HB.out.cell (World.block_lt_of_cell? w _ hw107_3)).trans hw107_3), ((HB.out.cell (World.block_lt_of_cell? w _ hw107_4)).trans hw107_4), ((HB.out.cell (World.block_lt_of_cell? w _ hw109_0)).trans hw109_0), ((HB.out.cell (World.block_lt_of_cell? w _ hw109_1)).trans hw109_1), ((HB.out.cell (World.block_lt_of_cell? w _ hw109_2)).trans hw109_2), ((HB.out.cell (World.block_lt_of_cell? w _ hw109_3)).trans hw109_3), ((HB.out.cell (World.block_lt_of_cell? w _ hw109_4)).trans hw109_4), ((HB.out.cell (World.block_lt_of_cell? w _ hw111_0)).trans hw111_0), ((HB.out.cell (World.block_lt_of_cell? w _ hw111_1)).trans hw111_1), ((HB.out.cell (World.block_lt_of_cell? w _ hw111_2)).trans hw111_2), ((HB.out.cell (World.block_lt_of_cell? w _ hw111_3)).trans hw111_3), ((HB.out.cell (World.block_lt_of_cell? w _ hw111_4)).trans hw111_4), ((HB.out.cell (World.block_lt_of_cell? w _ hw113_0)).trans hw113_0), ((HB.out.cell (World.block_lt_of_cell? w _ hw113_1)).trans hw113_1), ((HB.out.cell (World.block_lt_of_cell? w _ hw113_2)).trans hw113_2), ((HB.out.cell (World.block_lt_of_cell? w _ hw113_3)).trans hw113_3), ((HB.out.cell (World.block_lt_of_cell? w _ hw113_4)).trans hw113_4), ((HB.out.cell (World.block_lt_of_cell? w _ hw115_0)).trans hw115_0), ((HB.out.cell (World.block_lt_of_cell? w _ hw115_1)).trans hw115_1), ((HB.out.cell (World.block_lt_of_cell? w _ hw115_2)).trans hw115_2), ((HB.out.cell (World.block_lt_of_cell? w _ hw115_3)).trans hw115_3), ((HB.out.cell (World.block_lt_of_cell? w _ hw115_4)).trans hw115_4)⟩ (fun hHeld => ?_); refine with_tabW spec_FormatGroups.tab7 spec_FormatGroups.bits7 (fun HT_ HW_ => ?_)
                 generalize wc.drew = w22 at HB hx107_0 hx107_1 hx107_2 hx107_3 hx107_4 hx109_0 hx109_1 hx109_2 hx109_3 hx109_4 hx111_0 hx111_1 hx111_2 hx111_3 hx111_4 hx113_0 hx113_1 hx113_2 hx113_3 hx113_4 hx115_0 hx115_1 hx115_2 hx115_3 hx115_4 hHeld ⊢
                 refine pureT (i := 0) (N := some 15) #[true, false, false, false, false, false, false, false, false, false, false, false, false, false, false, false, false, false, false, false, false, false, false, false, false, false, false, false, false, false, false, false, false, false, false, false, false, false, false, false, false] (any_of HT_.out (by kernel_rfl)) ?_
                 refine pureT (i := 1) (N := some 16) #[true, true, false, false, false, false, false, false, false, false, false, false, false, false, false, false, false, false, false, false, false, false, false, false, false, false, false, false, false, false, false, false, false, false, false, false, false, false, false, false, false] (any_of HT_.out (by kernel_rfl)) ?_
                 refine pureT (i := 2) (N := some 17) #[true, true, true, false, false, false, false, false, false, false, false, false, false, false, false, false, false, false, false, false, false, false, false, false, false, false, false, false, false, false, false, false, false, false, false, false, false, false, false, false, false] (any_of HT_.out (by kernel_rfl)) ?_
                 refine pureT (i := 3) (N := some 18) #[true, true, true, true, false, false, false, false, false, false, false, false, false, false, false, false, false, false, false, false, false, false, false, false, false, false, false, false, false, false, false, false, false, false, false, false, false, false, false, false, false] (any_of HT_.out (by kernel_rfl)) ?_
                 refine pureT (i := 4) (N := some 19) #[true, true, true, true, true, false, false, false, false, false, false, false, false, false, false, false, false, false, false, false, false, false, false, false, false, false, false, false, false, false, false, false, false, false, false, false, false, false, false, false, false] (any_of HT_.out (by kernel_rfl)) ?_
                 refine pureT (i := 9) (N := some 24) #[true, true, true, true, true, false, false, false, false, true, false, false, false, false, false, false, false, false, false, false, false, false, false, false, false, false, false, false, false, false, false, false, false, false, false, false, false, false, false, false, false] (any_of HT_.out (by kernel_rfl)) ?_
                 refine pureT (i := 10) (N := some 25) #[true, true, true, true, true, false, false, false, false, true, true, false, false, false, false, false, false, false, false, false, false, false, false, false, false, false, false, false, false, false, false, false, false, false, false, false, false, false, false, false, false] (any_of HT_.out (by kernel_rfl)) ?_
                 refine pureT (i := 11) (N := some 26) #[true, true, true, true, true, false, false, false, false, true, true, true, false, false, false, false, false, false, false, false, false, false, false, false, false, false, false, false, false, false, false, false, false, false, false, false, false, false, false, false, false] (any_of HT_.out (by kernel_rfl)) ?_
                 refine pureT (i := 12) (N := some 27) #[true, true, true, true, true, false, false, false, false, true, true, true, true, false, false, false, false, false, false, false, false, false, false, false, false, false, false, false, false, false, false, false, false, false, false, false, false, false, false, false, false] (any_of HT_.out (by kernel_rfl)) ?_
                 refine pureT (i := 17) (N := some 32) #[true, true, true, true, true, false, false, false, false, true, true, true, true, false, false, false, false, true, false, false, false, false, false, false, false, false, false, false, false, false, false, false, false, false, false, false, false, false, false, false, false] (any_of HT_.out (by kernel_rfl)) ?_
                 refine pureT (i := 18) (N := some 33) #[true, true, true, true, true, false, false, false, false, true, true, true, true, false, false, false, false, true, true, false, false, false, false, false, false, false, false, false, false, false, false, false, false, false, false, false, false, false, false, false, false] (any_of HT_.out (by kernel_rfl)) ?_
                 refine pureT (i := 19) (N := some 34) #[true, true, true, true, true, false, false, false, false, true, true, true, true, false, false, false, false, true, true, true, false, false, false, false, false, false, false, false, false, false, false, false, false, false, false, false, false, false, false, false, false] (any_of HT_.out (by kernel_rfl)) ?_
                 refine pureT (i := 20) (N := some 35) #[true, true, true, true, true, false, false, false, false, true, true, true, true, false, false, false, false, true, true, true, true, false, false, false, false, false, false, false, false, false, false, false, false, false, false, false, false, false, false, false, false] (any_of HT_.out (by kernel_rfl)) ?_
                 refine pureT (i := 25) (N := some 40) #[true, true, true, true, true, false, false, false, false, true, true, true, true, false, false, false, false, true, true, true, true, false, false, false, false, true, false, false, false, false, false, false, false, false, false, false, false, false, false, false, false] (any_of HT_.out (by kernel_rfl)) ?_
                 refine pureT (i := 26) (N := some 41) #[true, true, true, true, true, false, false, false, false, true, true, true, true, false, false, false, false, true, true, true, true, false, false, false, false, true, true, false, false, false, false, false, false, false, false, false, false, false, false, false, false] (any_of HT_.out (by kernel_rfl)) ?_
                 refine pureT (i := 27) (N := some 42) #[true, true, true, true, true, false, false, false, false, true, true, true, true, false, false, false, false, true, true, true, true, false, false, false, false, true, true, true, false, false, false, false, false, false, false, false, false, false, false, false, false] (any_of HT_.out (by kernel_rfl)) ?_
                 refine pureT (i := 28) (N := some 43) #[true, true, true, true, true, false, false, false, false, true, true, true, true, false, false, false, false, true, true, true, true, false, false, false, false, true, true, true, true, false, false, false, false, false, false, false, false, false, false, false, false] (any_of HT_.out (by kernel_rfl)) ?_
                 refine pureT (i := 33) (N := some 48) #[true, true, true, true, true, false, false, false, false, true, true, true, true, false, false, false, false, true, true, true, true, false, false, false, false, true, true, true, true, false, false, false, false, true, false, false, false, false, false, false, false] (any_of HT_.out (by kernel_rfl)) ?_
                 refine pureT (i := 34) (N := some 49) #[true, true, true, true, true, false, false, false, false, true, true, true, true, false, false, false, false, true, true, true, true, false, false, false, false, true, true, true, true, false, false, false, false, true, true, false, false, false, false, false, false] (any_of HT_.out (by kernel_rfl)) ?_
                 refine pureT (i := 35) (N := some 50) #[true, true, true, true, true, false, false, false, false, true, true, true, true, false, false, false, false, true, true, true, true, false, false, false, false, true, true, true, true, false, false, false, false, true, true, true, false, false, false, false, false] (any_of HT_.out (by kernel_rfl)) ?_
                 refine pureT (i := 36) (N := some 51) #[true, true, true, true, true, false, false, false, false, true, true, true, true, false, false, false, false, true, true, true, true, false, false, false, false, true, true, true, true, false, false, false, false, true, true, true, true, false, false, false, false] (any_of HT_.out (by kernel_rfl)) ?_
                 refine take_ (i := 5) (N := some 20) (v := ?_) (a' := ?_) #[true, true, true, true, true, true, false, false, false, true, true, true, true, false, false, false, false, true, true, true, true, false, false, false, false, true, true, true, true, false, false, false, false, true, true, true, true, false, false, false, false] rfl rfl (take_ofW HT_.out HW_.out (by kernel_rfl)) (fun _ _ _ h => h) (Or.inl ⟨by rfl, ?_⟩) hHeld ?_ ?_
                 rotate_left
                 ·
                  rintro w' ⟨s0, s1, s2, s3, s4, s5, s6, s7, s8, s9, s10, s11, s12, s13, s14, s15, s16, s17, s18, s19, s20, s21, s22, s23, s24⟩
                  go_simp
                  with_reducible rfl
                 rotate_left
                 ·
                  simp only [Act.put, List.setIfInBounds_toArray, List.set_cons_zero, List.set_cons_succ, i64_w, i32_w]
                  rfl
                 refine take_ (i := 13) (N := some 28) (v := ?_) (a' := ?_) #[true, true, true, true, true, true, false, false, false, true, true, true, true, true, false, false, false, true, true, true, true, false, false, false, false, true, true, true, true, false, false, false, false, true, true, true, true, false, false, false, false] rfl rfl (take_ofW HT_.out HW_.out (by kernel_rfl)) (fun _ _ _ h => h) (Or.inl ⟨by rfl, ?_⟩) hHeld ?_ ?_
                 rotate_left
                 ·
                  rintro w' ⟨s0, s1, s2, s3, s4, s5, s6, s7, s8, s9, s10, s11, s12, s13, s14, s15, s16, s17, s18, s19, s20, s21, s22, s23, s24⟩
                  go_simp
                  with_reducible rfl
                 rotate_left
                 ·
                  simp only [Act.put, List.setIfInBounds_toArray, List.set_cons_zero, List.set_cons_succ, i64_w, i32_w]
                  rfl
                 refine take_ (i := 21) (N := some 36) (v := ?_) (a' := ?_) #[true, true, true, true, true, true, false, false, false, true, true, true, true, true, false, false, false, true, true, true, true, true, false, false, false, true, true, true, true, false, false, false, false, true, true, true, true, false, false, false, false] rfl rfl (take_ofW HT_.out HW_.out (by kernel_rfl)) (fun _ _ _ h => h) (Or.inl ⟨by rfl, ?_⟩) hHeld ?_ ?_
                 rotate_left
                 ·
                  rintro w' ⟨s0, s1, s2, s3, s4, s5, s6, s7, s8, s9, s10, s11, s12, s13, s14, s15, s16, s17, s18, s19, s20, s21, s22, s23, s24⟩
                  go_simp
                  with_reducible rfl
                 rotate_left
                 ·
                  simp only [Act.put, List.setIfInBounds_toArray, List.set_cons_zero, List.set_cons_succ, i64_w, i32_w]
                  rfl
                 refine take_ (i := 29) (N := some 44) (v := ?_) (a' := ?_) #[true, true, true, true, true, true, false, false, false, true, true, true, true, true, false, false, false, true, true, true, true, true, false, false, false, true, true, true, true, true, false, false, false, true, true, true, true, false, false, false, false] rfl rfl (take_ofW HT_.out HW_.out (by kernel_rfl)) (fun _ _ _ h => h) (Or.inl ⟨by rfl, ?_⟩) hHeld ?_ ?_
                 rotate_left
                 ·
                  rintro w' ⟨s0, s1, s2, s3, s4, s5, s6, s7, s8, s9, s10, s11, s12, s13, s14, s15, s16, s17, s18, s19, s20, s21, s22, s23, s24⟩
                  go_simp
                  with_reducible rfl
                 rotate_left
                 ·
                  simp only [Act.put, List.setIfInBounds_toArray, List.set_cons_zero, List.set_cons_succ, i64_w, i32_w]
                  rfl
                 refine take_ (i := 37) (N := some 52) (v := ?_) (a' := ?_) #[true, true, true, true, true, true, false, false, false, true, true, true, true, true, false, false, false, true, true, true, true, true, false, false, false, true, true, true, true, true, false, false, false, true, true, true, true, true, false, false, false] rfl rfl (take_ofW HT_.out HW_.out (by kernel_rfl)) (fun _ _ _ h => h) (Or.inl ⟨by rfl, ?_⟩) hHeld ?_ ?_
                 rotate_left
                 ·
                  rintro w' ⟨s0, s1, s2, s3, s4, s5, s6, s7, s8, s9, s10, s11, s12, s13, s14, s15, s16, s17, s18, s19, s20, s21, s22, s23, s24⟩
                  go_simp
                  with_reducible rfl
                 rotate_left
                 ·
                  simp only [Act.put, List.setIfInBounds_toArray, List.set_cons_zero, List.set_cons_succ, i64_w, i32_w]
                  rfl
                 refine one_ (i := 6) (N := some 21) #[true, true, true, true, true, true, true, false, false, true, true, true, true, true, false, false, false, true, true, true, true, true, false, false, false, true, true, true, true, true, false, false, false, true, true, true, true, true, false, false, false] rfl rfl (one_of HT_.out (by kernel_rfl)) (by decide) (fun K hK => ?_)
                 refine goes_ Try.func42 (by kernel_rfl) rfl #[.int .i64 ((rd_T75 l0 x4_1).f0)] (by rfl) rfl rfl mT ?_
                 with_reducible refine (spec_FormatInt.calls kj2 ((rd_T75 l0 x4_1).f0) t108 _ A8.out).mono ?_
                 rintro e w23 ⟨rfl, hb⟩
                 refine ⟨_, rfl, ?_⟩
                 replace HB := mA (below_step (bT HB) hb)
                 (try clear hb)
                 (try clear hb2)
                 (try clear hk)
                 (try clear hi)
                 refine hK.out _ _ ⟨((HB.out.cell (World.block_lt_of_cell? w _ hw107_0)).trans hw107_0), ((HB.out.cell (World.block_lt_of_cell? w _ hw107_1)).trans hw107_1), ((HB.out.cell (World.block_lt_of_cell? w _ hw107_2)).trans hw107_2), ((HB.out.cell (World.block_lt_of_cell? w _ hw107_3)).trans hw107_3), ((HB.out.cell (World.block_lt_of_cell? w _ hw107_4)).trans hw107_4), ((HB.out.cell (World.block_lt_of_cell? w _ hw109_0)).trans hw109_0), ((HB.out.cell (World.block_lt_of_cell? w _ hw109_1)).trans hw109_1), ((HB.out.cell (World.block_lt_of_cell? w _ hw109_2)).trans hw109_2), ((HB.out.cell (World.block_lt_of_cell? w _ hw109_3)).trans hw109_3), ((HB.out.cell (World.block_lt_of_cell? w _ hw109_4)).trans hw109_4), ((HB.out.cell (World.block_lt_of_cell? w _ hw111_0)).trans hw111_0), ((HB.out.cell (World.block_lt_of_cell? w _ hw111_1)).trans hw111_1), ((HB.out.cell (World.block_lt_of_cell? w _ hw111_2)).trans hw111_2), ((HB.out.cell (World.block_lt_of_cell? w _ hw111_3)).trans hw111_3), ((HB.out.cell (World.block_lt_of_cell? w _ hw111_4)).trans hw111_4), ((HB.out.cell (World.block_lt_of_cell? w _ hw113_0)).trans hw113_0), ((HB.out.cell (World.block_lt_of_cell? w _ hw113_1)).trans hw113_1), ((HB.out.cell (World.block_lt_of_cell? w _ hw113_2)).trans hw113_2), ((HB.out.cell (World.block_lt_of_cell? w _ hw113_3)).trans hw113_3), ((HB.out.cell (World.block_lt_of_cell? w _ hw113_4)).trans hw113_4), ((HB.out.cell (World.block_lt_of_cell? w _ hw115_0)).trans hw115_0), ((HB.out.cell (World.block_lt_of_cell? w _ hw115_1)).trans hw115_1), ((HB.out.cell (World.block_lt_of_cell? w _ hw115_2)).trans hw115_2), ((HB.out.cell (World.block_lt_of_cell? w _ hw115_3)).trans hw115_3), ((HB.out.cell (World.block_lt_of_cell? w _ hw115_4)).trans hw115_4)⟩ (fun hHeld => ?_)
                 clear hK K
                 refine norm_ (a' := ?_) ?_ ?_
                 rotate_left
                 ·
                  show Act.put _ (some 21) _ = _
                  simp only [Act.put, List.setIfInBounds_toArray, List.set_cons_zero, List.set_cons_succ, i64_w, i32_w]
                  rfl
                 refine pureT (i := 7) (N := some 22) #[true, true, true, true, true, true, true, true, false, true, true, true, true, true, false, false, false, true, true, true, true, true, false, false, false, true, true, true, true, true, false, false, false, true, true, true, true, true, false, false, false] (any_of HT_.out (by kernel_rfl)) ?_
                 refine pureT (i := 8) (N := some 23) #[true, true, true, true, true, true, true, true, true, true, true, true, true, true, false, false, false, true, true, true, true, true, false, false, false, true, true, true, true, true, false, false, false, true, true, true, true, true, false, false, false] (any_of HT_.out (by kernel_rfl)) ?_
                 refine one_ (i := 14) (N := some 29) #[true, true, true, true, true, true, true, true, true, true, true, true, true, true, true, false, false, true, true, true, true, true, false, false, false, true, true, true, true, true, false, false, false, true, true, true, true, true, false, false, false] rfl rfl (one_of HT_.out (by kernel_rfl)) (by decide) (fun K hK => ?_)
                 refine goes_ Try.func42 (by kernel_rfl) rfl #[.int .i64 ((rd_T75 l0 x4_1).f1)] (by rfl) rfl rfl mT ?_
                 with_reducible refine (spec_FormatInt.calls kj2 ((rd_T75 l0 x4_1).f1) t110 _ A11.out).mono ?_
                 rintro e w24 ⟨rfl, hb⟩
                 refine ⟨_, rfl, ?_⟩
                 replace HB := mA (below_step (bT HB) hb)
                 (try clear hb)
                 (try clear hb2)
                 (try clear hk)
                 (try clear hi)
                 refine hK.out _ _ ⟨((HB.out.cell (World.block_lt_of_cell? w _ hw107_0)).trans hw107_0), ((HB.out.cell (World.block_lt_of_cell? w _ hw107_1)).trans hw107_1), ((HB.out.cell (World.block_lt_of_cell? w _ hw107_2)).trans hw107_2), ((HB.out.cell (World.block_lt_of_cell? w _ hw107_3)).trans hw107_3), ((HB.out.cell (World.block_lt_of_cell? w _ hw107_4)).trans hw107_4), ((HB.out.cell (World.block_lt_of_cell? w _ hw109_0)).trans hw109_0), ((HB.out.cell (World.block_lt_of_cell? w _ hw109_1)).trans hw109_1), ((HB.out.cell (World.block_lt_of_cell? w _ hw109_2)).trans hw109_2), ((HB.out.cell (World.block_lt_of_cell? w _ hw109_3)).trans hw109_3), ((HB.out.cell (World.block_lt_of_cell? w _ hw109_4)).trans hw109_4), ((HB.out.cell (World.block_lt_of_cell? w _ hw111_0)).trans hw111_0), ((HB.out.cell (World.block_lt_of_cell? w _ hw111_1)).trans hw111_1), ((HB.out.cell (World.block_lt_of_cell? w _ hw111_2)).trans hw111_2), ((HB.out.cell (World.block_lt_of_cell? w _ hw111_3)).trans hw111_3), ((HB.out.cell (World.block_lt_of_cell? w _ hw111_4)).trans hw111_4), ((HB.out.cell (World.block_lt_of_cell? w _ hw113_0)).trans hw113_0), ((HB.out.cell (World.block_lt_of_cell? w _ hw113_1)).trans hw113_1), ((HB.out.cell (World.block_lt_of_cell? w _ hw113_2)).trans hw113_2), ((HB.out.cell (World.block_lt_of_cell? w _ hw113_3)).trans hw113_3), ((HB.out.cell (World.block_lt_of_cell? w _ hw113_4)).trans hw113_4), ((HB.out.cell (World.block_lt_of_cell? w _ hw115_0)).trans hw115_0), ((HB.out.cell (World.block_lt_of_cell? w _ hw115_1)).trans hw115_1), ((HB.out.cell (World.block_lt_of_cell? w _ hw115_2)).trans hw115_2), ((HB.out.cell (World.block_lt_of_cell? w _ hw115_3)).trans hw115_3), ((HB.out.cell (World.block_lt_of_cell? w _ hw115_4)).trans hw115_4)⟩ (fun hHeld => ?_)
                 clear hK K
                 refine norm_ (a' := ?_) ?_ ?_
                 rotate_left
                 ·
                  show Act.put _ (some 29) _ = _
                  simp only [Act.put, List.setIfInBounds_toArray, List.set_cons_zero, List.set_cons_succ, i64_w, i32_w]
                  rfl
                 refine pureT (i := 15) (N := some 30) #[true, true, true, true, true, true, true, true, true, true, true, true, true, true, true, true, false, true, true, true, true, true, false, false, false, true, true, true, true, true, false, false, false, true, true, true, true, true, false, false, false] (any_of HT_.out (by kernel_rfl)) ?_
                 refine pureT (i := 16) (N := some 31) #[true, true, true, true, true, true, true, true, true, true, true, true, true, true, true, true, true, true, true, true, true, true, false, false, false, true, true, true, true, true, false, false, false, true, true, true, true, true, false, false, false] (any_of HT_.out (by kernel_rfl)) ?_
                 refine one_ (i := 22) (N := some 37) #[true, true, true, true, true, true, true, true, true, true, true, true, true, true, true, true, true, true, true, true, true, true, true, false, false, true, true, true, true, true, false, false, false, true, true, true, true, true, false, false, false] rfl rfl (one_of HT_.out (by kernel_rfl)) (by decide) (fun K hK => ?_)
                 refine goes_ Try.func42 (by kernel_rfl) rfl #[.int .i64 ((rd_T75 l0 x4_1).f2)] (by rfl) rfl rfl mT ?_
                 with_reducible refine (spec_FormatInt.calls kj2 ((rd_T75 l0 x4_1).f2) t112 _ A14.out).mono ?_
                 rintro e w25 ⟨rfl, hb⟩
                 refine ⟨_, rfl, ?_⟩
                 replace HB := mA (below_step (bT HB) hb)
                 (try clear hb)
                 (try clear hb2)
                 (try clear hk)
                 (try clear hi)
                 refine hK.out _ _ ⟨((HB.out.cell (World.block_lt_of_cell? w _ hw107_0)).trans hw107_0), ((HB.out.cell (World.block_lt_of_cell? w _ hw107_1)).trans hw107_1), ((HB.out.cell (World.block_lt_of_cell? w _ hw107_2)).trans hw107_2), ((HB.out.cell (World.block_lt_of_cell? w _ hw107_3)).trans hw107_3), ((HB.out.cell (World.block_lt_of_cell? w _ hw107_4)).trans hw107_4), ((HB.out.cell (World.block_lt_of_cell? w _ hw109_0)).trans hw109_0), ((HB.out.cell (World.block_lt_of_cell? w _ hw109_1)).trans hw109_1), ((HB.out.cell (World.block_lt_of_cell? w _ hw109_2)).trans hw109_2), ((HB.out.cell (World.block_lt_of_cell? w _ hw109_3)).trans hw109_3), ((HB.out.cell (World.block_lt_of_cell? w _ hw109_4)).trans hw109_4), ((HB.out.cell (World.block_lt_of_cell? w _ hw111_0)).trans hw111_0), ((HB.out.cell (World.block_lt_of_cell? w _ hw111_1)).trans hw111_1), ((HB.out.cell (World.block_lt_of_cell? w _ hw111_2)).trans hw111_2), ((HB.out.cell (World.block_lt_of_cell? w _ hw111_3)).trans hw111_3), ((HB.out.cell (World.block_lt_of_cell? w _ hw111_4)).trans hw111_4), ((HB.out.cell (World.block_lt_of_cell? w _ hw113_0)).trans hw113_0), ((HB.out.cell (World.block_lt_of_cell? w _ hw113_1)).trans hw113_1), ((HB.out.cell (World.block_lt_of_cell? w _ hw113_2)).trans hw113_2), ((HB.out.cell (World.block_lt_of_cell? w _ hw113_3)).trans hw113_3), ((HB.out.cell (World.block_lt_of_cell? w _ hw113_4)).trans hw113_4), ((HB.out.cell (World.block_lt_of_cell? w _ hw115_0)).trans hw115_0), ((HB.out.cell (World.block_lt_of_cell? w _ hw115_1)).trans hw115_1), ((HB.out.cell (World.block_lt_of_cell? w _ hw115_2)).trans hw115_2), ((HB.out.cell (World.block_lt_of_cell? w _ hw115_3)).trans hw115_3), ((HB.out.cell (World.block_lt_of_cell? w _ hw115_4)).trans hw115_4)⟩ (fun hHeld => ?_)
                 clear hK K
                 refine norm_ (a' := ?_) ?_ ?_
                 rotate_left
                 ·
                  show Act.put _ (some 37) _ = _
                  simp only [Act.put, List.setIfInBounds_toArray, List.set_cons_zero, List.set_cons_succ, i64_w, i32_w]
                  rfl
                 refine pureT (i := 23) (N := some 38) #[true, true, true, true, true, true, true, true, true, true, true, true, true, true, true, true, true, true, true, true, true, true, true, true, false, true, true, true, true, true, false, false, false, true, true, true, true, true, false, false, false] (any_of HT_.out (by kernel_rfl)) ?_
                 refine pureT (i := 24) (N := some 39) #[true, true, true, true, true, true, true, true, true, true, true, true, true, true, true, true, true, true, true, true, true, true, true, true, true, true, true, true, true, true, false, false, false, true, true, true, true, true, false, false, false] (any_of HT_.out (by kernel_rfl)) ?_
                 refine one_ (i := 30) (N := some 45) #[true, true, true, true, true, true, true, true, true, true, true, true, true, true, true, true, true, true, true, true, true, true, true, true, true, true, true, true, true, true, true, false, false, true, true, true, true, true, false, false, false] rfl rfl (one_of HT_.out (by kernel_rfl)) (by decide) (fun K hK => ?_)
                 refine goes_ Try.func42 (by kernel_rfl) rfl #[.int .i64 ((rd_T75 l0 x4_1).f3)] (by rfl) rfl rfl mT ?_
                 with_reducible refine (spec_FormatInt.calls kj2 ((rd_T75 l0 x4_1).f3) t114 _ A17.out).mono ?_
                 rintro e w26 ⟨rfl, hb⟩
                 refine ⟨_, rfl, ?_⟩
                 replace HB := mA (below_step (bT HB) hb)
                 (try clear hb)
                 (try clear hb2)
                 (try clear hk)
                 (try clear hi)
                 refine hK.out _ _ ⟨((HB.out.cell (World.block_lt_of_cell? w _ hw107_0)).trans hw107_0), ((HB.out.cell (World.block_lt_of_cell? w _ hw107_1)).trans hw107_1), ((HB.out.cell (World.block_lt_of_cell? w _ hw107_2)).trans hw107_2), ((HB.out.cell (World.block_lt_of_cell? w _ hw107_3)).trans hw107_3), ((HB.out.cell (World.block_lt_of_cell? w _ hw107_4)).trans hw107_4), ((HB.out.cell (World.block_lt_of_cell? w _ hw109_0)).trans hw109_0), ((HB.out.cell (World.block_lt_of_cell? w _ hw109_1)).trans hw109_1), ((HB.out.cell (World.block_lt_of_cell? w _ hw109_2)).trans hw109_2), ((HB.out.cell (World.block_lt_of_cell? w _ hw109_3)).trans hw109_3), ((HB.out.cell (World.block_lt_of_cell? w _ hw109_4)).trans hw109_4), ((HB.out.cell (World.block_lt_of_cell? w _ hw111_0)).trans hw111_0), ((HB.out.cell (World.block_lt_of_cell? w _ hw111_1)).trans hw111_1), ((HB.out.cell (World.block_lt_of_cell? w _ hw111_2)).trans hw111_2), ((HB.out.cell (World.block_lt_of_cell? w _ hw111_3)).trans hw111_3), ((HB.out.cell (World.block_lt_of_cell? w _ hw111_4)).trans hw111_4), ((HB.out.cell (World.block_lt_of_cell? w _ hw113_0)).trans hw113_0), ((HB.out.cell (World.block_lt_of_cell? w _ hw113_1)).trans hw113_1), ((HB.out.cell (World.block_lt_of_cell? w _ hw113_2)).trans hw113_2), ((HB.out.cell (World.block_lt_of_cell? w _ hw113_3)).trans hw113_3), ((HB.out.cell (World.block_lt_of_cell? w _ hw113_4)).trans hw113_4), ((HB.out.cell (World.block_lt_of_cell? w _ hw115_0)).trans hw115_0), ((HB.out.cell (World.block_lt_of_cell? w _ hw115_1)).trans hw115_1), ((HB.out.cell (World.block_lt_of_cell? w _ hw115_2)).trans hw115_2), ((HB.out.cell (World.block_lt_of_cell? w _ hw115_3)).trans hw115_3), ((HB.out.cell (World.block_lt_of_cell? w _ hw115_4)).trans hw115_4)⟩ (fun hHeld => ?_)
                 clear hK K
                 refine norm_ (a' := ?_) ?_ ?_
                 rotate_left
                 ·
                  show Act.put _ (some 45) _ = _
                  simp only [Act.put, List.setIfInBounds_toArray, List.set_cons_zero, List.set_cons_succ, i64_w, i32_w]
                  rfl
                 refine pureT (i := 31) (N := some 46) #[true, true, true, true, true, true, true, true, true, true, true, true, true, true, true, true, true, true, true, true, true, true, true, true, true, true, true, true, true, true, true, true, false, true, true, true, true, true, false, false, false] (any_of HT_.out (by kernel_rfl)) ?_
                 refine pureT (i := 32) (N := some 47) #[true, true, true, true, true, true, true, true, true, true, true, true, true, true, true, true, true, true, true, true, true, true, true, true, true, true, true, true, true, true, true, true, true, true, true, true, true, true, false, false, false] (any_of HT_.out (by kernel_rfl)) ?_
                 refine one_ (i := 38) (N := some 53) #[true, true, true, true, true, true, true, true, true, true, true, true, true, true, true, true, true, true, true, true, true, true, true, true, true, true, true, true, true, true, true, true, true, true, true, true, true, true, true, false, false] rfl rfl (one_of HT_.out (by kernel_rfl)) (by decide) (fun K hK => ?_)
                 refine goes_ Try.func42 (by kernel_rfl) rfl #[.int .i64 ((rd_T75 l0 x4_1).f4)] (by rfl) rfl rfl mT ?_
                 with_reducible refine (spec_FormatInt.calls kj2 ((rd_T75 l0 x4_1).f4) t116 _ A20.out).mono ?_
                 rintro e w27 ⟨rfl, hb⟩
                 refine ⟨_, rfl, ?_⟩
                 replace HB := mA (below_step (bT HB) hb)
                 (try clear hb)
                 (try clear hb2)
                 (try clear hk)
                 (try clear hi)
                 refine hK.out _ _ ⟨((HB.out.cell (World.block_lt_of_cell? w _ hw107_0)).trans hw107_0), ((HB.out.cell (World.block_lt_of_cell? w _ hw107_1)).trans hw107_1), ((HB.out.cell (World.block_lt_of_cell? w _ hw107_2)).trans hw107_2), ((HB.out.cell (World.block_lt_of_cell? w _ hw107_3)).trans hw107_3), ((HB.out.cell (World.block_lt_of_cell? w _ hw107_4)).trans hw107_4), ((HB.out.cell (World.block_lt_of_cell? w _ hw109_0)).trans hw109_0), ((HB.out.cell (World.block_lt_of_cell? w _ hw109_1)).trans hw109_1), ((HB.out.cell (World.block_lt_of_cell? w _ hw109_2)).trans hw109_2), ((HB.out.cell (World.block_lt_of_cell? w _ hw109_3)).trans hw109_3), ((HB.out.cell (World.block_lt_of_cell? w _ hw109_4)).trans hw109_4), ((HB.out.cell (World.block_lt_of_cell? w _ hw111_0)).trans hw111_0), ((HB.out.cell (World.block_lt_of_cell? w _ hw111_1)).trans hw111_1), ((HB.out.cell (World.block_lt_of_cell? w _ hw111_2)).trans hw111_2), ((HB.out.cell (World.block_lt_of_cell? w _ hw111_3)).trans hw111_3), ((HB.out.cell (World.block_lt_of_cell? w _ hw111_4)).trans hw111_4), ((HB.out.cell (World.block_lt_of_cell? w _ hw113_0)).trans hw113_0), ((HB.out.cell (World.block_lt_of_cell? w _ hw113_1)).trans hw113_1), ((HB.out.cell (World.block_lt_of_cell? w _ hw113_2)).trans hw113_2), ((HB.out.cell (World.block_lt_of_cell? w _ hw113_3)).trans hw113_3), ((HB.out.cell (World.block_lt_of_cell? w _ hw113_4)).trans hw113_4), ((HB.out.cell (World.block_lt_of_cell? w _ hw115_0)).trans hw115_0), ((HB.out.cell (World.block_lt_of_cell? w _ hw115_1)).trans hw115_1), ((HB.out.cell (World.block_lt_of_cell? w _ hw115_2)).trans hw115_2), ((HB.out.cell (World.block_lt_of_cell? w _ hw115_3)).trans hw115_3), ((HB.out.cell (World.block_lt_of_cell? w _ hw115_4)).trans hw115_4)⟩ (fun hHeld => ?_)
                 clear hK K
                 refine norm_ (a' := ?_) ?_ ?_
                 rotate_left
                 ·
                  show Act.put _ (some 53) _ = _
                  simp only [Act.put, List.setIfInBounds_toArray, List.set_cons_zero, List.set_cons_succ, i64_w, i32_w]
                  rfl
                 refine pureT (i := 39) (N := some 54) #[true, true, true, true, true, true, true, true, true, true, true, true, true, true, true, true, true, true, true, true, true, true, true, true, true, true, true, true, true, true, true, true, true, true, true, true, true, true, true, true, false] (any_of HT_.out (by kernel_rfl)) ?_
                 refine pureT (i := 40) (N := some 3) #[true, true, true, true, true, true, true, true, true, true, true, true, true, true, true, true, true, true, true, true, true, true, true, true, true, true, true, true, true, true, true, true, true, true, true, true, true, true, true, true, true] (any_of HT_.out (by kernel_rfl)) ?_
                 refine done_ (done_of HT_.out (by kernel_rfl)) ?_
                 try go_wp2
                 go_roundg kj2
                 case measure => have := HK1.out; have := HJ2.out; omega
                 case rel => exact ⟨(((((((((x3_2 ++ t108) ++ (⟨#[58]⟩ : ByteArray)) ++ t110) ++ (⟨#[44]⟩ : ByteArray)) ++ t112) ++ (⟨#[44]⟩ : ByteArray)) ++ t114) ++ (⟨#[44]⟩ : ByteArray)) ++ t116), (wrap64 (x4_1 + 1)), sT, sT, H', ⟨by have := HK1.out; have := HJ2.out; omega⟩, ⟨bT HB⟩⟩
                ·
                 rw [if_neg c21] at H
                 exact absurd H (by simp)
               ·
                rw [if_neg c19] at H
                exact absurd H (by simp)
              ·
               rw [if_neg c18] at H
               exact absurd H (by simp)
             ·
              rw [if_neg c16] at H
              exact absurd H (by simp)
            ·
             rw [if_neg c15] at H
             exact absurd H (by simp)
           ·
            rw [if_neg c13] at H
            exact absurd H (by simp)
          ·
           rw [if_neg c12] at H
           exact absurd H (by simp)
         ·
          rw [if_neg c10] at H
          exact absurd H (by simp)
        ·
         rw [if_neg c9] at H
         exact absurd H (by simp)
       ·
        rw [if_neg c7] at H
        exact absurd H (by simp)
      ·
       rw [if_neg c6] at H
       exact absurd H (by simp)
   ·
    rw [if_neg c2] at H
    have c2b0 : decide (x4_1 < (l0.length : Int)) = false := decide_eq_false c2
    clear c2
    obtain rfl := Option.some.inj H
    go_wp2
    go_ret
    exact ⟨eT, bT HB⟩

/-! ### spec_FormatRollup: function 11 -/
def spec_FormatRollup.l0 : Nat → List (S77) → ByteArray → Int → Option (ByteArray)
 | 0, _, _, _ => none
 | k + 1, x0, x3, x4 => if x4 < (x0.length : Int) then (if x4 > 0 then (if x3.size + 1 ≤ 9223372036854775807 then (if 0 ≤ x4 then ((spec_FormatInt.f k ((rd_T77 x0 x4).f0)).bind fun t118 => (if (x3 ++ (⟨#[32]⟩ : ByteArray)).size + t118.size ≤ 9223372036854775807 then (if ((x3 ++ (⟨#[32]⟩ : ByteArray)) ++ t118).size + 1 ≤ 9223372036854775807 then ((spec_FormatGroups.f k (([(⟨(rd_T77 x0 x4).f1.f0, (rd_T77 x0 x4).f1.f1, (rd_T77 x0 x4).f1.f2, (rd_T77 x0 x4).f1.f3, (rd_T77 x0 x4).f1.f4⟩ : S75)] : List (S75)))).bind fun t123 => (if (((x3 ++ (⟨#[32]⟩ : ByteArray)) ++ t118) ++ (⟨#[47]⟩ : ByteArray)).size + t123.size ≤ 9223372036854775807 then (spec_FormatRollup.l0 k x0 ((((x3 ++ (⟨#[32]⟩ : ByteArray)) ++ t118) ++ (⟨#[47]⟩ : ByteArray)) ++ t123) (wrap64 (x4 + 1))) else (none))) else (none)) else (none))) else (none)) else (none)) else (if 0 ≤ x4 then ((spec_FormatInt.f k ((rd_T77 x0 x4).f0)).bind fun t125 => (if x3.size + t125.size ≤ 9223372036854775807 then (if (x3 ++ t125).size + 1 ≤ 9223372036854775807 then ((spec_FormatGroups.f k (([(⟨(rd_T77 x0 x4).f1.f0, (rd_T77 x0 x4).f1.f1, (rd_T77 x0 x4).f1.f2, (rd_T77 x0 x4).f1.f3, (rd_T77 x0 x4).f1.f4⟩ : S75)] : List (S75)))).bind fun t130 => (if ((x3 ++ t125) ++ (⟨#[47]⟩ : ByteArray)).size + t130.size ≤ 9223372036854775807 then (spec_FormatRollup.l0 k x0 (((x3 ++ t125) ++ (⟨#[47]⟩ : ByteArray)) ++ t130) (wrap64 (x4 + 1))) else (none))) else (none)) else (none))) else (none))) else (some x3)
def spec_FormatRollup.f (k : Nat) (l0 : List (S77)) : Option (ByteArray) := spec_FormatRollup.l0 k l0 (⟨#[]⟩ : ByteArray) 0
theorem spec_FormatRollup.mono_l : ∀ k, (∀ y0 y1 y2, LeO (spec_FormatRollup.l0 k y0 y1 y2) (spec_FormatRollup.l0 (k + 1) y0 y1 y2))
 | 0 => fun _ _ _ r h => by simp [spec_FormatRollup.l0] at h
 | k + 1 => by
  have ih0 := spec_FormatRollup.mono_l k
  ·
   intro y0 y1 y2
   unfold spec_FormatRollup.l0
   repeat' first
   | (with_reducible exact ih0 _ _ _)
   | (with_reducible exact spec_FormatGroups.mono _ _)
   | (with_reducible exact spec_FormatInt.mono _ _)
   | (with_reducible exact LeO.refl _)
   | (with_reducible exact LeO.none _)
   | (with_reducible refine LeO.ite ?_ ?_)
   | (with_reducible refine LeO.bind ?_ (fun _ => ?_))
   | exact ih0 _ _ _
   | exact spec_FormatGroups.mono _ _
   | exact spec_FormatInt.mono _ _
   | exact LeO.none _
   | refine LeO.ite ?_ ?_
   | refine LeO.bind ?_ (fun _ => ?_)
theorem spec_FormatRollup.mono : ∀ a0 k, LeO (spec_FormatRollup.f k a0) (spec_FormatRollup.f (k + 1) a0) := by
 intro a0 k
 have ih0 := spec_FormatRollup.mono_l k
 unfold spec_FormatRollup.f
 repeat' first
   | (with_reducible exact ih0 _ _ _)
   | (with_reducible exact spec_FormatGroups.mono _ _)
   | (with_reducible exact spec_FormatInt.mono _ _)
   | (with_reducible exact LeO.refl _)
   | (with_reducible exact LeO.none _)
   | (with_reducible refine LeO.ite ?_ ?_)
   | (with_reducible refine LeO.bind ?_ (fun _ => ?_))
   | exact ih0 _ _ _
   | exact spec_FormatGroups.mono _ _
   | exact spec_FormatInt.mono _ _
   | exact LeO.none _
   | refine LeO.ite ?_ ?_
   | refine LeO.bind ?_ (fun _ => ?_)
def spec_FormatRollup.T7 : Bool × List (List Nat × List Nat) := (true, [([], []), ([], []), ([], []), ([1, 2], [1, 2]), ([3], [3]), ([4], [4]), ([5], [5]), ([0, 6], [0, 6]), ([7], [7]), ([], []), ([], []), ([9, 10], [9, 10]), ([11], [11]), ([12], [12]), ([13], [13]), ([14, 6], [14]), ([8, 15], [8, 15]), ([16, 15, 0, 1, 2, 3, 4, 5, 6, 7, 8, 9, 10, 11, 12, 13, 14, 15, 16], [0, 16])])
def spec_FormatRollup.B7 : List Nat := [0, 0, 0, 6, 14, 30, 62, 127, 255, 0, 0, 1536, 3584, 7680, 15872, 32382, 65535, 131071]
theorem spec_FormatRollup.tab7 : rtab .any (opsOf Try.f11 7) = spec_FormatRollup.T7 := by kernel_rfl
theorem spec_FormatRollup.bits7 : waitsOk spec_FormatRollup.T7.2 spec_FormatRollup.B7 = true := by kernel_rfl
set_option maxHeartbeats 8000000 in
set_option maxRecDepth 100000 in
theorem spec_FormatRollup.calls (k : Nat) (A0 : Option Addr) (c0 : Nat) (l0 : List (S77)) (r : ByteArray) (w : World) (hr0 : Kd.C k77 w A0 l0.length l0) (hc0 : l0.length ≤ c0) (h : spec_FormatRollup.f k l0 = some r) :
  Calls Try.prog 11 #[.slice A0 l0.length c0] w fun e w' => e = .returned (.string r) ∧ Below w.heap.size w w' := by
 have hu75 := Try.underlying75
 have HR0 := mA hr0
 have HC0 := mA hc0
 clear hr0 hc0
 have HB := mA (Below.refl w.heap.size w)
 have H : (spec_FormatRollup.l0 k l0 (⟨#[]⟩ : ByteArray) 0) = some r := h
 clear h
 have H' := mA H
 clear H
 go_enter Try.func11, Try.ntmps11
 go_wp2
 go_loopg [3, 4] k (fun kq v3 v4 w' => ∃ (x3_1 : ByteArray) (x4_1 : Int), v3 = .string x3_1 ∧ v4 = .int .i64 x4_1 ∧ Aside0 (spec_FormatRollup.l0 kq l0 x3_1 x4_1 = some r) ∧ Aside0 (kq ≤ k) ∧ Aside0 (Below w.heap.size w w'))
 case atStart => exact ⟨((⟨#[]⟩ : ByteArray)), (0), sT, sT, H', ⟨Nat.le_refl _⟩, ⟨bT HB⟩⟩
 case round =>
  clear H'
  try clear c1
  obtain ⟨x3_1, x4_1, rfl, rfl, HA, HK1, HB⟩ := hrel
  cases gk with
  | zero => exact absurd HA.out (by simp [spec_FormatRollup.l0])
  | succ k1 =>
   have H := HA.out
   clear HA
   simp only [spec_FormatRollup.l0] at H
   by_cases c2 : x4_1 < (l0.length : Int)
   ·
    rw [if_pos c2] at H
    have c2b0 : decide (x4_1 < (l0.length : Int)) = true := decide_eq_true c2
    clear c2
    by_cases c3 : x4_1 > 0
    ·
     rw [if_pos c3] at H
     have c3b0 : decide (0 < x4_1) = true := decide_eq_true c3
     clear c3
     by_cases c4 : x3_1.size + 1 ≤ 9223372036854775807
     ·
      rw [if_pos c4] at H
      have c4b0 := eq_true c4
      have c4b1 : decide (x3_1.size + 1 ≤ 9223372036854775807) = true := decide_eq_true c4
      try have c4b2 : (9223372036854775807 < x3_1.size + 1) = False := eq_false (Nat.not_lt.2 c4)
      by_cases c5 : 0 ≤ x4_1
      ·
       rw [if_pos c5] at H
       have c5b0 : decide (0 ≤ x4_1) = true := decide_eq_true c5
       clear c5
       obtain ⟨t118, A6, H⟩ := Option.bind_eq_some_iff.mp H
       replace A6 := mA A6
       try dsimp only at H
       by_cases c7 : (x3_1 ++ (⟨#[32]⟩ : ByteArray)).size + t118.size ≤ 9223372036854775807
       ·
        rw [if_pos c7] at H
        have c7b0 := eq_true c7
        have c7b1 : decide ((x3_1 ++ (⟨#[32]⟩ : ByteArray)).size + t118.size ≤ 9223372036854775807) = true := decide_eq_true c7
        try have c7b2 : (9223372036854775807 < (x3_1 ++ (⟨#[32]⟩ : ByteArray)).size + t118.size) = False := eq_false (Nat.not_lt.2 c7)
        try have c7b3 : (9223372036854775807 < x3_1.size + 1 + t118.size) = False := szF c7
        by_cases c8 : ((x3_1 ++ (⟨#[32]⟩ : ByteArray)) ++ t118).size + 1 ≤ 9223372036854775807
        ·
         rw [if_pos c8] at H
         have c8b0 := eq_true c8
         have c8b1 : decide (((x3_1 ++ (⟨#[32]⟩ : ByteArray)) ++ t118).size + 1 ≤ 9223372036854775807) = true := decide_eq_true c8
         try have c8b2 : (9223372036854775807 < ((x3_1 ++ (⟨#[32]⟩ : ByteArray)) ++ t118).size + 1) = False := eq_false (Nat.not_lt.2 c8)
         try have c8b3 : (9223372036854775807 < x3_1.size + 1 + t118.size + 1) = False := szF c8
         obtain ⟨y120, hy120⟩ : ∃ y_ : List (S75), y_ = (([(⟨(rd_T77 l0 x4_1).f1.f0, (rd_T77 l0 x4_1).f1.f1, (rd_T77 l0 x4_1).f1.f2, (rd_T77 l0 x4_1).f1.f3, (rd_T77 l0 x4_1).f1.f4⟩ : S75)] : List (S75))) := ⟨_, rfl⟩
         replace H : ((spec_FormatGroups.f k1 y120).bind fun t123 => (if (((x3_1 ++ (⟨#[32]⟩ : ByteArray)) ++ t118) ++ (⟨#[47]⟩ : ByteArray)).size + t123.size ≤ 9223372036854775807 then (spec_FormatRollup.l0 k1 l0 ((((x3_1 ++ (⟨#[32]⟩ : ByteArray)) ++ t118) ++ (⟨#[47]⟩ : ByteArray)) ++ t123) (wrap64 (x4_1 + 1))) else (none))) = some r := by first | (rw [hy120]; with_reducible exact H) | (have H2_ := (Option.bind_some _ _).symm.trans H; rw [hy120]; with_reducible exact H2_) | (have H2_ := (Option.bind_some _ _).symm.trans H; with_reducible exact H2_) | with_reducible exact H | (rw [hy120]; exact H) | exact H
         have Ny120 := mA hy120
         clear hy120
         obtain ⟨t123, A9, H⟩ := Option.bind_eq_some_iff.mp H
         replace A9 := mA A9
         try dsimp only at H
         by_cases c10 : (((x3_1 ++ (⟨#[32]⟩ : ByteArray)) ++ t118) ++ (⟨#[47]⟩ : ByteArray)).size + t123.size ≤ 9223372036854775807
         ·
          rw [if_pos c10] at H
          have c10b0 := eq_true c10
          have c10b1 : decide ((((x3_1 ++ (⟨#[32]⟩ : ByteArray)) ++ t118) ++ (⟨#[47]⟩ : ByteArray)).size + t123.size ≤ 9223372036854775807) = true := decide_eq_true c10
          try have c10b2 : (9223372036854775807 < (((x3_1 ++ (⟨#[32]⟩ : ByteArray)) ++ t118) ++ (⟨#[47]⟩ : ByteArray)).size + t123.size) = False := eq_false (Nat.not_lt.2 c10)
          try have c10b3 : (9223372036854775807 < x3_1.size + 1 + t118.size + 1 + t123.size) = False := szF c10
          have H' := mA H
          clear H
          try go_wp2
          replace HB := mA (below_drew1 HB.out)
          have p117 : 0 ≤ (x4_1 : Int) := of_decide_eq_true aT
          have q117 : x4_1 < (l0.length : Int) := of_decide_eq_true aT
          obtain ⟨ad117, e117, hx117_0, hx117_1, hx117_2, hx117_3, hx117_4, hx117_5⟩ := at_T77 HR0.out x4_1 p117 q117
          have hw117_5 := hx117_5
          have hw117_4 := hx117_4
          have hw117_3 := hx117_3
          have hw117_2 := hx117_2
          have hw117_1 := hx117_1
          have hw117_0 := hx117_0
          cases e117
          replace hx117_0 := (HB.out.cell (World.block_lt_of_cell? w _ hx117_0)).trans hx117_0
          replace hx117_1 := (HB.out.cell (World.block_lt_of_cell? w _ hx117_1)).trans hx117_1
          replace hx117_2 := (HB.out.cell (World.block_lt_of_cell? w _ hx117_2)).trans hx117_2
          replace hx117_3 := (HB.out.cell (World.block_lt_of_cell? w _ hx117_3)).trans hx117_3
          replace hx117_4 := (HB.out.cell (World.block_lt_of_cell? w _ hx117_4)).trans hx117_4
          replace hx117_5 := (HB.out.cell (World.block_lt_of_cell? w _ hx117_5)).trans hx117_5
          replace p117 := eq_true p117
          replace q117 := eq_true q117
          have p119 : 0 ≤ (x4_1 : Int) := of_decide_eq_true aT
          have q119 : x4_1 < (l0.length : Int) := of_decide_eq_true aT
          obtain ⟨ad119, e119, hx119_0, hx119_1, hx119_2, hx119_3, hx119_4, hx119_5⟩ := at_T77 HR0.out x4_1 p119 q119
          have hw119_5 := hx119_5
          have hw119_4 := hx119_4
          have hw119_3 := hx119_3
          have hw119_2 := hx119_2
          have hw119_1 := hx119_1
          have hw119_0 := hx119_0
          obtain rfl : ad117 = ad119 := (by injection e119)
          replace hx119_0 := (HB.out.cell (World.block_lt_of_cell? w _ hx119_0)).trans hx119_0
          replace hx119_1 := (HB.out.cell (World.block_lt_of_cell? w _ hx119_1)).trans hx119_1
          replace hx119_2 := (HB.out.cell (World.block_lt_of_cell? w _ hx119_2)).trans hx119_2
          replace hx119_3 := (HB.out.cell (World.block_lt_of_cell? w _ hx119_3)).trans hx119_3
          replace hx119_4 := (HB.out.cell (World.block_lt_of_cell? w _ hx119_4)).trans hx119_4
          replace hx119_5 := (HB.out.cell (World.block_lt_of_cell? w _ hx119_5)).trans hx119_5
          replace p119 := eq_true p119
          replace q119 := eq_true q119
          refine start_ (n := 18) (S := fun w' => True) (ds := []) #[false, false, false, false, false, false, false, false, false, false, false, false, false, false, false, false, false, false] (by kernel_rfl) rfl rfl trivial (fun hHeld => ?_); refine with_tabW spec_FormatRollup.tab7 spec_FormatRollup.bits7 (fun HT_ HW_ => ?_)
          generalize wr.drew = w11 at HB hx117_0 hx117_1 hx117_2 hx117_3 hx117_4 hx117_5 hx119_0 hx119_1 hx119_2 hx119_3 hx119_4 hx119_5 hHeld ⊢
          refine pureT (i := 0) (N := some 15) #[true, false, false, false, false, false, false, false, false, false, false, false, false, false, false, false, false, false] (any_of HT_.out (by kernel_rfl)) ?_
          refine pureT (i := 1) (N := some 16) #[true, true, false, false, false, false, false, false, false, false, false, false, false, false, false, false, false, false] (any_of HT_.out (by kernel_rfl)) ?_
          refine pureT (i := 2) (N := some 17) #[true, true, true, false, false, false, false, false, false, false, false, false, false, false, false, false, false, false] (any_of HT_.out (by kernel_rfl)) ?_
          refine pureT (i := 9) (N := some 24) #[true, true, true, false, false, false, false, false, false, true, false, false, false, false, false, false, false, false] (any_of HT_.out (by kernel_rfl)) ?_
          refine pureT (i := 10) (N := some 25) #[true, true, true, false, false, false, false, false, false, true, true, false, false, false, false, false, false, false] (any_of HT_.out (by kernel_rfl)) ?_
          refine inv_at [3, 4, 5, 6, 7, 8, 11, 12, 13, 14, 15, 16, 17] (fun a0_ b a w' => ∃ (v121 : Value), a = putSel a0_ b [(3, 18, .pointer (some (ad117.add ((x4_1).toNat * 6)))), (4, 19, .pointer (some (ad117.add ((x4_1).toNat * 6)))), (5, 20, .int .i64 ((rd_T77 l0 x4_1).f0)), (6, 21, .string t118), (7, 22, .string ((x3_1 ++ (⟨#[32]⟩ : ByteArray)) ++ t118)), (8, 23, .string (((x3_1 ++ (⟨#[32]⟩ : ByteArray)) ++ t118) ++ (⟨#[47]⟩ : ByteArray))), (11, 26, .pointer (some (ad117.add ((x4_1).toNat * 6)))), (12, 27, .pointer (some ⟨(ad117.add ((x4_1).toNat * 6)).block, (ad117.add ((x4_1).toNat * 6)).off + 1, none⟩)), (13, 28, .agg #[.int .i64 ((rd_T77 l0 x4_1).f1.f0), .int .i64 ((rd_T77 l0 x4_1).f1.f1), .int .i64 ((rd_T77 l0 x4_1).f1.f2), .int .i64 ((rd_T77 l0 x4_1).f1.f3), .int .i64 ((rd_T77 l0 x4_1).f1.f4)]), (14, 29, v121), (15, 30, .string t123), (16, 31, .string ((((x3_1 ++ (⟨#[32]⟩ : ByteArray)) ++ t118) ++ (⟨#[47]⟩ : ByteArray)) ++ t123)), (17, 3, .string ((((x3_1 ++ (⟨#[32]⟩ : ByteArray)) ++ t118) ++ (⟨#[47]⟩ : ByteArray)) ++ t123))] ∧ (Below w.heap.size w w') ∧ (b 14 = true → Kd.R k75 75 w' w.heap.size (fun _ => True) v121 y120)) HT_.out HW_.out (by kernel_rfl) (by kernel_rfl) ?_ ?_ ?_
          ·
           exact ⟨.bool false, by simp only [putSel, Bool.false_eq_true, if_false], HB.out, fun h_ => absurd h_ (by decide)⟩
          ·
           skip
           clear HB
           refine steps_cons ?_ ?_
           ·
            rintro b a w' ⟨v121, ha, Q_HB, Q_HO122⟩ hb_ hon hoff
            refine ⟨_, rfl, fun K hK => ?_⟩
            have e16 : a.tmps[16]? = some (.slice (some ad117) l0.length c0) := by rw [ha]; exact (putSel_off rfl).trans rfl
            have e17 : a.tmps[17]? = some (.int .i64 x4_1) := by rw [ha]; exact (putSel_off rfl).trans rfl
            replace ha := mA ha
            have HB := mA Q_HB
            have hs0_ : w'.cell? (ad117.add ((x4_1).toNat * 6)) = some (.int .i64 ((rd_T77 l0 x4_1).f0)) := ((HB.out.cell (World.block_lt_of_cell? w _ hw117_0)).trans hw117_0)
            have hs1_ : w'.cell? ⟨(ad117.add ((x4_1).toNat * 6)).block, (ad117.add ((x4_1).toNat * 6)).off + 1, none⟩ = some (.int .i64 ((rd_T77 l0 x4_1).f1.f0)) := ((HB.out.cell (World.block_lt_of_cell? w _ hw117_1)).trans hw117_1)
            have hs2_ : w'.cell? ⟨(ad117.add ((x4_1).toNat * 6)).block, (ad117.add ((x4_1).toNat * 6)).off + 2, none⟩ = some (.int .i64 ((rd_T77 l0 x4_1).f1.f1)) := ((HB.out.cell (World.block_lt_of_cell? w _ hw117_2)).trans hw117_2)
            have hs3_ : w'.cell? ⟨(ad117.add ((x4_1).toNat * 6)).block, (ad117.add ((x4_1).toNat * 6)).off + 3, none⟩ = some (.int .i64 ((rd_T77 l0 x4_1).f1.f2)) := ((HB.out.cell (World.block_lt_of_cell? w _ hw117_3)).trans hw117_3)
            have hs4_ : w'.cell? ⟨(ad117.add ((x4_1).toNat * 6)).block, (ad117.add ((x4_1).toNat * 6)).off + 4, none⟩ = some (.int .i64 ((rd_T77 l0 x4_1).f1.f3)) := ((HB.out.cell (World.block_lt_of_cell? w _ hw117_4)).trans hw117_4)
            have hs5_ : w'.cell? ⟨(ad117.add ((x4_1).toNat * 6)).block, (ad117.add ((x4_1).toNat * 6)).off + 5, none⟩ = some (.int .i64 ((rd_T77 l0 x4_1).f1.f4)) := ((HB.out.cell (World.block_lt_of_cell? w _ hw117_5)).trans hw117_5)
            refine value_ (w1 := w') (v := .pointer (some (ad117.add ((x4_1).toNat * 6)))) (by rfl) rfl ?_ ?_
            ·
             go_simp
             (try simp only [i64_w])
             try rfl
            refine hK.out _ _ ⟨v121, (by rw [ha.out]; exact putSel_upk 0 hb_ rfl rfl rfl), Q_HB, Q_HO122⟩
           refine steps_cons ?_ ?_
           ·
            rintro b a w' ⟨v121, ha, Q_HB, Q_HO122⟩ hb_ hon hoff
            refine ⟨_, rfl, fun K hK => ?_⟩
            have e18 : a.tmps[18]? = some (.pointer (some (ad117.add ((x4_1).toNat * 6)))) := by rw [ha]; exact putSel_on (e := (3, 18, .pointer (some (ad117.add ((x4_1).toNat * 6))))) 0 rfl rfl (hon 3 (by kernel_rfl)) rfl
            replace ha := mA ha
            have HB := mA Q_HB
            refine value_ (w1 := w') (v := .pointer (some (ad117.add ((x4_1).toNat * 6)))) (by rfl) rfl ?_ ?_
            ·
             go_simp
             (try simp only [i64_w])
             try rfl
            refine hK.out _ _ ⟨v121, (by rw [ha.out]; exact putSel_upk 1 hb_ rfl rfl rfl), Q_HB, Q_HO122⟩
           refine steps_cons ?_ ?_
           ·
            rintro b a w' ⟨v121, ha, Q_HB, Q_HO122⟩ hb_ hon hoff
            refine ⟨_, rfl, fun K hK => ?_⟩
            have e19 : a.tmps[19]? = some (.pointer (some (ad117.add ((x4_1).toNat * 6)))) := by rw [ha]; exact putSel_on (e := (4, 19, .pointer (some (ad117.add ((x4_1).toNat * 6))))) 1 rfl rfl (hon 4 (by kernel_rfl)) rfl
            replace ha := mA ha
            have HB := mA Q_HB
            have hs0_ : w'.cell? (ad117.add ((x4_1).toNat * 6)) = some (.int .i64 ((rd_T77 l0 x4_1).f0)) := ((HB.out.cell (World.block_lt_of_cell? w _ hw117_0)).trans hw117_0)
            have hs1_ : w'.cell? ⟨(ad117.add ((x4_1).toNat * 6)).block, (ad117.add ((x4_1).toNat * 6)).off + 1, none⟩ = some (.int .i64 ((rd_T77 l0 x4_1).f1.f0)) := ((HB.out.cell (World.block_lt_of_cell? w _ hw117_1)).trans hw117_1)
            have hs2_ : w'.cell? ⟨(ad117.add ((x4_1).toNat * 6)).block, (ad117.add ((x4_1).toNat * 6)).off + 2, none⟩ = some (.int .i64 ((rd_T77 l0 x4_1).f1.f1)) := ((HB.out.cell (World.block_lt_of_cell? w _ hw117_2)).trans hw117_2)
            have hs3_ : w'.cell? ⟨(ad117.add ((x4_1).toNat * 6)).block, (ad117.add ((x4_1).toNat * 6)).off + 3, none⟩ = some (.int .i64 ((rd_T77 l0 x4_1).f1.f2)) := ((HB.out.cell (World.block_lt_of_cell? w _ hw117_3)).trans hw117_3)
            have hs4_ : w'.cell? ⟨(ad117.add ((x4_1).toNat * 6)).block, (ad117.add ((x4_1).toNat * 6)).off + 4, none⟩ = some (.int .i64 ((rd_T77 l0 x4_1).f1.f3)) := ((HB.out.cell (World.block_lt_of_cell? w _ hw117_4)).trans hw117_4)
            have hs5_ : w'.cell? ⟨(ad117.add ((x4_1).toNat * 6)).block, (ad117.add ((x4_1).toNat * 6)).off + 5, none⟩ = some (.int .i64 ((rd_T77 l0 x4_1).f1.f4)) := ((HB.out.cell (World.block_lt_of_cell? w _ hw117_5)).trans hw117_5)
            refine value_ (w1 := w') (v := .int .i64 ((rd_T77 l0 x4_1).f0)) (by rfl) rfl ?_ ?_
            ·
             go_simp
             (try simp only [i64_w])
             try rfl
            refine hK.out _ _ ⟨v121, (by rw [ha.out]; exact putSel_upk 2 hb_ rfl rfl rfl), Q_HB, Q_HO122⟩
           refine steps_cons ?_ ?_
           ·
            rintro b a w' ⟨v121, ha, Q_HB, Q_HO122⟩ hb_ hon hoff
            refine ⟨_, rfl, fun K hK => ?_⟩
            have e20 : a.tmps[20]? = some (.int .i64 ((rd_T77 l0 x4_1).f0)) := by rw [ha]; exact putSel_on (e := (5, 20, .int .i64 ((rd_T77 l0 x4_1).f0))) 2 rfl rfl (hon 5 (by kernel_rfl)) rfl
            replace ha := mA ha
            have HB := mA Q_HB
            refine goes_ Try.func42 (by kernel_rfl) rfl #[.int .i64 ((rd_T77 l0 x4_1).f0)] (by rfl) rfl rfl (by first | (simp only [List.map_toArray, List.map_cons, List.map_nil, Act.eval, Array.getD_eq_getD_getElem?, Option.getD_some, e20]; done) | (simp only [List.map_toArray, List.map_cons, List.map_nil, Act.eval, Array.getD_eq_getD_getElem?, Option.getD_some, e20]; rfl)) ?_
            with_reducible refine (spec_FormatInt.calls k1 ((rd_T77 l0 x4_1).f0) t118 _ A6.out).mono ?_
            rintro e w12 ⟨rfl, hb⟩
            refine ⟨_, rfl, ?_⟩
            have n0_ := mA (below_step (bT HB) hb)
            have z_HO122 := fun (h0_ : b 14 = true) => (show Kd.R k75 75 w12 w.heap.size (fun _ => True) v121 y120 from by first | exact (Kd.R_below (by (with_reducible repeat (first | apply Kd.R_alloc | apply Kd.R_drewN | apply Kd.R_drew)); exact (Q_HO122 h0_)) hb) | exact Kd.R_mono (Kd.R_below (by (with_reducible repeat (first | apply Kd.R_alloc | apply Kd.R_drewN | apply Kd.R_drew)); exact (Q_HO122 h0_)) hb) (fun _ h_ => by first | trivial | exact h_ | exact h_.1))
            clear HB
            have HB := n0_
            clear n0_
            (try clear hb)
            (try clear hb2)
            (try clear hk)
            (try clear hi)
            refine hK.out _ _ ⟨v121, (by rw [ha.out]; exact putSel_upk 3 hb_ rfl rfl rfl), (bT HB), z_HO122⟩
           refine steps_cons ?_ ?_
           ·
            rintro b a w' ⟨v121, ha, Q_HB, Q_HO122⟩ hb_ hon hoff
            refine ⟨_, rfl, fun K hK => ?_⟩
            have e15 : a.tmps[15]? = some (.string (x3_1 ++ (⟨#[32]⟩ : ByteArray))) := by rw [ha]; exact (putSel_off rfl).trans rfl
            have e21 : a.tmps[21]? = some (.string t118) := by rw [ha]; exact putSel_on (e := (6, 21, .string t118)) 3 rfl rfl (hon 6 (by kernel_rfl)) rfl
            replace ha := mA ha
            have HB := mA Q_HB
            refine value_ (w1 := w') (v := .string ((x3_1 ++ (⟨#[32]⟩ : ByteArray)) ++ t118)) (by rfl) rfl ?_ ?_
            ·
             go_simp
             (try simp only [i64_w])
             try rfl
            refine hK.out _ _ ⟨v121, (by rw [ha.out]; exact putSel_upk 4 hb_ rfl rfl rfl), Q_HB, Q_HO122⟩
           refine steps_cons ?_ ?_
           ·
            rintro b a w' ⟨v121, ha, Q_HB, Q_HO122⟩ hb_ hon hoff
            refine ⟨_, rfl, fun K hK => ?_⟩
            have e22 : a.tmps[22]? = some (.string ((x3_1 ++ (⟨#[32]⟩ : ByteArray)) ++ t118)) := by rw [ha]; exact putSel_on (e := (7, 22, .string ((x3_1 ++ (⟨#[32]⟩ : ByteArray)) ++ t118))) 4 rfl rfl (hon 7 (by kernel_rfl)) rfl
            replace ha := mA ha
            have HB := mA Q_HB
            refine value_ (w1 := w') (v := .string (((x3_1 ++ (⟨#[32]⟩ : ByteArray)) ++ t118) ++ (⟨#[47]⟩ : ByteArray))) (by rfl) rfl ?_ ?_
            ·
             go_simp
             (try simp only [i64_w])
             try rfl
            refine hK.out _ _ ⟨v121, (by rw [ha.out]; exact putSel_upk 5 hb_ rfl rfl rfl), Q_HB, Q_HO122⟩
           refine steps_cons ?_ ?_
           ·
            rintro b a w' ⟨v121, ha, Q_HB, Q_HO122⟩ hb_ hon hoff
            refine ⟨_, rfl, fun K hK => ?_⟩
            have e24 : a.tmps[24]? = some (.slice (some ad117) l0.length c0) := by rw [ha]; exact (putSel_off rfl).trans rfl
            have e25 : a.tmps[25]? = some (.int .i64 x4_1) := by rw [ha]; exact (putSel_off rfl).trans rfl
            replace ha := mA ha
            have HB := mA Q_HB
            have hs6_ : w'.cell? (ad117.add ((x4_1).toNat * 6)) = some (.int .i64 ((rd_T77 l0 x4_1).f0)) := ((HB.out.cell (World.block_lt_of_cell? w _ hw119_0)).trans hw119_0)
            have hs7_ : w'.cell? ⟨(ad117.add ((x4_1).toNat * 6)).block, (ad117.add ((x4_1).toNat * 6)).off + 1, none⟩ = some (.int .i64 ((rd_T77 l0 x4_1).f1.f0)) := ((HB.out.cell (World.block_lt_of_cell? w _ hw119_1)).trans hw119_1)
            have hs8_ : w'.cell? ⟨(ad117.add ((x4_1).toNat * 6)).block, (ad117.add ((x4_1).toNat * 6)).off + 2, none⟩ = some (.int .i64 ((rd_T77 l0 x4_1).f1.f1)) := ((HB.out.cell (World.block_lt_of_cell? w _ hw119_2)).trans hw119_2)
            have hs9_ : w'.cell? ⟨(ad117.add ((x4_1).toNat * 6)).block, (ad117.add ((x4_1).toNat * 6)).off + 3, none⟩ = some (.int .i64 ((rd_T77 l0 x4_1).f1.f2)) := ((HB.out.cell (World.block_lt_of_cell? w _ hw119_3)).trans hw119_3)
            have hs10_ : w'.cell? ⟨(ad117.add ((x4_1).toNat * 6)).block, (ad117.add ((x4_1).toNat * 6)).off + 4, none⟩ = some (.int .i64 ((rd_T77 l0 x4_1).f1.f3)) := ((HB.out.cell (World.block_lt_of_cell? w _ hw119_4)).trans hw119_4)
            have hs11_ : w'.cell? ⟨(ad117.add ((x4_1).toNat * 6)).block, (ad117.add ((x4_1).toNat * 6)).off + 5, none⟩ = some (.int .i64 ((rd_T77 l0 x4_1).f1.f4)) := ((HB.out.cell (World.block_lt_of_cell? w _ hw119_5)).trans hw119_5)
            refine value_ (w1 := w') (v := .pointer (some (ad117.add ((x4_1).toNat * 6)))) (by rfl) rfl ?_ ?_
            ·
             go_simp
             (try simp only [i64_w])
             try rfl
            refine hK.out _ _ ⟨v121, (by rw [ha.out]; exact putSel_upk 6 hb_ rfl rfl rfl), Q_HB, fun h0_ => absurd ((hoff 14 (by kernel_rfl)).symm.trans h0_) (by decide)⟩
           refine steps_cons ?_ ?_
           ·
            rintro b a w' ⟨v121, ha, Q_HB, Q_HO122⟩ hb_ hon hoff
            refine ⟨_, rfl, fun K hK => ?_⟩
            have e26 : a.tmps[26]? = some (.pointer (some (ad117.add ((x4_1).toNat * 6)))) := by rw [ha]; exact putSel_on (e := (11, 26, .pointer (some (ad117.add ((x4_1).toNat * 6))))) 6 rfl rfl (hon 11 (by kernel_rfl)) rfl
            replace ha := mA ha
            have HB := mA Q_HB
            refine value_ (w1 := w') (v := .pointer (some ⟨(ad117.add ((x4_1).toNat * 6)).block, (ad117.add ((x4_1).toNat * 6)).off + 1, none⟩)) (by rfl) rfl ?_ ?_
            ·
             go_simp
             (try simp only [i64_w])
             try rfl
            refine hK.out _ _ ⟨v121, (by rw [ha.out]; exact putSel_upk 7 hb_ rfl rfl rfl), Q_HB, fun h0_ => absurd ((hoff 14 (by kernel_rfl)).symm.trans h0_) (by decide)⟩
           refine steps_cons ?_ ?_
           ·
            rintro b a w' ⟨v121, ha, Q_HB, Q_HO122⟩ hb_ hon hoff
            refine ⟨_, rfl, fun K hK => ?_⟩
            have e27 : a.tmps[27]? = some (.pointer (some ⟨(ad117.add ((x4_1).toNat * 6)).block, (ad117.add ((x4_1).toNat * 6)).off + 1, none⟩)) := by rw [ha]; exact putSel_on (e := (12, 27, .pointer (some ⟨(ad117.add ((x4_1).toNat * 6)).block, (ad117.add ((x4_1).toNat * 6)).off + 1, none⟩))) 7 rfl rfl (hon 12 (by kernel_rfl)) rfl
            replace ha := mA ha
            have HB := mA Q_HB
            have hs6_ : w'.cell? (ad117.add ((x4_1).toNat * 6)) = some (.int .i64 ((rd_T77 l0 x4_1).f0)) := ((HB.out.cell (World.block_lt_of_cell? w _ hw119_0)).trans hw119_0)
            have hs7_ : w'.cell? ⟨(ad117.add ((x4_1).toNat * 6)).block, (ad117.add ((x4_1).toNat * 6)).off + 1, none⟩ = some (.int .i64 ((rd_T77 l0 x4_1).f1.f0)) := ((HB.out.cell (World.block_lt_of_cell? w _ hw119_1)).trans hw119_1)
            have hs8_ : w'.cell? ⟨(ad117.add ((x4_1).toNat * 6)).block, (ad117.add ((x4_1).toNat * 6)).off + 2, none⟩ = some (.int .i64 ((rd_T77 l0 x4_1).f1.f1)) := ((HB.out.cell (World.block_lt_of_cell? w _ hw119_2)).trans hw119_2)
            have hs9_ : w'.cell? ⟨(ad117.add ((x4_1).toNat * 6)).block, (ad117.add ((x4_1).toNat * 6)).off + 3, none⟩ = some (.int .i64 ((rd_T77 l0 x4_1).f1.f2)) := ((HB.out.cell (World.block_lt_of_cell? w _ hw119_3)).trans hw119_3)
            have hs10_ : w'.cell? ⟨(ad117.add ((x4_1).toNat * 6)).block, (ad117.add ((x4_1).toNat * 6)).off + 4, none⟩ = some (.int .i64 ((rd_T77 l0 x4_1).f1.f3)) := ((HB.out.cell (World.block_lt_of_cell? w _ hw119_4)).trans hw119_4)
            have hs11_ : w'.cell? ⟨(ad117.add ((x4_1).toNat * 6)).block, (ad117.add ((x4_1).toNat * 6)).off + 5, none⟩ = some (.int .i64 ((rd_T77 l0 x4_1).f1.f4)) := ((HB.out.cell (World.block_lt_of_cell? w _ hw119_5)).trans hw119_5)
            refine value_ (w1 := w') (v := .agg #[.int .i64 ((rd_T77 l0 x4_1).f1.f0), .int .i64 ((rd_T77 l0 x4_1).f1.f1), .int .i64 ((rd_T77 l0 x4_1).f1.f2), .int .i64 ((rd_T77 l0 x4_1).f1.f3), .int .i64 ((rd_T77 l0 x4_1).f1.f4)]) (by rfl) rfl ?_ ?_
            ·
             go_simp
             (try simp only [i64_w])
             try rfl
            refine hK.out _ _ ⟨v121, (by rw [ha.out]; exact putSel_upk 8 hb_ rfl rfl rfl), Q_HB, fun h0_ => absurd ((hoff 14 (by kernel_rfl)).symm.trans h0_) (by decide)⟩
           refine steps_cons ?_ ?_
           ·
            rintro b a w' ⟨v121, ha, Q_HB, Q_HO122⟩ hb_ hon hoff
            refine ⟨_, rfl, fun K hK => ?_⟩
            have e28 : a.tmps[28]? = some (.agg #[.int .i64 ((rd_T77 l0 x4_1).f1.f0), .int .i64 ((rd_T77 l0 x4_1).f1.f1), .int .i64 ((rd_T77 l0 x4_1).f1.f2), .int .i64 ((rd_T77 l0 x4_1).f1.f3), .int .i64 ((rd_T77 l0 x4_1).f1.f4)]) := by rw [ha]; exact putSel_on (e := (13, 28, .agg #[.int .i64 ((rd_T77 l0 x4_1).f1.f0), .int .i64 ((rd_T77 l0 x4_1).f1.f1), .int .i64 ((rd_T77 l0 x4_1).f1.f2), .int .i64 ((rd_T77 l0 x4_1).f1.f3), .int .i64 ((rd_T77 l0 x4_1).f1.f4)])) 8 rfl rfl (hon 13 (by kernel_rfl)) rfl
            replace ha := mA ha
            have HB := mA Q_HB
            refine Kd.R_lit_step k75 _ 75 ?hg (N := 29) ?hd (xs := ([(⟨(rd_T77 l0 x4_1).f1.f0, (rd_T77 l0 x4_1).f1.f1, (rd_T77 l0 x4_1).f1.f2, (rd_T77 l0 x4_1).f1.f3, (rd_T77 l0 x4_1).f1.f4⟩ : S75)] : List (S75))) (inner := [.int .i64 ((rd_T77 l0 x4_1).f1.f0), .int .i64 ((rd_T77 l0 x4_1).f1.f1), .int .i64 ((rd_T77 l0 x4_1).f1.f2), .int .i64 ((rd_T77 l0 x4_1).f1.f3), .int .i64 ((rd_T77 l0 x4_1).f1.f4)]) (ok := fun _ => True) (okp := fun _ => True) ?hr ?hp (fun _ hk => hk) trivial (Below.refl _ _) (Nat.le_refl _) (by simp) ?_; (case hd => rfl); (case hg => rfl); (case hr => first | (go_simp; done) | (go_simp; rfl)); (case hp => exact (Reps.c5 (show Kd.M k75 _ _ _ (⟨(rd_T77 l0 x4_1).f1.f0, (rd_T77 l0 x4_1).f1.f1, (rd_T77 l0 x4_1).f1.f2, (rd_T77 l0 x4_1).f1.f3, (rd_T77 l0 x4_1).f1.f4⟩ : S75) [.int .i64 ((rd_T77 l0 x4_1).f1.f0), .int .i64 ((rd_T77 l0 x4_1).f1.f1), .int .i64 ((rd_T77 l0 x4_1).f1.f2), .int .i64 ((rd_T77 l0 x4_1).f1.f3), .int .i64 ((rd_T77 l0 x4_1).f1.f4)] from (k75_mkM _ _ _ (⟨(rd_T77 l0 x4_1).f1.f0, (rd_T77 l0 x4_1).f1.f1, (rd_T77 l0 x4_1).f1.f2, (rd_T77 l0 x4_1).f1.f3, (rd_T77 l0 x4_1).f1.f4⟩ : S75) )) (Reps.none _ _)))
            intro v121 w12 ho13 hb hg_ hnew_
            clear hg_ hnew_
            (first | rw [← Ny120.out] at ho13 | (simp only [Int.reduceToNat] at ho13; rw [← Ny120.out] at ho13))
            have HO122 := mA (Kd.R_lower ho13 (below_size (bT HB)))
            replace HB := mA (below_step (bT HB) hb)
            clear hb ho13
            refine hK.out _ _ ⟨v121, (by rw [ha.out]; exact putSel_upk 9 hb_ rfl rfl rfl), (bT HB), fun _ => (rTR HO122)⟩
           refine steps_cons ?_ ?_
           ·
            rintro b a w' ⟨v121, ha, Q_HB, Q_HO122⟩ hb_ hon hoff
            refine ⟨_, rfl, fun K hK => ?_⟩
            have e29 : a.tmps[29]? = some (v121) := by rw [ha]; exact putSel_on (e := (14, 29, v121)) 9 rfl rfl (hon 14 (by kernel_rfl)) rfl
            replace ha := mA ha
            have HB := mA Q_HB
            have HO122 := mA (Q_HO122 (hon 14 (by kernel_rfl)))
            obtain ⟨Ao16, co16, eo16⟩ := Kd.R_slice HO122.out
            (first | subst eo16 | (injection eo16 with f1_ f2_ f3_; have f4_ := f1_.symm; have f5_ := f3_.symm; clear f1_ f2_ f3_; subst f4_; subst f5_))
            refine goes_ Try.func43 (by kernel_rfl) rfl #[.slice Ao16 y120.length co16] (by rfl) rfl rfl (by first | (simp only [List.map_toArray, List.map_cons, List.map_nil, Act.eval, Array.getD_eq_getD_getElem?, Option.getD_some, e29]; done) | (simp only [List.map_toArray, List.map_cons, List.map_nil, Act.eval, Array.getD_eq_getD_getElem?, Option.getD_some, e29]; rfl)) ?_
            with_reducible refine (spec_FormatGroups.calls k1 _ _ y120 t123 _ ?side1 ?side2 A9.out).mono ?_
            (case side1 => exact cT ((Kd.R_reads' HO122.out).2.2))
            (case side2 => exact (Kd.R_reads' HO122.out).2.1)
            rintro e w17 ⟨rfl, hb⟩
            refine ⟨_, rfl, ?_⟩
            replace HO122 := rBR HO122 hb
            replace HB := mA (below_step (bT HB) hb)
            (try clear hb)
            (try clear hb2)
            (try clear hk)
            (try clear hi)
            refine hK.out _ _ ⟨.slice Ao16 y120.length co16, (by rw [ha.out]; exact putSel_upk 10 hb_ rfl rfl rfl), (bT HB), fun _ => (rTR HO122)⟩
           refine steps_cons ?_ ?_
           ·
            rintro b a w' ⟨v121, ha, Q_HB, Q_HO122⟩ hb_ hon hoff
            refine ⟨_, rfl, fun K hK => ?_⟩
            have e23 : a.tmps[23]? = some (.string (((x3_1 ++ (⟨#[32]⟩ : ByteArray)) ++ t118) ++ (⟨#[47]⟩ : ByteArray))) := by rw [ha]; exact putSel_on (e := (8, 23, .string (((x3_1 ++ (⟨#[32]⟩ : ByteArray)) ++ t118) ++ (⟨#[47]⟩ : ByteArray)))) 5 rfl rfl (hon 8 (by kernel_rfl)) rfl
            have e30 : a.tmps[30]? = some (.string t123) := by rw [ha]; exact putSel_on (e := (15, 30, .string t123)) 10 rfl rfl (hon 15 (by kernel_rfl)) rfl
            replace ha := mA ha
            have HB := mA Q_HB
            refine value_ (w1 := w') (v := .string ((((x3_1 ++ (⟨#[32]⟩ : ByteArray)) ++ t118) ++ (⟨#[47]⟩ : ByteArray)) ++ t123)) (by rfl) rfl ?_ ?_
            ·
             go_simp
             (try simp only [i64_w])
             try rfl
            refine hK.out _ _ ⟨v121, (by rw [ha.out]; exact putSel_upk 11 hb_ rfl rfl rfl), Q_HB, Q_HO122⟩
           refine steps_cons ?_ ?_
           ·
            rintro b a w' ⟨v121, ha, Q_HB, Q_HO122⟩ hb_ hon hoff
            refine ⟨_, rfl, fun K hK => ?_⟩
            have e31 : a.tmps[31]? = some (.string ((((x3_1 ++ (⟨#[32]⟩ : ByteArray)) ++ t118) ++ (⟨#[47]⟩ : ByteArray)) ++ t123)) := by rw [ha]; exact putSel_on (e := (16, 31, .string ((((x3_1 ++ (⟨#[32]⟩ : ByteArray)) ++ t118) ++ (⟨#[47]⟩ : ByteArray)) ++ t123))) 11 rfl rfl (hon 16 (by kernel_rfl)) rfl
            replace ha := mA ha
            have HB := mA Q_HB
            refine value_ (w1 := w') (v := .string ((((x3_1 ++ (⟨#[32]⟩ : ByteArray)) ++ t118) ++ (⟨#[47]⟩ : ByteArray)) ++ t123)) (by rfl) rfl ?_ ?_
            ·
             go_simp
             (try simp only [i64_w])
             try rfl
            refine hK.out _ _ ⟨v121, (by rw [ha.out]; exact putSel_upk 12 hb_ rfl rfl rfl), Q_HB, Q_HO122⟩
           exact steps_nil
          rintro b a w17 hall ⟨v121, ha, Q_HB, Q_HO122⟩
          clear HB
          have hb3_ := hall 3 (by kernel_rfl)
          have hb4_ := hall 4 (by kernel_rfl)
          have hb5_ := hall 5 (by kernel_rfl)
          have hb6_ := hall 6 (by kernel_rfl)
          have hb7_ := hall 7 (by kernel_rfl)
          have hb8_ := hall 8 (by kernel_rfl)
          have hb11_ := hall 11 (by kernel_rfl)
          have hb12_ := hall 12 (by kernel_rfl)
          have hb13_ := hall 13 (by kernel_rfl)
          have hb14_ := hall 14 (by kernel_rfl)
          have hb15_ := hall 15 (by kernel_rfl)
          have hb16_ := hall 16 (by kernel_rfl)
          have hb17_ := hall 17 (by kernel_rfl)
          subst ha
          simp only [putSel, hb3_, hb4_, hb5_, hb6_, hb7_, hb8_, hb11_, hb12_, hb13_, hb14_, hb15_, hb16_, hb17_, if_true, Act.put, List.setIfInBounds_toArray, List.set_cons_zero, List.set_cons_succ]
          have HB := mA Q_HB
          clear Q_HB
          clear Q_HO122
          clear hall hb3_ hb4_ hb5_ hb6_ hb7_ hb8_ hb11_ hb12_ hb13_ hb14_ hb15_ hb16_ hb17_
          try go_wp2
          go_roundg k1
          case measure => have := HK1.out; omega
          case rel => exact ⟨((((x3_1 ++ (⟨#[32]⟩ : ByteArray)) ++ t118) ++ (⟨#[47]⟩ : ByteArray)) ++ t123), (wrap64 (x4_1 + 1)), sT, sT, H', ⟨by have := HK1.out; omega⟩, ⟨bT HB⟩⟩
         ·
          rw [if_neg c10] at H
          exact absurd H (by simp)
        ·
         rw [if_neg c8] at H
         exact absurd H (by simp)
       ·
        rw [if_neg c7] at H
        exact absurd H (by simp)
      ·
       rw [if_neg c5] at H
       exact absurd H (by simp)
     ·
      rw [if_neg c4] at H
      exact absurd H (by simp)
    ·
     rw [if_neg c3] at H
     have c3b0 : decide (0 < x4_1) = false := decide_eq_false c3
     clear c3
     by_cases c18 : 0 ≤ x4_1
     ·
      rw [if_pos c18] at H
      have c18b0 : decide (0 ≤ x4_1) = true := decide_eq_true c18
      clear c18
      obtain ⟨t125, A19, H⟩ := Option.bind_eq_some_iff.mp H
      replace A19 := mA A19
      try dsimp only at H
      by_cases c20 : x3_1.size + t125.size ≤ 9223372036854775807
      ·
       rw [if_pos c20] at H
       have c20b0 := eq_true c20
       have c20b1 : decide (x3_1.size + t125.size ≤ 9223372036854775807) = true := decide_eq_true c20
       try have c20b2 : (9223372036854775807 < x3_1.size + t125.size) = False := eq_false (Nat.not_lt.2 c20)
       by_cases c21 : (x3_1 ++ t125).size + 1 ≤ 9223372036854775807
       ·
        rw [if_pos c21] at H
        have c21b0 := eq_true c21
        have c21b1 : decide ((x3_1 ++ t125).size + 1 ≤ 9223372036854775807) = true := decide_eq_true c21
        try have c21b2 : (9223372036854775807 < (x3_1 ++ t125).size + 1) = False := eq_false (Nat.not_lt.2 c21)
        try have c21b3 : (9223372036854775807 < x3_1.size + t125.size + 1) = False := szF c21
        obtain ⟨y127, hy127⟩ : ∃ y_ : List (S75), y_ = (([(⟨(rd_T77 l0 x4_1).f1.f0, (rd_T77 l0 x4_1).f1.f1, (rd_T77 l0 x4_1).f1.f2, (rd_T77 l0 x4_1).f1.f3, (rd_T77 l0 x4_1).f1.f4⟩ : S75)] : List (S75))) := ⟨_, rfl⟩
        replace H : ((spec_FormatGroups.f k1 y127).bind fun t130 => (if ((x3_1 ++ t125) ++ (⟨#[47]⟩ : ByteArray)).size + t130.size ≤ 9223372036854775807 then (spec_FormatRollup.l0 k1 l0 (((x3_1 ++ t125) ++ (⟨#[47]⟩ : ByteArray)) ++ t130) (wrap64 (x4_1 + 1))) else (none))) = some r := by first | (rw [hy127]; with_reducible exact H) | (have H2_ := (Option.bind_some _ _).symm.trans H; rw [hy127]; with_reducible exact H2_) | (have H2_ := (Option.bind_some _ _).symm.trans H; with_reducible exact H2_) | with_reducible exact H | (rw [hy127]; exact H) | exact H
        have Ny127 := mA hy127
        clear hy127
        obtain ⟨t130, A22, H⟩ := Option.bind_eq_some_iff.mp H
        replace A22 := mA A22
        try dsimp only at H
        by_cases c23 : ((x3_1 ++ t125) ++ (⟨#[47]⟩ : ByteArray)).size + t130.size ≤ 9223372036854775807
        ·
         rw [if_pos c23] at H
         have c23b0 := eq_true c23
         have c23b1 : decide (((x3_1 ++ t125) ++ (⟨#[47]⟩ : ByteArray)).size + t130.size ≤ 9223372036854775807) = true := decide_eq_true c23
         try have c23b2 : (9223372036854775807 < ((x3_1 ++ t125) ++ (⟨#[47]⟩ : ByteArray)).size + t130.size) = False := eq_false (Nat.not_lt.2 c23)
         try have c23b3 : (9223372036854775807 < x3_1.size + t125.size + 1 + t130.size) = False := szF c23
         have H' := mA H
         clear H
         try go_wp2
         replace HB := mA (below_drew1 HB.out)
         have p124 : 0 ≤ (x4_1 : Int) := of_decide_eq_true aT
         have q124 : x4_1 < (l0.length : Int) := of_decide_eq_true aT
         obtain ⟨ad124, e124, hx124_0, hx124_1, hx124_2, hx124_3, hx124_4, hx124_5⟩ := at_T77 HR0.out x4_1 p124 q124
         have hw124_5 := hx124_5
         have hw124_4 := hx124_4
         have hw124_3 := hx124_3
         have hw124_2 := hx124_2
         have hw124_1 := hx124_1
         have hw124_0 := hx124_0
         cases e124
         replace hx124_0 := (HB.out.cell (World.block_lt_of_cell? w _ hx124_0)).trans hx124_0
         replace hx124_1 := (HB.out.cell (World.block_lt_of_cell? w _ hx124_1)).trans hx124_1
         replace hx124_2 := (HB.out.cell (World.block_lt_of_cell? w _ hx124_2)).trans hx124_2
         replace hx124_3 := (HB.out.cell (World.block_lt_of_cell? w _ hx124_3)).trans hx124_3
         replace hx124_4 := (HB.out.cell (World.block_lt_of_cell? w _ hx124_4)).trans hx124_4
         replace hx124_5 := (HB.out.cell (World.block_lt_of_cell? w _ hx124_5)).trans hx124_5
         replace p124 := eq_true p124
         replace q124 := eq_true q124
         have p126 : 0 ≤ (x4_1 : Int) := of_decide_eq_true aT
         have q126 : x4_1 < (l0.length : Int) := of_decide_eq_true aT
         obtain ⟨ad126, e126, hx126_0, hx126_1, hx126_2, hx126_3, hx126_4, hx126_5⟩ := at_T77 HR0.out x4_1 p126 q126
         have hw126_5 := hx126_5
         have hw126_4 := hx126_4
         have hw126_3 := hx126_3
         have hw126_2 := hx126_2
         have hw126_1 := hx126_1
         have hw126_0 := hx126_0
         obtain rfl : ad124 = ad126 := (by injection e126)
         replace hx126_0 := (HB.out.cell (World.block_lt_of_cell? w _ hx126_0)).trans hx126_0
         replace hx126_1 := (HB.out.cell (World.block_lt_of_cell? w _ hx126_1)).trans hx126_1
         replace hx126_2 := (HB.out.cell (World.block_lt_of_cell? w _ hx126_2)).trans hx126_2
         replace hx126_3 := (HB.out.cell (World.block_lt_of_cell? w _ hx126_3)).trans hx126_3
         replace hx126_4 := (HB.out.cell (World.block_lt_of_cell? w _ hx126_4)).trans hx126_4
         replace hx126_5 := (HB.out.cell (World.block_lt_of_cell? w _ hx126_5)).trans hx126_5
         replace p126 := eq_true p126
         replace q126 := eq_true q126
         refine start_ (n := 18) (S := fun w' => True) (ds := []) #[false, false, false, false, false, false, false, false, false, false, false, false, false, false, false, false, false, false] (by kernel_rfl) rfl rfl trivial (fun hHeld => ?_); refine with_tabW spec_FormatRollup.tab7 spec_FormatRollup.bits7 (fun HT_ HW_ => ?_)
         generalize wr.drew = w24 at HB hx124_0 hx124_1 hx124_2 hx124_3 hx124_4 hx124_5 hx126_0 hx126_1 hx126_2 hx126_3 hx126_4 hx126_5 hHeld ⊢
         refine pureT (i := 0) (N := some 15) #[true, false, false, false, false, false, false, false, false, false, false, false, false, false, false, false, false, false] (any_of HT_.out (by kernel_rfl)) ?_
         refine pureT (i := 1) (N := some 16) #[true, true, false, false, false, false, false, false, false, false, false, false, false, false, false, false, false, false] (any_of HT_.out (by kernel_rfl)) ?_
         refine pureT (i := 2) (N := some 17) #[true, true, true, false, false, false, false, false, false, false, false, false, false, false, false, false, false, false] (any_of HT_.out (by kernel_rfl)) ?_
         refine pureT (i := 9) (N := some 24) #[true, true, true, false, false, false, false, false, false, true, false, false, false, false, false, false, false, false] (any_of HT_.out (by kernel_rfl)) ?_
         refine pureT (i := 10) (N := some 25) #[true, true, true, false, false, false, false, false, false, true, true, false, false, false, false, false, false, false] (any_of HT_.out (by kernel_rfl)) ?_
         refine inv_at [3, 4, 5, 6, 7, 8, 11, 12, 13, 14, 15, 16, 17] (fun a0_ b a w' => ∃ (v128 : Value), a = putSel a0_ b [(3, 18, .pointer (some (ad124.add ((x4_1).toNat * 6)))), (4, 19, .pointer (some (ad124.add ((x4_1).toNat * 6)))), (5, 20, .int .i64 ((rd_T77 l0 x4_1).f0)), (6, 21, .string t125), (7, 22, .string (x3_1 ++ t125)), (8, 23, .string ((x3_1 ++ t125) ++ (⟨#[47]⟩ : ByteArray))), (11, 26, .pointer (some (ad124.add ((x4_1).toNat * 6)))), (12, 27, .pointer (some ⟨(ad124.add ((x4_1).toNat * 6)).block, (ad124.add ((x4_1).toNat * 6)).off + 1, none⟩)), (13, 28, .agg #[.int .i64 ((rd_T77 l0 x4_1).f1.f0), .int .i64 ((rd_T77 l0 x4_1).f1.f1), .int .i64 ((rd_T77 l0 x4_1).f1.f2), .int .i64 ((rd_T77 l0 x4_1).f1.f3), .int .i64 ((rd_T77 l0 x4_1).f1.f4)]), (14, 29, v128), (15, 30, .string t130), (16, 31, .string (((x3_1 ++ t125) ++ (⟨#[47]⟩ : ByteArray)) ++ t130)), (17, 3, .string (((x3_1 ++ t125) ++ (⟨#[47]⟩ : ByteArray)) ++ t130))] ∧ (Below w.heap.size w w') ∧ (b 14 = true → Kd.R k75 75 w' w.heap.size (fun _ => True) v128 y127)) HT_.out HW_.out (by kernel_rfl) (by kernel_rfl) ?_ ?_ ?_
         ·
          exact ⟨.bool false, by simp only [putSel, Bool.false_eq_true, if_false], HB.out, fun h_ => absurd h_ (by decide)⟩
         ·
          skip
          clear HB
          refine steps_cons ?_ ?_
          ·
           rintro b a w' ⟨v128, ha, Q_HB, Q_HO129⟩ hb_ hon hoff
           refine ⟨_, rfl, fun K hK => ?_⟩
           have e16 : a.tmps[16]? = some (.slice (some ad124) l0.length c0) := by rw [ha]; exact (putSel_off rfl).trans rfl
           have e17 : a.tmps[17]? = some (.int .i64 x4_1) := by rw [ha]; exact (putSel_off rfl).trans rfl
           replace ha := mA ha
           have HB := mA Q_HB
           have hs0_ : w'.cell? (ad124.add ((x4_1).toNat * 6)) = some (.int .i64 ((rd_T77 l0 x4_1).f0)) := ((HB.out.cell (World.block_lt_of_cell? w _ hw124_0)).trans hw124_0)
           have hs1_ : w'.cell? ⟨(ad124.add ((x4_1).toNat * 6)).block, (ad124.add ((x4_1).toNat * 6)).off + 1, none⟩ = some (.int .i64 ((rd_T77 l0 x4_1).f1.f0)) := ((HB.out.cell (World.block_lt_of_cell? w _ hw124_1)).trans hw124_1)
           have hs2_ : w'.cell? ⟨(ad124.add ((x4_1).toNat * 6)).block, (ad124.add ((x4_1).toNat * 6)).off + 2, none⟩ = some (.int .i64 ((rd_T77 l0 x4_1).f1.f1)) := ((HB.out.cell (World.block_lt_of_cell? w _ hw124_2)).trans hw124_2)
           have hs3_ : w'.cell? ⟨(ad124.add ((x4_1).toNat * 6)).block, (ad124.add ((x4_1).toNat * 6)).off + 3, none⟩ = some (.int .i64 ((rd_T77 l0 x4_1).f1.f2)) := ((HB.out.cell (World.block_lt_of_cell? w _ hw124_3)).trans hw124_3)
           have hs4_ : w'.cell? ⟨(ad124.add ((x4_1).toNat * 6)).block, (ad124.add ((x4_1).toNat * 6)).off + 4, none⟩ = some (.int .i64 ((rd_T77 l0 x4_1).f1.f3)) := ((HB.out.cell (World.block_lt_of_cell? w _ hw124_4)).trans hw124_4)
           have hs5_ : w'.cell? ⟨(ad124.add ((x4_1).toNat * 6)).block, (ad124.add ((x4_1).toNat * 6)).off + 5, none⟩ = some (.int .i64 ((rd_T77 l0 x4_1).f1.f4)) := ((HB.out.cell (World.block_lt_of_cell? w _ hw124_5)).trans hw124_5)
           refine value_ (w1 := w') (v := .pointer (some (ad124.add ((x4_1).toNat * 6)))) (by rfl) rfl ?_ ?_
           ·
            go_simp
            (try simp only [i64_w])
            try rfl
           refine hK.out _ _ ⟨v128, (by rw [ha.out]; exact putSel_upk 0 hb_ rfl rfl rfl), Q_HB, Q_HO129⟩
          refine steps_cons ?_ ?_
          ·
           rintro b a w' ⟨v128, ha, Q_HB, Q_HO129⟩ hb_ hon hoff
           refine ⟨_, rfl, fun K hK => ?_⟩
           have e18 : a.tmps[18]? = some (.pointer (some (ad124.add ((x4_1).toNat * 6)))) := by rw [ha]; exact putSel_on (e := (3, 18, .pointer (some (ad124.add ((x4_1).toNat * 6))))) 0 rfl rfl (hon 3 (by kernel_rfl)) rfl
           replace ha := mA ha
           have HB := mA Q_HB
           refine value_ (w1 := w') (v := .pointer (some (ad124.add ((x4_1).toNat * 6)))) (by rfl) rfl ?_ ?_
           ·
            go_simp
            (try simp only [i64_w])
            try rfl
           refine hK.out _ _ ⟨v128, (by rw [ha.out]; exact putSel_upk 1 hb_ rfl rfl rfl), Q_HB, Q_HO129⟩
          refine steps_cons ?_ ?_
          ·
           rintro b a w' ⟨v128, ha, Q_HB, Q_HO129⟩ hb_ hon hoff
           refine ⟨_, rfl, fun K hK => ?_⟩
           have e19 : a.tmps[19]? = some (.pointer (some (ad124.add ((x4_1).toNat * 6)))) := by rw [ha]; exact putSel_on (e := (4, 19, .pointer (some (ad124.add ((x4_1).toNat * 6))))) 1 rfl rfl (hon 4 (by kernel_rfl)) rfl
           replace ha := mA ha
           have HB := mA Q_HB
           have hs0_ : w'.cell? (ad124.add ((x4_1).toNat * 6)) = some (.int .i64 ((rd_T77 l0 x4_1).f0)) := ((HB.out.cell (World.block_lt_of_cell? w _ hw124_0)).trans hw124_0)
           have hs1_ : w'.cell? ⟨(ad124.add ((x4_1).toNat * 6)).block, (ad124.add ((x4_1).toNat * 6)).off + 1, none⟩ = some (.int .i64 ((rd_T77 l0 x4_1).f1.f0)) := ((HB.out.cell (World.block_lt_of_cell? w _ hw124_1)).trans hw124_1)
           have hs2_ : w'.cell? ⟨(ad124.add ((x4_1).toNat * 6)).block, (ad124.add ((x4_1).toNat * 6)).off + 2, none⟩ = some (.int .i64 ((rd_T77 l0 x4_1).f1.f1)) := ((HB.out.cell (World.block_lt_of_cell? w _ hw124_2)).trans hw124_2)
           have hs3_ : w'.cell? ⟨(ad124.add ((x4_1).toNat * 6)).block, (ad124.add ((x4_1).toNat * 6)).off + 3, none⟩ = some (.int .i64 ((rd_T77 l0 x4_1).f1.f2)) := ((HB.out.cell (World.block_lt_of_cell? w _ hw124_3)).trans hw124_3)
           have hs4_ : w'.cell? ⟨(ad124.add ((x4_1).toNat * 6)).block, (ad124.add ((x4_1).toNat * 6)).off + 4, none⟩ = some (.int .i64 ((rd_T77 l0 x4_1).f1.f3)) := ((HB.out.cell (World.block_lt_of_cell? w _ hw124_4)).trans hw124_4)
           have hs5_ : w'.cell? ⟨(ad124.add ((x4_1).toNat * 6)).block, (ad124.add ((x4_1).toNat * 6)).off + 5, none⟩ = some (.int .i64 ((rd_T77 l0 x4_1).f1.f4)) := ((HB.out.cell (World.block_lt_of_cell? w _ hw124_5)).trans hw124_5)
           refine value_ (w1 := w') (v := .int .i64 ((rd_T77 l0 x4_1).f0)) (by rfl) rfl ?_ ?_
           ·
            go_simp
            (try simp only [i64_w])
            try rfl
           refine hK.out _ _ ⟨v128, (by rw [ha.out]; exact putSel_upk 2 hb_ rfl rfl rfl), Q_HB, Q_HO129⟩
          refine steps_cons ?_ ?_
          ·
           rintro b a w' ⟨v128, ha, Q_HB, Q_HO129⟩ hb_ hon hoff
           refine ⟨_, rfl, fun K hK => ?_⟩
           have e20 : a.tmps[20]? = some (.int .i64 ((rd_T77 l0 x4_1).f0)) := by rw [ha]; exact putSel_on (e := (5, 20, .int .i64 ((rd_T77 l0 x4_1).f0))) 2 rfl rfl (hon 5 (by kernel_rfl)) rfl
           replace ha := mA ha
           have HB := mA Q_HB
           refine goes_ Try.func42 (by kernel_rfl) rfl #[.int .i64 ((rd_T77 l0 x4_1).f0)] (by rfl) rfl rfl (by first | (simp only [List.map_toArray, List.map_cons, List.map_nil, Act.eval, Array.getD_eq_getD_getElem?, Option.getD_some, e20]; done) | (simp only [List.map_toArray, List.map_cons, List.map_nil, Act.eval, Array.getD_eq_getD_getElem?, Option.getD_some, e20]; rfl)) ?_
           with_reducible refine (spec_FormatInt.calls k1 ((rd_T77 l0 x4_1).f0) t125 _ A19.out).mono ?_
           rintro e w25 ⟨rfl, hb⟩
           refine ⟨_, rfl, ?_⟩
           have n0_ := mA (below_step (bT HB) hb)
           have z_HO129 := fun (h0_ : b 14 = true) => (show Kd.R k75 75 w25 w.heap.size (fun _ => True) v128 y127 from by first | exact (Kd.R_below (by (with_reducible repeat (first | apply Kd.R_alloc | apply Kd.R_drewN | apply Kd.R_drew)); exact (Q_HO129 h0_)) hb) | exact Kd.R_mono (Kd.R_below (by (with_reducible repeat (first | apply Kd.R_alloc | apply Kd.R_drewN | apply Kd.R_drew)); exact (Q_HO129 h0_)) hb) (fun _ h_ => by first | trivial | exact h_ | exact h_.1))
           clear HB
           have HB := n0_
           clear n0_
           (try clear hb)
           (try clear hb2)
           (try clear hk)
           (try clear hi)
           refine hK.out _ _ ⟨v128, (by rw [ha.out]; exact putSel_upk 3 hb_ rfl rfl rfl), (bT HB), z_HO129⟩
          refine steps_cons ?_ ?_
          ·
           rintro b a w' ⟨v128, ha, Q_HB, Q_HO129⟩ hb_ hon hoff
           refine ⟨_, rfl, fun K hK => ?_⟩
           have e15 : a.tmps[15]? = some (.string x3_1) := by rw [ha]; exact (putSel_off rfl).trans rfl
           have e21 : a.tmps[21]? = some (.string t125) := by rw [ha]; exact putSel_on (e := (6, 21, .string t125)) 3 rfl rfl (hon 6 (by kernel_rfl)) rfl
           replace ha := mA ha
           have HB := mA Q_HB
           refine value_ (w1 := w') (v := .string (x3_1 ++ t125)) (by rfl) rfl ?_ ?_
           ·
            go_simp
            (try simp only [i64_w])
            try rfl
           refine hK.out _ _ ⟨v128, (by rw [ha.out]; exact putSel_upk 4 hb_ rfl rfl rfl), Q_HB, Q_HO129⟩
          refine steps_cons ?_ ?_
          ·
           rintro b a w' ⟨v128, ha, Q_HB, Q_HO129⟩ hb_ hon hoff
           refine ⟨_, rfl, fun K hK => ?_⟩
           have e22 : a.tmps[22]? = some (.string (x3_1 ++ t125)) := by rw [ha]; exact putSel_on (e := (7, 22, .string (x3_1 ++ t125))) 4 rfl rfl (hon 7 (by kernel_rfl)) rfl
           replace ha := mA ha
           have HB := mA Q_HB
           refine value_ (w1 := w') (v := .string ((x3_1 ++ t125) ++ (⟨#[47]⟩ : ByteArray))) (by rfl) rfl ?_ ?_
           ·
            go_simp
            (try simp only [i64_w])
            try rfl
           refine hK.out _ _ ⟨v128, (by rw [ha.out]; exact putSel_upk 5 hb_ rfl rfl rfl), Q_HB, Q_HO129⟩
          refine steps_cons ?_ ?_
          ·
           rintro b a w' ⟨v128, ha, Q_HB, Q_HO129⟩ hb_ hon hoff
           refine ⟨_, rfl, fun K hK => ?_⟩
           have e24 : a.tmps[24]? = some (.slice (some ad124) l0.length c0) := by rw [ha]; exact (putSel_off rfl).trans rfl
           have e25 : a.tmps[25]? = some (.int .i64 x4_1) := by rw [ha]; exact (putSel_off rfl).trans rfl
           replace ha := mA ha
           have HB := mA Q_HB
           have hs6_ : w'.cell? (ad124.add ((x4_1).toNat * 6)) = some (.int .i64 ((rd_T77 l0 x4_1).f0)) := ((HB.out.cell (World.block_lt_of_cell? w _ hw126_0)).trans hw126_0)
           have hs7_ : w'.cell? ⟨(ad124.add ((x4_1).toNat * 6)).block, (ad124.add ((x4_1).toNat * 6)).off + 1, none⟩ = some (.int .i64 ((rd_T77 l0 x4_1).f1.f0)) := ((HB.out.cell (World.block_lt_of_cell? w _ hw126_1)).trans hw126_1)
           have hs8_ : w'.cell? ⟨(ad124.add ((x4_1).toNat * 6)).block, (ad124.add ((x4_1).toNat * 6)).off + 2, none⟩ = some (.int .i64 ((rd_T77 l0 x4_1).f1.f1)) := ((HB.out.cell (World.block_lt_of_cell? w _ hw126_2)).trans hw126_2)
           have hs9_ : w'.cell? ⟨(ad124.add ((x4_1).toNat * 6)).block, (ad124.add ((x4_1).toNat * 6)).off + 3, none⟩ = some (.int .i64 ((rd_T77 l0 x4_1).f1.f2)) := ((HB.out.cell (World.block_lt_of_cell? w _ hw126_3)).trans hw126_3)
           have hs10_ : w'.cell? ⟨(ad124.add ((x4_1).toNat * 6)).block, (ad124.add ((x4_1).toNat * 6)).off + 4, none⟩ = some (.int .i64 ((rd_T77 l0 x4_1).f1.f3)) := ((HB.out.cell (World.block_lt_of_cell? w _ hw126_4)).trans hw126_4)
           have hs11_ : w'.cell? ⟨(ad124.add ((x4_1).toNat * 6)).block, (ad124.add ((x4_1).toNat * 6)).off + 5, none⟩ = some (.int .i64 ((rd_T77 l0 x4_1).f1.f4)) := ((HB.out.cell (World.block_lt_of_cell? w _ hw126_5)).trans hw126_5)
           refine value_ (w1 := w') (v := .pointer (some (ad124.add ((x4_1).toNat * 6)))) (by rfl) rfl ?_ ?_
           ·
            go_simp
            (try simp only [i64_w])
            try rfl
           refine hK.out _ _ ⟨v128, (by rw [ha.out]; exact putSel_upk 6 hb_ rfl rfl rfl), Q_HB, fun h0_ => absurd ((hoff 14 (by kernel_rfl)).symm.trans h0_) (by decide)⟩
          refine steps_cons ?_ ?_
          ·
           rintro b a w' ⟨v128, ha, Q_HB, Q_HO129⟩ hb_ hon hoff
           refine ⟨_, rfl, fun K hK => ?_⟩
           have e26 : a.tmps[26]? = some (.pointer (some (ad124.add ((x4_1).toNat * 6)))) := by rw [ha]; exact putSel_on (e := (11, 26, .pointer (some (ad124.add ((x4_1).toNat * 6))))) 6 rfl rfl (hon 11 (by kernel_rfl)) rfl
           replace ha := mA ha
           have HB := mA Q_HB
           refine value_ (w1 := w') (v := .pointer (some ⟨(ad124.add ((x4_1).toNat * 6)).block, (ad124.add ((x4_1).toNat * 6)).off + 1, none⟩)) (by rfl) rfl ?_ ?_
           ·
            go_simp
            (try simp only [i64_w])
            try rfl
           refine hK.out _ _ ⟨v128, (by rw [ha.out]; exact putSel_upk 7 hb_ rfl rfl rfl), Q_HB, fun h0_ => absurd ((hoff 14 (by kernel_rfl)).symm.trans h0_) (by decide)⟩
          refine steps_cons ?_ ?_
          ·
           rintro b a w' ⟨v128, ha, Q_HB, Q_HO129⟩ hb_ hon hoff
           refine ⟨_, rfl, fun K hK => ?_⟩
           have e27 : a.tmps[27]? = some (.pointer (some ⟨(ad124.add ((x4_1).toNat * 6)).block, (ad124.add ((x4_1).toNat * 6)).off + 1, none⟩)) := by rw [ha]; exact putSel_on (e := (12, 27, .pointer (some ⟨(ad124.add ((x4_1).toNat * 6)).block, (ad124.add ((x4_1).toNat * 6)).off + 1, none⟩))) 7 rfl rfl (hon 12 (by kernel_rfl)) rfl
           replace ha := mA ha
           have HB := mA Q_HB
           have hs6_ : w'.cell? (ad124.add ((x4_1).toNat * 6)) = some (.int .i64 ((rd_T77 l0 x4_1).f0)) := ((HB.out.cell (World.block_lt_of_cell? w _ hw126_0)).trans hw126_0)
           have hs7_ : w'.cell? ⟨(ad124.add ((x4_1).toNat * 6)).block, (ad124.add ((x4_1).toNat * 6)).off + 1, none⟩ = some (.int .i64 ((rd_T77 l0 x4_1).f1.f0)) := ((HB.out.cell (World.block_lt_of_cell? w _ hw126_1)).trans hw126_1)
           have hs8_ : w'.cell? ⟨(ad124.add ((x4_1).toNat * 6)).block, (ad124.add ((x4_1).toNat * 6)).off + 2, none⟩ = some (.int .i64 ((rd_T77 l0 x4_1).f1.f1)) := ((HB.out.cell (World.block_lt_of_cell? w _ hw126_2)).trans hw126_2)
           have hs9_ : w'.cell? ⟨(ad124.add ((x4_1).toNat * 6)).block, (ad124.add ((x4_1).toNat * 6)).off + 3, none⟩ = some (.int .i64 ((rd_T77 l0 x4_1).f1.f2)) := ((HB.out.cell (World.block_lt_of_cell? w _ hw126_3)).trans hw126_3)
           have hs10_ : w'.cell? ⟨(ad124.add ((x4_1).toNat * 6)).block, (ad124.add ((x4_1).toNat * 6)).off + 4, none⟩ = some (.int .i64 ((rd_T77 l0 x4_1).f1.f3)) := ((HB.out.cell (World.block_lt_of_cell? w _ hw126_4)).trans hw126_4)
           have hs11_ : w'.cell? ⟨(ad124.add ((x4_1).toNat * 6)).block, (ad124.add ((x4_1).toNat * 6)).off + 5, none⟩ = some (.int .i64 ((rd_T77 l0 x4_1).f1.f4)) := ((HB.out.cell (World.block_lt_of_cell? w _ hw126_5)).trans hw126_5)
           refine value_ (w1 := w') (v := .agg #[.int .i64 ((rd_T77 l0 x4_1).f1.f0), .int .i64 ((rd_T77 l0 x4_1).f1.f1), .int .i64 ((rd_T77 l0 x4_1).f1.f2), .int .i64 ((rd_T77 l0 x4_1).f1.f3), .int .i64 ((rd_T77 l0 x4_1).f1.f4)]) (by rfl) rfl ?_ ?_
           ·
            go_simp
            (try simp only [i64_w])
            try rfl
           refine hK.out _ _ ⟨v128, (by rw [ha.out]; exact putSel_upk 8 hb_ rfl rfl rfl), Q_HB, fun h0_ => absurd ((hoff 14 (by kernel_rfl)).symm.trans h0_) (by decide)⟩
          refine steps_cons ?_ ?_
          ·
           rintro b a w' ⟨v128, ha, Q_HB, Q_HO129⟩ hb_ hon hoff
           refine ⟨_, rfl, fun K hK => ?_⟩
           have e28 : a.tmps[28]? = some (.agg #[.int .i64 ((rd_T77 l0 x4_1).f1.f0), .int .i64 ((rd_T77 l0 x4_1).f1.f1), .int .i64 ((rd_T77 l0 x4_1).f1.f2), .int .i64 ((rd_T77 l0 x4_1).f1.f3), .int .i64 ((rd_T77 l0 x4_1).f1.f4)]) := by rw [ha]; exact putSel_on (e := (13, 28, .agg #[.int .i64 ((rd_T77 l0 x4_1).f1.f0), .int .i64 ((rd_T77 l0 x4_1).f1.f1), .int .i64 ((rd_T77 l0 x4_1).f1.f2), .int .i64 ((rd_T77 l0 x4_1).f1.f3), .int .i64 ((rd_T77 l0 x4_1).f1.f4)])) 8 rfl rfl (hon 13 (by kernel_rfl)) rfl
           replace ha := mA ha
           have HB := mA Q_HB
           refine Kd.R_lit_step k75 _ 75 ?hg (N := 29) ?hd (xs := ([(⟨(rd_T77 l0 x4_1).f1.f0, (rd_T77 l0 x4_1).f1.f1, (rd_T77 l0 x4_1).f1.f2, (rd_T77 l0 x4_1).f1.f3, (rd_T77 l0 x4_1).f1.f4⟩ : S75)] : List (S75))) (inner := [.int .i64 ((rd_T77 l0 x4_1).f1.f0), .int .i64 ((rd_T77 l0 x4_1).f1.f1), .int .i64 ((rd_T77 l0 x4_1).f1.f2), .int .i64 ((rd_T77 l0 x4_1).f1.f3), .int .i64 ((rd_T77 l0 x4_1).f1.f4)]) (ok := fun _ => True) (okp := fun _ => True) ?hr ?hp (fun _ hk => hk) trivial (Below.refl _ _) (Nat.le_refl _) (by simp) ?_; (case hd => rfl); (case hg => rfl); (case hr => first | (go_simp; done) | (go_simp; rfl)); (case hp => exact (Reps.c5 (show Kd.M k75 _ _ _ (⟨(rd_T77 l0 x4_1).f1.f0, (rd_T77 l0 x4_1).f1.f1, (rd_T77 l0 x4_1).f1.f2, (rd_T77 l0 x4_1).f1.f3, (rd_T77 l0 x4_1).f1.f4⟩ : S75) [.int .i64 ((rd_T77 l0 x4_1).f1.f0), .int .i64 ((rd_T77 l0 x4_1).f1.f1), .int .i64 ((rd_T77 l0 x4_1).f1.f2), .int .i64 ((rd_T77 l0 x4_1).f1.f3), .int .i64 ((rd_T77 l0 x4_1).f1.f4)] from (k75_mkM _ _ _ (⟨(rd_T77 l0 x4_1).f1.f0, (rd_T77 l0 x4_1).f1.f1, (rd_T77 l0 x4_1).f1.f2, (rd_T77 l0 x4_1).f1.f3, (rd_T77 l0 x4_1).f1.f4⟩ : S75) )) (Reps.none _ _)))
           intro v128 w25 ho26 hb hg_ hnew_
           clear hg_ hnew_
           (first | rw [← Ny127.out] at ho26 | (simp only [Int.reduceToNat] at ho26; rw [← Ny127.out] at ho26))
           have HO129 := mA (Kd.R_lower ho26 (below_size (bT HB)))
           replace HB := mA (below_step (bT HB) hb)
           clear hb ho26
           refine hK.out _ _ ⟨v128, (by rw [ha.out]; exact putSel_upk 9 hb_ rfl rfl rfl), (bT HB), fun _ => (rTR HO129)⟩
          refine steps_cons ?_ ?_
          ·
           rintro b a w' ⟨v128, ha, Q_HB, Q_HO129⟩ hb_ hon hoff
           refine ⟨_, rfl, fun K hK => ?_⟩
           have e29 : a.tmps[29]? = some (v128) := by rw [ha]; exact putSel_on (e := (14, 29, v128)) 9 rfl rfl (hon 14 (by kernel_rfl)) rfl
           replace ha := mA ha
           have HB := mA Q_HB
           have HO129 := mA (Q_HO129 (hon 14 (by kernel_rfl)))
           obtain ⟨Ao29, co29, eo29⟩ := Kd.R_slice HO129.out
           (first | subst eo29 | (injection eo29 with f1_ f2_ f3_; have f4_ := f1_.symm; have f5_ := f3_.symm; clear f1_ f2_ f3_; subst f4_; subst f5_))
           refine goes_ Try.func43 (by kernel_rfl) rfl #[.slice Ao29 y127.length co29] (by rfl) rfl rfl (by first | (simp only [List.map_toArray, List.map_cons, List.map_nil, Act.eval, Array.getD_eq_getD_getElem?, Option.getD_some, e29]; done) | (simp only [List.map_toArray, List.map_cons, List.map_nil, Act.eval, Array.getD_eq_getD_getElem?, Option.getD_some, e29]; rfl)) ?_
           with_reducible refine (spec_FormatGroups.calls k1 _ _ y127 t130 _ ?side1 ?side2 A22.out).mono ?_
           (case side1 => exact cT ((Kd.R_reads' HO129.out).2.2))
           (case side2 => exact (Kd.R_reads' HO129.out).2.1)
           rintro e w30 ⟨rfl, hb⟩
           refine ⟨_, rfl, ?_⟩
           replace HO129 := rBR HO129 hb
           replace HB := mA (below_step (bT HB) hb)
           (try clear hb)
           (try clear hb2)
           (try clear hk)
           (try clear hi)
           refine hK.out _ _ ⟨.slice Ao29 y127.length co29, (by rw [ha.out]; exact putSel_upk 10 hb_ rfl rfl rfl), (bT HB), fun _ => (rTR HO129)⟩
          refine steps_cons ?_ ?_
          ·
           rintro b a w' ⟨v128, ha, Q_HB, Q_HO129⟩ hb_ hon hoff
           refine ⟨_, rfl, fun K hK => ?_⟩
           have e23 : a.tmps[23]? = some (.string ((x3_1 ++ t125) ++ (⟨#[47]⟩ : ByteArray))) := by rw [ha]; exact putSel_on (e := (8, 23, .string ((x3_1 ++ t125) ++ (⟨#[47]⟩ : ByteArray)))) 5 rfl rfl (hon 8 (by kernel_rfl)) rfl
           have e30 : a.tmps[30]? = some (.string t130) := by rw [ha]; exact putSel_on (e := (15, 30, .string t130)) 10 rfl rfl (hon 15 (by kernel_rfl)) rfl
           replace ha := mA ha
           have HB := mA Q_HB
           refine value_ (w1 := w') (v := .string (((x3_1 ++ t125) ++ (⟨#[47]⟩ : ByteArray)) ++ t130)) (by rfl) rfl ?_ ?_
           ·
            go_simp
            (try simp only [i64_w])
            try rfl
           refine hK.out _ _ ⟨v128, (by rw [ha.out]; exact putSel_upk 11 hb_ rfl rfl rfl), Q_HB, Q_HO129⟩
          refine steps_cons ?_ ?_
          ·
           rintro b a w' ⟨v128, ha, Q_HB, Q_HO129⟩ hb_ hon hoff
           refine ⟨_, rfl, fun K hK => ?_⟩
           have e31 : a.tmps[31]? = some (.string (((x3_1 ++ t125) ++ (⟨#[47]⟩ : ByteArray)) ++ t130)) := by rw [ha]; exact putSel_on (e := (16, 31, .string (((x3_1 ++ t125) ++ (⟨#[47]⟩ : ByteArray)) ++ t130))) 11 rfl rfl (hon 16 (by kernel_rfl)) rfl
           replace ha := mA ha
           have HB := mA Q_HB
           refine value_ (w1 := w') (v := .string (((x3_1 ++ t125) ++ (⟨#[47]⟩ : ByteArray)) ++ t130)) (by rfl) rfl ?_ ?_
           ·
            go_simp
            (try simp only [i64_w])
            try rfl
           refine hK.out _ _ ⟨v128, (by rw [ha.out]; exact putSel_upk 12 hb_ rfl rfl rfl), Q_HB, Q_HO129⟩
          exact steps_nil
         rintro b a w30 hall ⟨v128, ha, Q_HB, Q_HO129⟩
         clear HB
         have hb3_ := hall 3 (by kernel_rfl)
         have hb4_ := hall 4 (by kernel_rfl)
         have hb5_ := hall 5 (by kernel_rfl)
         have hb6_ := hall 6 (by kernel_rfl)
         have hb7_ := hall 7 (by kernel_rfl)
         have hb8_ := hall 8 (by kernel_rfl)
         have hb11_ := hall 11 (by kernel_rfl)
         have hb12_ := hall 12 (by kernel_rfl)
         have hb13_ := hall 13 (by kernel_rfl)
         have hb14_ := hall 14 (by kernel_rfl)
         have hb15_ := hall 15 (by kernel_rfl)
         have hb16_ := hall 16 (by kernel_rfl)
         have hb17_ := hall 17 (by kernel_rfl)
         subst ha
         simp only [putSel, hb3_, hb4_, hb5_, hb6_, hb7_, hb8_, hb11_, hb12_, hb13_, hb14_, hb15_, hb16_, hb17_, if_true, Act.put, List.setIfInBounds_toArray, List.set_cons_zero, List.set_cons_succ]
         have HB := mA Q_HB
         clear Q_HB
         clear Q_HO129
         clear hall hb3_ hb4_ hb5_ hb6_ hb7_ hb8_ hb11_ hb12_ hb13_ hb14_ hb15_ hb16_ hb17_
         try go_wp2
         go_roundg k1
         case measure => have := HK1.out; omega
         case rel => exact ⟨(((x3_1 ++ t125) ++ (⟨#[47]⟩ : ByteArray)) ++ t130), (wrap64 (x4_1 + 1)), sT, sT, H', ⟨by have := HK1.out; omega⟩, ⟨bT HB⟩⟩
        ·
         rw [if_neg c23] at H
         exact absurd H (by simp)
       ·
        rw [if_neg c21] at H
        exact absurd H (by simp)
      ·
       rw [if_neg c20] at H
       exact absurd H (by simp)
     ·
      rw [if_neg c18] at H
      exact absurd H (by simp)
   ·
    rw [if_neg c2] at H
    have c2b0 : decide (x4_1 < (l0.length : Int)) = false := decide_eq_false c2
    clear c2
    obtain rfl := Option.some.inj H
    go_wp2
    go_ret
    exact ⟨eT, bT HB⟩

/-! ### laws_toGroup: function 83 -/
def laws_toGroup.f (a0_0 : Int) (a0_1 : Int) (a0_2 : Int) (a0_3 : Int) (a0_4 : Int) : Option (Int × Int × Int × Int × Int) := some (a0_0, a0_1, a0_2, a0_3, a0_4)
set_option maxHeartbeats 8000000 in
set_option maxRecDepth 100000 in
theorem laws_toGroup.calls (a0_0 : Int) (a0_1 : Int) (a0_2 : Int) (a0_3 : Int) (a0_4 : Int) (r1 : Int) (r2 : Int) (r3 : Int) (r4 : Int) (r5 : Int) (w : World) (h : laws_toGroup.f a0_0 a0_1 a0_2 a0_3 a0_4 = some (r1, r2, r3, r4, r5)) :
  Calls Try.prog 83 #[.agg #[.int .i64 a0_0, .int .i64 a0_1, .int .i64 a0_2, .int .i64 a0_3, .int .i64 a0_4]] w fun e w' => e = .returned (.agg #[.int .i64 r1, .int .i64 r2, .int .i64 r3, .int .i64 r4, .int .i64 r5]) ∧ Below w.heap.size w w' := by
 have hu81 := Try.underlying81
 have hu75 := Try.underlying75
 have HB := mA (Below.refl w.heap.size w)
 have H : (some (a0_0, a0_1, a0_2, a0_3, a0_4)) = some (r1, r2, r3, r4, r5) := h
 clear h
 simp only [Option.some.injEq, Prod.mk.injEq] at H
 obtain ⟨rfl, rfl, rfl, rfl, rfl⟩ := H
 go_enter Try.func83, Try.ntmps83
 go_wp2_with (first | ((with_reducible refine gate_dst (N := 1) rfl ?_); refine boxT 1 #[.int .i64 a0_0, .int .i64 a0_1, .int .i64 a0_2, .int .i64 a0_3, .int .i64 a0_4] 81 ?_; intro gb131 hg w2 hbox hb; have BK131 := mA (hbox); have GW131 := mA ((by rw [hg]; exact (below_size (bT HB)) : w.heap.size ≤ gb131)); have GE131 := GW131; replace HB := mA (below_step (bT HB) hb); clear hb hbox hg) | ((with_reducible refine gate_dst (N := 2) rfl ?_); refine boxT 2 #[.int .i64 0, .int .i64 0, .int .i64 0, .int .i64 0, .int .i64 0] 75 ?_; intro gb132 hg w3 hbox hb; have BK132 := mA (hbox); have GW132 := mA ((by rw [hg]; exact (below_size (bT1 HB GE131)) : w.heap.size ≤ gb132)); have GE132 := GW132; replace HB := mA (below_step (bT1 HB GE131) hb); have NB131_132 : Aside0 (gb131 ≠ gb132) := nL BK131 hg; have NB132_131 : Aside0 (gb132 ≠ gb131) := nG BK131 hg; replace BK131 := kB BK131 hb; clear hb hbox hg) | ((with_reducible refine gate_dst (N := 3) rfl ?_); refine boxT 3 #[.int .i64 0, .int .i64 0, .int .i64 0, .int .i64 0, .int .i64 0] 75 ?_; intro gb133 hg w4 hbox hb; have BK133 := mA (hbox); have GW133 := mA ((by rw [hg]; exact (below_size (bT2 HB GE131 GE132)) : w.heap.size ≤ gb133)); have GE133 := GW133; replace HB := mA (below_step (bT2 HB GE131 GE132) hb); have NB131_133 : Aside0 (gb131 ≠ gb133) := nL BK131 hg; have NB133_131 : Aside0 (gb133 ≠ gb131) := nG BK131 hg; replace BK131 := kB BK131 hb; have NB132_133 : Aside0 (gb132 ≠ gb133) := nL BK132 hg; have NB133_132 : Aside0 (gb133 ≠ gb132) := nG BK132 hg; replace BK132 := kB BK132 hb; clear hb hbox hg; have hnb5 := NB131_132.out; have hnc5 := NB132_131.out; have hnb6 := NB131_133.out; have hnc6 := NB133_131.out; obtain ⟨hcz7_0, hcz7_1, hcz7_2, hcz7_3, hcz7_4, hfz7_0, hfz7_1, hfz7_2, hfz7_3, hfz7_4⟩ := blk5 BK131.out; have hnb8 := NB133_132.out; have hnc8 := NB132_133.out; obtain ⟨hcz9_0, hcz9_1, hcz9_2, hcz9_3, hcz9_4, hfz9_0, hfz9_1, hfz9_2, hfz9_3, hfz9_4⟩ := blk5 BK133.out; obtain ⟨hcz10_0, hcz10_1, hcz10_2, hcz10_3, hcz10_4, hfz10_0, hfz10_1, hfz10_2, hfz10_3, hfz10_4⟩ := blk5 BK132.out))
 refine bodyPost_ret (results_cell_row rfl _ _ gb132 75 #[.int .i64 a0_0, .int .i64 a0_1, .int .i64 a0_2, .int .i64 a0_3, .int .i64 a0_4] (0, 0) _ rfl (by (with_reducible repeat (first | refine blk_drewN ?_ _ | refine blk_drew ?_ | refine blk_alloc ?_ _)); refine blk_put (cs := #[.int .i64 a0_0, .int .i64 a0_1, .int .i64 a0_2, .int .i64 a0_3, .int .i64 0]) ?_ 4 _ rfl; (with_reducible repeat (first | refine blk_drewN ?_ _ | refine blk_drew ?_ | refine blk_alloc ?_ _)); refine blk_put (cs := #[.int .i64 a0_0, .int .i64 a0_1, .int .i64 a0_2, .int .i64 0, .int .i64 0]) ?_ 3 _ rfl; (with_reducible repeat (first | refine blk_drewN ?_ _ | refine blk_drew ?_ | refine blk_alloc ?_ _)); refine blk_put (cs := #[.int .i64 a0_0, .int .i64 a0_1, .int .i64 0, .int .i64 0, .int .i64 0]) ?_ 2 _ rfl; (with_reducible repeat (first | refine blk_drewN ?_ _ | refine blk_drew ?_ | refine blk_alloc ?_ _)); refine blk_put (cs := #[.int .i64 a0_0, .int .i64 0, .int .i64 0, .int .i64 0, .int .i64 0]) ?_ 1 _ rfl; (with_reducible repeat (first | refine blk_drewN ?_ _ | refine blk_drew ?_ | refine blk_alloc ?_ _)); refine blk_put (cs := #[.int .i64 0, .int .i64 0, .int .i64 0, .int .i64 0, .int .i64 0]) ?_ 0 _ rfl; (with_reducible repeat (first | refine blk_drewN ?_ _ | refine blk_drew ?_ | refine blk_alloc ?_ _)); refine blk_far ?_ NB132_133.out _; (with_reducible repeat (first | refine blk_drewN ?_ _ | refine blk_drew ?_ | refine blk_alloc ?_ _)); refine blk_far ?_ NB132_133.out _; (with_reducible repeat (first | refine blk_drewN ?_ _ | refine blk_drew ?_ | refine blk_alloc ?_ _)); refine blk_far ?_ NB132_133.out _; (with_reducible repeat (first | refine blk_drewN ?_ _ | refine blk_drew ?_ | refine blk_alloc ?_ _)); refine blk_far ?_ NB132_133.out _; (with_reducible repeat (first | refine blk_drewN ?_ _ | refine blk_drew ?_ | refine blk_alloc ?_ _)); refine blk_far ?_ NB132_133.out _; (with_reducible repeat (first | refine blk_drewN ?_ _ | refine blk_drew ?_ | refine blk_alloc ?_ _)); exact BK132.out) Try.underlying75 rfl (by kernel_rfl)) rfl ?_
 exact ⟨eT, bT3 HB GE131 GE132 GE133⟩

/-! ### laws_toRollupRow: function 44 -/
def laws_toRollupRow.f (a0_0 : Int) (a0_1 : Int) (a0_2 : Int) (a0_3 : Int) (a0_4 : Int) (a0_5 : Int) : Option (Int × Int × Int × Int × Int × Int) := (laws_toGroup.f a0_1 a0_2 a0_3 a0_4 a0_5).bind fun bt137 => (some (a0_0, bt137.1, bt137.2.1, bt137.2.2.1, bt137.2.2.2.1, bt137.2.2.2.2))
set_option maxHeartbeats 8000000 in
set_option maxRecDepth 100000 in
theorem laws_toRollupRow.calls (a0_0 : Int) (a0_1 : Int) (a0_2 : Int) (a0_3 : Int) (a0_4 : Int) (a0_5 : Int) (r1 : Int) (r2 : Int) (r3 : Int) (r4 : Int) (r5 : Int) (r6 : Int) (w : World) (h : laws_toRollupRow.f a0_0 a0_1 a0_2 a0_3 a0_4 a0_5 = some (r1, r2, r3, r4, r5, r6)) :
  Calls Try.prog 44 #[.agg #[.int .i64 a0_0, .int .i64 a0_1, .int .i64 a0_2, .int .i64 a0_3, .int .i64 a0_4, .int .i64 a0_5]] w fun e w' => e = .returned (.agg #[.int .i64 r1, .int .i64 r2, .int .i64 r3, .int .i64 r4, .int .i64 r5, .int .i64 r6]) ∧ Below w.heap.size w w' := by
 have hu83 := Try.underlying83
 have hu77 := Try.underlying77
 have hu81 := Try.underlying81
 have hu75 := Try.underlying75
 have HB := mA (Below.refl w.heap.size w)
 have H : ((laws_toGroup.f a0_1 a0_2 a0_3 a0_4 a0_5).bind fun bt137 => (some (a0_0, bt137.1, bt137.2.1, bt137.2.2.1, bt137.2.2.2.1, bt137.2.2.2.2))) = some (r1, r2, r3, r4, r5, r6) := h
 clear h
 obtain ⟨⟨t137, t138, t139, t140, t141⟩, A2, H⟩ := Option.bind_eq_some_iff.mp H
 replace A2 := mA A2
 try dsimp only at H
 simp only [Option.some.injEq, Prod.mk.injEq] at H
 obtain ⟨rfl, rfl, rfl, rfl, rfl, rfl⟩ := H
 go_enter Try.func44, Try.ntmps44
 go_wp2_with (first | ((with_reducible refine gate_dst (N := 1) rfl ?_); refine boxT 1 #[.int .i64 a0_0, .int .i64 a0_1, .int .i64 a0_2, .int .i64 a0_3, .int .i64 a0_4, .int .i64 a0_5] 83 ?_; intro gb134 hg w3 hbox hb; have BK134 := mA (hbox); have GW134 := mA ((by rw [hg]; exact (below_size (bT HB)) : w.heap.size ≤ gb134)); have GE134 := GW134; replace HB := mA (below_step (bT HB) hb); clear hb hbox hg) | ((with_reducible refine gate_dst (N := 2) rfl ?_); refine boxT 2 #[.int .i64 0, .int .i64 0, .int .i64 0, .int .i64 0, .int .i64 0, .int .i64 0] 77 ?_; intro gb135 hg w4 hbox hb; have BK135 := mA (hbox); have GW135 := mA ((by rw [hg]; exact (below_size (bT1 HB GE134)) : w.heap.size ≤ gb135)); have GE135 := GW135; replace HB := mA (below_step (bT1 HB GE134) hb); have NB134_135 : Aside0 (gb134 ≠ gb135) := nL BK134 hg; have NB135_134 : Aside0 (gb135 ≠ gb134) := nG BK134 hg; replace BK134 := kB BK134 hb; clear hb hbox hg) | ((with_reducible refine gate_dst (N := 3) rfl ?_); refine boxT 3 #[.int .i64 0, .int .i64 0, .int .i64 0, .int .i64 0, .int .i64 0, .int .i64 0] 77 ?_; intro gb136 hg w5 hbox hb; have BK136 := mA (hbox); have GW136 := mA ((by rw [hg]; exact (below_size (bT2 HB GE134 GE135)) : w.heap.size ≤ gb136)); have GE136 := GW136; replace HB := mA (below_step (bT2 HB GE134 GE135) hb); have NB134_136 : Aside0 (gb134 ≠ gb136) := nL BK134 hg; have NB136_134 : Aside0 (gb136 ≠ gb134) := nG BK134 hg; replace BK134 := kB BK134 hb; have NB135_136 : Aside0 (gb135 ≠ gb136) := nL BK135 hg; have NB136_135 : Aside0 (gb136 ≠ gb135) := nG BK135 hg; replace BK135 := kB BK135 hb; clear hb hbox hg; have hnb6 := NB134_135.out; have hnc6 := NB135_134.out; have hnb7 := NB134_136.out; have hnc7 := NB136_134.out; obtain ⟨hcz8_0, hcz8_1, hcz8_2, hcz8_3, hcz8_4, hcz8_5, hfz8_0, hfz8_1, hfz8_2, hfz8_3, hfz8_4, hfz8_5⟩ := blk6 BK134.out; have hnb9 := NB136_135.out; have hnc9 := NB135_136.out; obtain ⟨hcz10_0, hcz10_1, hcz10_2, hcz10_3, hcz10_4, hcz10_5, hfz10_0, hfz10_1, hfz10_2, hfz10_3, hfz10_4, hfz10_5⟩ := blk6 BK136.out) | ((with_reducible refine gate_callee (f := 83) rfl ?_); refine goesT (some 9) Try.func83 #[.agg #[.int .i64 a0_1, .int .i64 a0_2, .int .i64 a0_3, .int .i64 a0_4, .int .i64 a0_5]] ?_; (with_reducible refine (laws_toGroup.calls a0_1 a0_2 a0_3 a0_4 a0_5 t137 t138 t139 t140 t141 _ A2.out).mono ?_); rintro e w11 ⟨rfl, hb⟩; refine ⟨_, rfl, ?_⟩; replace BK135 := mA (blk_below (g := gb135) (o := .cells #[.int .i64 0, .int .i64 0, .int .i64 0, .int .i64 0, .int .i64 0, .int .i64 0] 77 (0, 0)) (by (with_reducible repeat (first | refine blk_drewN ?_ _ | refine blk_drew ?_ | refine blk_alloc ?_ _)); refine blk_far ?_ NB135_136.out _; (with_reducible repeat (first | refine blk_drewN ?_ _ | refine blk_drew ?_ | refine blk_alloc ?_ _)); exact BK135.out) hb); replace BK136 := mA (blk_below (g := gb136) (o := .cells #[.int .i64 a0_0, .int .i64 0, .int .i64 0, .int .i64 0, .int .i64 0, .int .i64 0] 77 (0, 0)) (by (with_reducible repeat (first | refine blk_drewN ?_ _ | refine blk_drew ?_ | refine blk_alloc ?_ _)); refine blk_put (cs := #[.int .i64 0, .int .i64 0, .int .i64 0, .int .i64 0, .int .i64 0, .int .i64 0]) ?_ 0 _ rfl; (with_reducible repeat (first | refine blk_drewN ?_ _ | refine blk_drew ?_ | refine blk_alloc ?_ _)); exact BK136.out) hb); replace HB := mA (below_step (bT3 HB GE134 GE135 GE136) hb); (try clear hb); obtain ⟨hcz12_0, hcz12_1, hcz12_2, hcz12_3, hcz12_4, hcz12_5, hfz12_0, hfz12_1, hfz12_2, hfz12_3, hfz12_4, hfz12_5⟩ := blk6 BK136.out; obtain ⟨hcz13_0, hcz13_1, hcz13_2, hcz13_3, hcz13_4, hcz13_5, hfz13_0, hfz13_1, hfz13_2, hfz13_3, hfz13_4, hfz13_5⟩ := blk6 BK135.out))
 refine bodyPost_ret (results_cell_row rfl _ _ gb135 77 #[.int .i64 a0_0, .int .i64 t137, .int .i64 t138, .int .i64 t139, .int .i64 t140, .int .i64 t141] (0, 0) _ rfl (by (with_reducible repeat (first | refine blk_drewN ?_ _ | refine blk_drew ?_ | refine blk_alloc ?_ _)); refine blk_put (cs := #[.int .i64 a0_0, .int .i64 t137, .int .i64 t138, .int .i64 t139, .int .i64 t140, .int .i64 0]) ?_ 5 _ rfl; (with_reducible repeat (first | refine blk_drewN ?_ _ | refine blk_drew ?_ | refine blk_alloc ?_ _)); refine blk_put (cs := #[.int .i64 a0_0, .int .i64 t137, .int .i64 t138, .int .i64 t139, .int .i64 0, .int .i64 0]) ?_ 4 _ rfl; (with_reducible repeat (first | refine blk_drewN ?_ _ | refine blk_drew ?_ | refine blk_alloc ?_ _)); refine blk_put (cs := #[.int .i64 a0_0, .int .i64 t137, .int .i64 t138, .int .i64 0, .int .i64 0, .int .i64 0]) ?_ 3 _ rfl; (with_reducible repeat (first | refine blk_drewN ?_ _ | refine blk_drew ?_ | refine blk_alloc ?_ _)); refine blk_put (cs := #[.int .i64 a0_0, .int .i64 t137, .int .i64 0, .int .i64 0, .int .i64 0, .int .i64 0]) ?_ 2 _ rfl; (with_reducible repeat (first | refine blk_drewN ?_ _ | refine blk_drew ?_ | refine blk_alloc ?_ _)); refine blk_put (cs := #[.int .i64 a0_0, .int .i64 0, .int .i64 0, .int .i64 0, .int .i64 0, .int .i64 0]) ?_ 1 _ rfl; (with_reducible repeat (first | refine blk_drewN ?_ _ | refine blk_drew ?_ | refine blk_alloc ?_ _)); refine blk_put (cs := #[.int .i64 0, .int .i64 0, .int .i64 0, .int .i64 0, .int .i64 0, .int .i64 0]) ?_ 0 _ rfl; (with_reducible repeat (first | refine blk_drewN ?_ _ | refine blk_drew ?_ | refine blk_alloc ?_ _)); refine blk_far ?_ NB135_136.out _; (with_reducible repeat (first | refine blk_drewN ?_ _ | refine blk_drew ?_ | refine blk_alloc ?_ _)); refine blk_far ?_ NB135_136.out _; (with_reducible repeat (first | refine blk_drewN ?_ _ | refine blk_drew ?_ | refine blk_alloc ?_ _)); refine blk_far ?_ NB135_136.out _; (with_reducible repeat (first | refine blk_drewN ?_ _ | refine blk_drew ?_ | refine blk_alloc ?_ _)); refine blk_far ?_ NB135_136.out _; (with_reducible repeat (first | refine blk_drewN ?_ _ | refine blk_drew ?_ | refine blk_alloc ?_ _)); refine blk_far ?_ NB135_136.out _; (with_reducible repeat (first | refine blk_drewN ?_ _ | refine blk_drew ?_ | refine blk_alloc ?_ _)); exact BK135.out) Try.underlying77 rfl (by kernel_rfl)) rfl ?_
 exact ⟨eT, bT3 HB GE134 GE135 GE136⟩

/-! ### laws_toRollupRowS: function 12 -/
def laws_toRollupRowS.l0 : Nat → List (S83) → List (S77) → Int → Option ((List (S77)))
 | 0, _, _, _ => none
 | k + 1, x0, x3, x4 => if x4 < (x0.length : Int) then (if 0 ≤ x4 then ((laws_toRollupRow.f ((rd_T83 x0 x4).f0) ((rd_T83 x0 x4).f1.f0) ((rd_T83 x0 x4).f1.f1) ((rd_T83 x0 x4).f1.f2) ((rd_T83 x0 x4).f1.f3) ((rd_T83 x0 x4).f1.f4)).bind fun bt146 => (if x4 < (x3.length : Int) then (laws_toRollupRowS.l0 k x0 (x3.set (x4 : Int).toNat (⟨bt146.1, (⟨bt146.2.1, bt146.2.2.1, bt146.2.2.2.1, bt146.2.2.2.2.1, bt146.2.2.2.2.2⟩ : S75)⟩ : S77)) (wrap64 (x4 + 1))) else (none))) else (none)) else (some x3)
def laws_toRollupRowS.f (k : Nat) (l0 : List (S83)) : Option ((List (S77))) := if 0 ≤ (l0.length : Int) then (if ((l0.length : Int) : Int).toNat ≤ 5864062014805 then (laws_toRollupRowS.l0 k l0 (List.replicate ((l0.length : Int) : Int).toNat z77) 0) else (none)) else (none)
theorem laws_toRollupRowS.mono_l : ∀ k, (∀ y0 y1 y2, LeO (laws_toRollupRowS.l0 k y0 y1 y2) (laws_toRollupRowS.l0 (k + 1) y0 y1 y2))
 | 0 => fun _ _ _ r h => by simp [laws_toRollupRowS.l0] at h
 | k + 1 => by
  have ih0 := laws_toRollupRowS.mono_l k
  ·
   intro y0 y1 y2
   unfold laws_toRollupRowS.l0
   repeat' first
   | (with_reducible exact ih0 _ _ _)
   | (with_reducible exact LeO.refl _)
   | (with_reducible exact LeO.none _)
   | (with_reducible refine LeO.ite ?_ ?_)
   | (with_reducible refine LeO.bind ?_ (fun _ => ?_))
   | exact ih0 _ _ _
   | exact LeO.none _
   | refine LeO.ite ?_ ?_
   | refine LeO.bind ?_ (fun _ => ?_)
theorem laws_toRollupRowS.mono : ∀ a0 k, LeO (laws_toRollupRowS.f k a0) (laws_toRollupRowS.f (k + 1) a0) := by
 intro a0 k
 have ih0 := laws_toRollupRowS.mono_l k
 unfold laws_toRollupRowS.f
 repeat' first
   | (with_reducible exact ih0 _ _ _)
   | (with_reducible exact LeO.refl _)
   | (with_reducible exact LeO.none _)
   | (with_reducible refine LeO.ite ?_ ?_)
   | (with_reducible refine LeO.bind ?_ (fun _ => ?_))
   | exact ih0 _ _ _
   | exact LeO.none _
   | refine LeO.ite ?_ ?_
   | refine LeO.bind ?_ (fun _ => ?_)
set_option maxHeartbeats 8000000 in
set_option maxRecDepth 100000 in
theorem laws_toRollupRowS.calls (k : Nat) (A0 : Option Addr) (c0 : Nat) (l0 : List (S83)) (r : List (S77)) (w : World) (hr0 : Kd.C k83 w A0 l0.length l0) (hc0 : l0.length ≤ c0) (h : laws_toRollupRowS.f k l0 = some r) :
  Calls Try.prog 12 #[.slice A0 l0.length c0] w fun e w' => ∃ v0_ : Value, e = .returned (v0_) ∧ Kd.R k77 77 w' w.heap.size (fun _ => True) v0_ r ∧ Below w.heap.size w w' := by
 have hu83 := Try.underlying83
 have hu77 := Try.underlying77
 have HR0 := mA hr0
 have HC0 := mA hc0
 clear hr0 hc0
 have HB := mA (Below.refl w.heap.size w)
 have H : (if 0 ≤ (l0.length : Int) then (if ((l0.length : Int) : Int).toNat ≤ 5864062014805 then (laws_toRollupRowS.l0 k l0 (List.replicate ((l0.length : Int) : Int).toNat z77) 0) else (none)) else (none)) = some r := h
 clear h
 by_cases c2 : 0 ≤ (l0.length : Int)
 ·
  rw [if_pos c2] at H
  have c2b0 := eq_true c2
  have c2b1 : decide (0 ≤ (l0.length : Int)) = true := decide_eq_true c2
  clear c2
  by_cases c3 : ((l0.length : Int) : Int).toNat ≤ 5864062014805
  ·
   rw [if_pos c3] at H
   have c3b0 := eq_true c3
   have c3b1 : decide (((l0.length : Int) : Int).toNat ≤ 5864062014805) = true := decide_eq_true c3
   clear c3
   obtain ⟨y142, hy142⟩ : ∃ y_ : List (S77), y_ = (List.replicate ((l0.length : Int) : Int).toNat z77) := ⟨_, rfl⟩
   replace H : (laws_toRollupRowS.l0 k l0 y142 0) = some r := by first | (rw [hy142]; with_reducible exact H) | (have H2_ := (Option.bind_some _ _).symm.trans H; rw [hy142]; with_reducible exact H2_) | (have H2_ := (Option.bind_some _ _).symm.trans H; with_reducible exact H2_) | with_reducible exact H | (rw [hy142]; exact H) | exact H
   have Ny142 := mA hy142
   clear hy142
   have H' := mA H
   clear H
   go_enter Try.func12, Try.ntmps12
   go_wp2_with (first | ((with_reducible refine gate_dst (N := 7) rfl ?_); refine Kd.R_make k77 _ 77 rfl (N := 7) rfl 25 _ _ rfl (l0.length : Int) rfl rfl Try.underlying25 (.agg #[(.int .i64 0), (.int .i64 0), (.int .i64 0), (.int .i64 0), (.int .i64 0), (.int .i64 0)]) 48 info77 rfl (by decide) (by omega) z77 (ok := fun _ => True) (okp := fun _ => True) (k77_mkM _ _ _ z77 ) (fun _ hk => hk) trivial (of_decide_eq_true aT) (Nat.le_trans (Nat.mul_le_mul_right _ (of_decide_eq_true aT : (l0.length : Int).toNat ≤ 5864062014805)) (by omega)) (Below.refl _ _) (Nat.le_refl _) ?_; intro v143 w4 ho5 hb hg_ hnew_; clear hg_ hnew_; (first | rw [← Ny142.out] at ho5 | (simp only [Int.reduceToNat] at ho5; rw [← Ny142.out] at ho5)); have HO144 := mA (Kd.R_lower ho5 (below_size (bT HB))); replace HB := mA (below_step (bT HB) hb); clear hb ho5))
   go_loopg [4] k (fun kq v4 w' => ∃ (x3_1 : List (S77)) (x4_1 : Int), v4 = .int .i64 x4_1 ∧ Aside0 (laws_toRollupRowS.l0 kq l0 x3_1 x4_1 = some r) ∧ Aside0 (kq ≤ k) ∧ Aside0 (Kd.R k77 77 w' w.heap.size (fun _ => True) v143 x3_1) ∧ Aside0 (Below w.heap.size w w'))
   case atStart => exact ⟨(y142), (0), sT, H', ⟨Nat.le_refl _⟩, ⟨rTR HO144⟩, ⟨bT HB⟩⟩
   case round =>
    clear H'
    try clear c1
    try clear c2
    try clear c2b0
    try clear c2b1
    try clear p2
    try clear c3
    try clear c3b0
    try clear c3b1
    obtain ⟨x3_1, x4_1, rfl, HA, HK1, HO_3, HB⟩ := hrel
    cases gk with
    | zero => exact absurd HA.out (by simp [laws_toRollupRowS.l0])
    | succ k1 =>
     have H := HA.out
     clear HA
     simp only [laws_toRollupRowS.l0] at H
     by_cases c6 : x4_1 < (l0.length : Int)
     ·
      rw [if_pos c6] at H
      have c6b0 : decide (x4_1 < (l0.length : Int)) = true := decide_eq_true c6
      clear c6
      by_cases c7 : 0 ≤ x4_1
      ·
       rw [if_pos c7] at H
       have c7b0 : decide (0 ≤ x4_1) = true := decide_eq_true c7
       clear c7
       obtain ⟨⟨t146, t147, t148, t149, t150, t151⟩, A8, H⟩ := Option.bind_eq_some_iff.mp H
       replace A8 := mA A8
       try dsimp only at H
       by_cases c9 : x4_1 < (x3_1.length : Int)
       ·
        rw [if_pos c9] at H
        have c9b0 : decide (x4_1 < (x3_1.length : Int)) = true := decide_eq_true c9
        clear c9
        obtain ⟨y152, hy152⟩ : ∃ y_ : List (S77), y_ = (x3_1.set (x4_1 : Int).toNat (⟨t146, (⟨t147, t148, t149, t150, t151⟩ : S75)⟩ : S77)) := ⟨_, rfl⟩
        replace H : (laws_toRollupRowS.l0 k1 l0 y152 (wrap64 (x4_1 + 1))) = some r := by first | (rw [hy152]; with_reducible exact H) | (have H2_ := (Option.bind_some _ _).symm.trans H; rw [hy152]; with_reducible exact H2_) | (have H2_ := (Option.bind_some _ _).symm.trans H; with_reducible exact H2_) | with_reducible exact H | (rw [hy152]; exact H) | exact H
        have Ny152 := mA hy152
        clear hy152
        have H' := mA H
        clear H
        have p145 : 0 ≤ (x4_1 : Int) := of_decide_eq_true aT
        have q145 : x4_1 < (l0.length : Int) := of_decide_eq_true aT
        obtain ⟨ad145, e145, hx145_0, hx145_1, hx145_2, hx145_3, hx145_4, hx145_5⟩ := at_T83 HR0.out x4_1 p145 q145
        cases e145
        replace hx145_0 := (HB.out.cell (World.block_lt_of_cell? w _ hx145_0)).trans hx145_0
        replace hx145_1 := (HB.out.cell (World.block_lt_of_cell? w _ hx145_1)).trans hx145_1
        replace hx145_2 := (HB.out.cell (World.block_lt_of_cell? w _ hx145_2)).trans hx145_2
        replace hx145_3 := (HB.out.cell (World.block_lt_of_cell? w _ hx145_3)).trans hx145_3
        replace hx145_4 := (HB.out.cell (World.block_lt_of_cell? w _ hx145_4)).trans hx145_4
        replace hx145_5 := (HB.out.cell (World.block_lt_of_cell? w _ hx145_5)).trans hx145_5
        replace p145 := eq_true p145
        replace q145 := eq_true q145
        go_wp2_with (first | ((with_reducible refine gate_callee (f := 44) rfl ?_); refine goesT (some 20) Try.func44 #[.agg #[.int .i64 ((rd_T83 l0 x4_1).f0), .int .i64 ((rd_T83 l0 x4_1).f1.f0), .int .i64 ((rd_T83 l0 x4_1).f1.f1), .int .i64 ((rd_T83 l0 x4_1).f1.f2), .int .i64 ((rd_T83 l0 x4_1).f1.f3), .int .i64 ((rd_T83 l0 x4_1).f1.f4)]] ?_; (with_reducible refine (laws_toRollupRow.calls ((rd_T83 l0 x4_1).f0) ((rd_T83 l0 x4_1).f1.f0) ((rd_T83 l0 x4_1).f1.f1) ((rd_T83 l0 x4_1).f1.f2) ((rd_T83 l0 x4_1).f1.f3) ((rd_T83 l0 x4_1).f1.f4) t146 t147 t148 t149 t150 t151 _ A8.out).mono ?_); rintro e w11 ⟨rfl, hb⟩; refine ⟨_, rfl, ?_⟩; replace HO_3 := rBR HO_3 hb; replace HB := mA (below_step (bT HB) hb); (try clear hb); (try clear hk); have p10 : 0 ≤ (x4_1 : Int) := of_decide_eq_true aT; have q10 : (x4_1 : Int) < ((x3_1.length : Int) : Int) := of_decide_eq_true aT; obtain ⟨go10, co10, eo10, gb10, gl10, cl10, HG10⟩ := Kd.R_form HO_3.out (by omega); (first | cases eo10 | (injection eo10 with ea_ en_ ec_; (first | subst ea_ | (injection ea_ with ea_; subst ea_)); subst ec_; clear en_)); have GB10 := mA gb10; have GG10 := mA HG10; clear gb10 gl10 HG10; obtain ⟨ce10, hcl10, hM10, hcc10, hfr10⟩ := Kd.R_elem HO_3.out z77 (x4_1 : Int) p10 q10; obtain rfl := k77_openM hM10; have hx10_0 : w11.cell? ⟨go10, (x4_1 : Int).toNat * 6, none⟩ = some (.int .i64 ((rd_T77 x3_1 x4_1).f0)) := hcc10 0 _ rfl; have hx10_1 : w11.cell? ⟨go10, (x4_1 : Int).toNat * 6 + 1, none⟩ = some (.int .i64 ((rd_T77 x3_1 x4_1).f1.f0)) := hcc10 1 _ rfl; have hx10_2 : w11.cell? ⟨go10, (x4_1 : Int).toNat * 6 + 2, none⟩ = some (.int .i64 ((rd_T77 x3_1 x4_1).f1.f1)) := hcc10 2 _ rfl; have hx10_3 : w11.cell? ⟨go10, (x4_1 : Int).toNat * 6 + 3, none⟩ = some (.int .i64 ((rd_T77 x3_1 x4_1).f1.f2)) := hcc10 3 _ rfl; have hx10_4 : w11.cell? ⟨go10, (x4_1 : Int).toNat * 6 + 4, none⟩ = some (.int .i64 ((rd_T77 x3_1 x4_1).f1.f3)) := hcc10 4 _ rfl; have hx10_5 : w11.cell? ⟨go10, (x4_1 : Int).toNat * 6 + 5, none⟩ = some (.int .i64 ((rd_T77 x3_1 x4_1).f1.f4)) := hcc10 5 _ rfl; have hf10_0 : w11.frozen? ⟨go10, (x4_1 : Int).toNat * 6, none⟩ = false := hfr10 0; have hf10_1 : w11.frozen? ⟨go10, (x4_1 : Int).toNat * 6 + 1, none⟩ = false := hfr10 1; have hf10_2 : w11.frozen? ⟨go10, (x4_1 : Int).toNat * 6 + 2, none⟩ = false := hfr10 2; have hf10_3 : w11.frozen? ⟨go10, (x4_1 : Int).toNat * 6 + 3, none⟩ = false := hfr10 3; have hf10_4 : w11.frozen? ⟨go10, (x4_1 : Int).toNat * 6 + 4, none⟩ = false := hfr10 4; have hf10_5 : w11.frozen? ⟨go10, (x4_1 : Int).toNat * 6 + 5, none⟩ = false := hfr10 5; clear hcl10 hcc10 hfr10 hM10; replace p10 := eq_true p10; replace q10 := eq_true q10; have HX12 := mA (show Kd.R k77 77 w11 w.heap.size (fun _ => True) (.slice (some ⟨go10, 0, none⟩) x3_1.length co10) x3_1 from (rTR HO_3)); obtain ⟨ce12, hcl12, hM12, hcc12, hfr12⟩ := Kd.R_elem HX12.out z77 (x4_1 : Int) (of_decide_eq_true aT) (by have h_ : (x4_1 : Int) < ((x3_1.length : Int) : Int) := of_decide_eq_true aT; first | exact h_ | (have e_ := (Kd.R_reads' HO_3.out).1; omega) | simpa using h_); obtain rfl := k77_openM hM12; have HP12 := Kd.R_seg HX12.out (x4_1 : Int) (of_decide_eq_true aT) (by have h_ : (x4_1 : Int) < ((x3_1.length : Int) : Int) := of_decide_eq_true aT; first | exact h_ | (have e_ := (Kd.R_reads' HO_3.out).1; omega) | simpa using h_) (seg := [.int .i64 t146, .int .i64 t147, .int .i64 t148, .int .i64 t149, .int .i64 t150, .int .i64 t151]) (j := 0) hcl12 hcc12 (show 6 ≤ 6 from by decide) (x' := (⟨t146, (⟨t147, t148, t149, t150, t151⟩ : S75)⟩ : S77)) (k77_mkM _ _ _ (⟨t146, (⟨t147, t148, t149, t150, t151⟩ : S75)⟩ : S77) ) (fun _ hk => hk); have hx12_0 := hcc12 0 _ rfl; (try simp only [show (k77).sz = 6 from rfl, Nat.mul_one, Nat.add_zero] at hx12_0); have hf12_0 := hfr12 0; (try simp only [show (k77).sz = 6 from rfl, Nat.mul_one, Nat.add_zero] at hf12_0); have hx12_1 := hcc12 1 _ rfl; (try simp only [show (k77).sz = 6 from rfl, Nat.mul_one, Nat.add_zero] at hx12_1); have hf12_1 := hfr12 1; (try simp only [show (k77).sz = 6 from rfl, Nat.mul_one, Nat.add_zero] at hf12_1); have hx12_2 := hcc12 2 _ rfl; (try simp only [show (k77).sz = 6 from rfl, Nat.mul_one, Nat.add_zero] at hx12_2); have hf12_2 := hfr12 2; (try simp only [show (k77).sz = 6 from rfl, Nat.mul_one, Nat.add_zero] at hf12_2); have hx12_3 := hcc12 3 _ rfl; (try simp only [show (k77).sz = 6 from rfl, Nat.mul_one, Nat.add_zero] at hx12_3); have hf12_3 := hfr12 3; (try simp only [show (k77).sz = 6 from rfl, Nat.mul_one, Nat.add_zero] at hf12_3); have hx12_4 := hcc12 4 _ rfl; (try simp only [show (k77).sz = 6 from rfl, Nat.mul_one, Nat.add_zero] at hx12_4); have hf12_4 := hfr12 4; (try simp only [show (k77).sz = 6 from rfl, Nat.mul_one, Nat.add_zero] at hf12_4); have hx12_5 := hcc12 5 _ rfl; (try simp only [show (k77).sz = 6 from rfl, Nat.mul_one, Nat.add_zero] at hx12_5); have hf12_5 := hfr12 5; (try simp only [show (k77).sz = 6 from rfl, Nat.mul_one, Nat.add_zero] at hf12_5); clear hcl12 hcc12 hfr12 hM12) | ((with_reducible refine gate_store (t := 77) (p := 21) rfl ?_); refine store_event (t := 77) (p := 21) (v := ?vo_w13) (w1 := ((((((w11.setCell ⟨go10, (x4_1 : Int).toNat * 6, none⟩ (.int .i64 t146)).setCell ⟨go10, (x4_1 : Int).toNat * 6 + 1, none⟩ (.int .i64 t147)).setCell ⟨go10, (x4_1 : Int).toNat * 6 + 2, none⟩ (.int .i64 t148)).setCell ⟨go10, (x4_1 : Int).toNat * 6 + 3, none⟩ (.int .i64 t149)).setCell ⟨go10, (x4_1 : Int).toNat * 6 + 4, none⟩ (.int .i64 t150)).setCell ⟨go10, (x4_1 : Int).toNat * 6 + 5, none⟩ (.int .i64 t151))) ?hg ?ho ?hn ?hr ?_; (case ho => rfl); (case hg => rfl); (case hn => rfl); (case hr => first | (go_simp; done) | (go_simp; rfl)); intro w13 hw; have hg : w11.grownBy w13 (some go10) := (by rw [hw]; exact HP12.2); have hp_ : Kd.R k77 77 w13 w.heap.size (fun _ => True) (.slice (some ⟨go10, 0, none⟩) x3_1.length co10) y152 := (by rw [hw, Ny152.out]; exact HP12.1); clear HP12; replace HO_3 := mA (hp_); replace HB := mA ((by rw [hw]; exact below_set (below_set (below_set (below_set (below_set (below_set (HB.out) GB10.out) GB10.out) GB10.out) GB10.out) GB10.out) GB10.out : Below w.heap.size w w13)); clear hg hw hp_))
        go_roundg k1
        case measure => have := HK1.out; omega
        case rel => exact ⟨(y152), (wrap64 (x4_1 + 1)), sT, H', ⟨by have := HK1.out; omega⟩, ⟨rTR HO_3⟩, ⟨bT HB⟩⟩
       ·
        rw [if_neg c9] at H
        exact absurd H (by simp)
      ·
       rw [if_neg c7] at H
       exact absurd H (by simp)
     ·
      rw [if_neg c6] at H
      have c6b0 : decide (x4_1 < (l0.length : Int)) = false := decide_eq_false c6
      clear c6
      obtain rfl := Option.some.inj H
      go_wp2
      go_ret
      exact ⟨_, eT, rTR HO_3, bT HB⟩
  ·
   rw [if_neg c3] at H
   exact absurd H (by simp)
 ·
  rw [if_neg c2] at H
  exact absurd H (by simp)

/-! ### impl_groupText: function 46 -/
def impl_groupText.f (k : Nat) (a0_0 : Int) (a0_1 : Int) (a0_2 : Int) (a0_3 : Int) (a0_4 : Int) : Option (ByteArray) := (impl_FormatInt.f k a0_0).bind fun t163 => (if t163.size + 1 ≤ 9223372036854775807 then ((impl_FormatInt.f k a0_1).bind fun t164 => (if (t163 ++ (⟨#[58]⟩ : ByteArray)).size + t164.size ≤ 9223372036854775807 then (if ((t163 ++ (⟨#[58]⟩ : ByteArray)) ++ t164).size + 1 ≤ 9223372036854775807 then ((impl_FormatInt.f k a0_2).bind fun t165 => (if (((t163 ++ (⟨#[58]⟩ : ByteArray)) ++ t164) ++ (⟨#[44]⟩ : ByteArray)).size + t165.size ≤ 9223372036854775807 then (if ((((t163 ++ (⟨#[58]⟩ : ByteArray)) ++ t164) ++ (⟨#[44]⟩ : ByteArray)) ++ t165).size + 1 ≤ 9223372036854775807 then ((impl_FormatInt.f k a0_3).bind fun t166 => (if (((((t163 ++ (⟨#[58]⟩ : ByteArray)) ++ t164) ++ (⟨#[44]⟩ : ByteArray)) ++ t165) ++ (⟨#[44]⟩ : ByteArray)).size + t166.size ≤ 9223372036854775807 then (if ((((((t163 ++ (⟨#[58]⟩ : ByteArray)) ++ t164) ++ (⟨#[44]⟩ : ByteArray)) ++ t165) ++ (⟨#[44]⟩ : ByteArray)) ++ t166).size + 1 ≤ 9223372036854775807 then ((impl_FormatInt.f k a0_4).bind fun t167 => (if (((((((t163 ++ (⟨#[58]⟩ : ByteArray)) ++ t164) ++ (⟨#[44]⟩ : ByteArray)) ++ t165) ++ (⟨#[44]⟩ : ByteArray)) ++ t166) ++ (⟨#[44]⟩ : ByteArray)).size + t167.size ≤ 9223372036854775807 then (some ((((((((t163 ++ (⟨#[58]⟩ : ByteArray)) ++ t164) ++ (⟨#[44]⟩ : ByteArray)) ++ t165) ++ (⟨#[44]⟩ : ByteArray)) ++ t166) ++ (⟨#[44]⟩ : ByteArray)) ++ t167)) else (none))) else (none)) else (none))) else (none)) else (none))) else (none)) else (none))) else (none))
theorem impl_groupText.mono : ∀ a0 a1 a2 a3 a4 k, LeO (impl_groupText.f k a0 a1 a2 a3 a4) (impl_groupText.f (k + 1) a0 a1 a2 a3 a4) := by
 intro a0 a1 a2 a3 a4 k
 unfold impl_groupText.f
 repeat' first
   | (with_reducible exact impl_FormatInt.mono _ _)
   | (with_reducible exact LeO.refl _)
   | (with_reducible exact LeO.none _)
   | (with_reducible refine LeO.ite ?_ ?_)
   | (with_reducible refine LeO.bind ?_ (fun _ => ?_))
   | exact impl_FormatInt.mono _ _
   | exact LeO.none _
   | refine LeO.ite ?_ ?_
   | refine LeO.bind ?_ (fun _ => ?_)
def impl_groupText.T1 : Bool × List (List Nat × List Nat) := (true, [([], []), ([0], [0]), ([1], [1]), ([2], [2]), ([], []), ([4], [4]), ([5, 2], [5]), ([3, 6], [3, 6]), ([7], [7]), ([], []), ([9], [9]), ([10, 6], [10]), ([8, 11], [8, 11]), ([12], [12]), ([], []), ([14], [14]), ([15, 11], [15]), ([13, 16], [13, 16]), ([17], [17]), ([], []), ([19], [19]), ([20, 16], [20]), ([18, 21], [18, 21]), ([22, 21, 0, 1, 2, 3, 4, 5, 6, 7, 8, 9, 10, 11, 12, 13, 14, 15, 16, 17, 18, 19, 20, 21, 22], [22])])
def impl_groupText.B1 : List Nat := [0, 1, 3, 7, 0, 16, 55, 127, 255, 0, 512, 1655, 4095, 8191, 0, 16384, 52855, 131071, 262143, 0, 524288, 1691255, 4194303, 8388607]
theorem impl_groupText.tab1 : rtab .any (opsOf Try.f46 1) = impl_groupText.T1 := by kernel_rfl
theorem impl_groupText.bits1 : waitsOk impl_groupText.T1.2 impl_groupText.B1 = true := by kernel_rfl
set_option maxHeartbeats 8000000 in
set_option maxRecDepth 100000 in
theorem impl_groupText.calls (k : Nat) (a0_0 : Int) (a0_1 : Int) (a0_2 : Int) (a0_3 : Int) (a0_4 : Int) (r : ByteArray) (w : World) (h : impl_groupText.f k a0_0 a0_1 a0_2 a0_3 a0_4 = some r) :
  Calls Try.prog 46 #[.agg #[.int .i64 a0_0, .int .i64 a0_1, .int .i64 a0_2, .int .i64 a0_3, .int .i64 a0_4]] w fun e w' => e = .returned (.string r) ∧ Below w.heap.size w w' := by
 have hu75 := Try.underlying75
 have HB := mA (Below.refl w.heap.size w)
 have H : ((impl_FormatInt.f k a0_0).bind fun t163 => (if t163.size + 1 ≤ 9223372036854775807 then ((impl_FormatInt.f k a0_1).bind fun t164 => (if (t163 ++ (⟨#[58]⟩ : ByteArray)).size + t164.size ≤ 9223372036854775807 then (if ((t163 ++ (⟨#[58]⟩ : ByteArray)) ++ t164).size + 1 ≤ 9223372036854775807 then ((impl_FormatInt.f k a0_2).bind fun t165 => (if (((t163 ++ (⟨#[58]⟩ : ByteArray)) ++ t164) ++ (⟨#[44]⟩ : ByteArray)).size + t165.size ≤ 9223372036854775807 then (if ((((t163 ++ (⟨#[58]⟩ : ByteArray)) ++ t164) ++ (⟨#[44]⟩ : ByteArray)) ++ t165).size + 1 ≤ 9223372036854775807 then ((impl_FormatInt.f k a0_3).bind fun t166 => (if (((((t163 ++ (⟨#[58]⟩ : ByteArray)) ++ t164) ++ (⟨#[44]⟩ : ByteArray)) ++ t165) ++ (⟨#[44]⟩ : ByteArray)).size + t166.size ≤ 9223372036854775807 then (if ((((((t163 ++ (⟨#[58]⟩ : ByteArray)) ++ t164) ++ (⟨#[44]⟩ : ByteArray)) ++ t165) ++ (⟨#[44]⟩ : ByteArray)) ++ t166).size + 1 ≤ 9223372036854775807 then ((impl_FormatInt.f k a0_4).bind fun t167 => (if (((((((t163 ++ (⟨#[58]⟩ : ByteArray)) ++ t164) ++ (⟨#[44]⟩ : ByteArray)) ++ t165) ++ (⟨#[44]⟩ : ByteArray)) ++ t166) ++ (⟨#[44]⟩ : ByteArray)).size + t167.size ≤ 9223372036854775807 then (some ((((((((t163 ++ (⟨#[58]⟩ : ByteArray)) ++ t164) ++ (⟨#[44]⟩ : ByteArray)) ++ t165) ++ (⟨#[44]⟩ : ByteArray)) ++ t166) ++ (⟨#[44]⟩ : ByteArray)) ++ t167)) else (none))) else (none)) else (none))) else (none)) else (none))) else (none)) else (none))) else (none))) = some r := h
 clear h
 obtain ⟨t163, A2, H⟩ := Option.bind_eq_some_iff.mp H
 replace A2 := mA A2
 try dsimp only at H
 by_cases c3 : t163.size + 1 ≤ 9223372036854775807
 ·
  rw [if_pos c3] at H
  have c3b0 := eq_true c3
  have c3b1 : decide (t163.size + 1 ≤ 9223372036854775807) = true := decide_eq_true c3
  try have c3b2 : (9223372036854775807 < t163.size + 1) = False := eq_false (Nat.not_lt.2 c3)
  obtain ⟨t164, A4, H⟩ := Option.bind_eq_some_iff.mp H
  replace A4 := mA A4
  try dsimp only at H
  by_cases c5 : (t163 ++ (⟨#[58]⟩ : ByteArray)).size + t164.size ≤ 9223372036854775807
  ·
   rw [if_pos c5] at H
   have c5b0 := eq_true c5
   have c5b1 : decide ((t163 ++ (⟨#[58]⟩ : ByteArray)).size + t164.size ≤ 9223372036854775807) = true := decide_eq_true c5
   try have c5b2 : (9223372036854775807 < (t163 ++ (⟨#[58]⟩ : ByteArray)).size + t164.size) = False := eq_false (Nat.not_lt.2 c5)
   try have c5b3 : (9223372036854775807 < t163.size + 1 + t164.size) = False := szF c5
   by_cases c6 : ((t163 ++ (⟨#[58]⟩ : ByteArray)) ++ t164).size + 1 ≤ 9223372036854775807
   ·
    rw [if_pos c6] at H
    have c6b0 := eq_true c6
    have c6b1 : decide (((t163 ++ (⟨#[58]⟩ : ByteArray)) ++ t164).size + 1 ≤ 9223372036854775807) = true := decide_eq_true c6
    try have c6b2 : (9223372036854775807 < ((t163 ++ (⟨#[58]⟩ : ByteArray)) ++ t164).size + 1) = False := eq_false (Nat.not_lt.2 c6)
    try have c6b3 : (9223372036854775807 < t163.size + 1 + t164.size + 1) = False := szF c6
    obtain ⟨t165, A7, H⟩ := Option.bind_eq_some_iff.mp H
    replace A7 := mA A7
    try dsimp only at H
    by_cases c8 : (((t163 ++ (⟨#[58]⟩ : ByteArray)) ++ t164) ++ (⟨#[44]⟩ : ByteArray)).size + t165.size ≤ 9223372036854775807
    ·
     rw [if_pos c8] at H
     have c8b0 := eq_true c8
     have c8b1 : decide ((((t163 ++ (⟨#[58]⟩ : ByteArray)) ++ t164) ++ (⟨#[44]⟩ : ByteArray)).size + t165.size ≤ 9223372036854775807) = true := decide_eq_true c8
     try have c8b2 : (9223372036854775807 < (((t163 ++ (⟨#[58]⟩ : ByteArray)) ++ t164) ++ (⟨#[44]⟩ : ByteArray)).size + t165.size) = False := eq_false (Nat.not_lt.2 c8)
     try have c8b3 : (9223372036854775807 < t163.size + 1 + t164.size + 1 + t165.size) = False := szF c8
     by_cases c9 : ((((t163 ++ (⟨#[58]⟩ : ByteArray)) ++ t164) ++ (⟨#[44]⟩ : ByteArray)) ++ t165).size + 1 ≤ 9223372036854775807
     ·
      rw [if_pos c9] at H
      have c9b0 := eq_true c9
      have c9b1 : decide (((((t163 ++ (⟨#[58]⟩ : ByteArray)) ++ t164) ++ (⟨#[44]⟩ : ByteArray)) ++ t165).size + 1 ≤ 9223372036854775807) = true := decide_eq_true c9
      try have c9b2 : (9223372036854775807 < ((((t163 ++ (⟨#[58]⟩ : ByteArray)) ++ t164) ++ (⟨#[44]⟩ : ByteArray)) ++ t165).size + 1) = False := eq_false (Nat.not_lt.2 c9)
      try have c9b3 : (9223372036854775807 < t163.size + 1 + t164.size + 1 + t165.size + 1) = False := szF c9
      obtain ⟨t166, A10, H⟩ := Option.bind_eq_some_iff.mp H
      replace A10 := mA A10
      try dsimp only at H
      by_cases c11 : (((((t163 ++ (⟨#[58]⟩ : ByteArray)) ++ t164) ++ (⟨#[44]⟩ : ByteArray)) ++ t165) ++ (⟨#[44]⟩ : ByteArray)).size + t166.size ≤ 9223372036854775807
      ·
       rw [if_pos c11] at H
       have c11b0 := eq_true c11
       have c11b1 : decide ((((((t163 ++ (⟨#[58]⟩ : ByteArray)) ++ t164) ++ (⟨#[44]⟩ : ByteArray)) ++ t165) ++ (⟨#[44]⟩ : ByteArray)).size + t166.size ≤ 9223372036854775807) = true := decide_eq_true c11
       try have c11b2 : (9223372036854775807 < (((((t163 ++ (⟨#[58]⟩ : ByteArray)) ++ t164) ++ (⟨#[44]⟩ : ByteArray)) ++ t165) ++ (⟨#[44]⟩ : ByteArray)).size + t166.size) = False := eq_false (Nat.not_lt.2 c11)
       try have c11b3 : (9223372036854775807 < t163.size + 1 + t164.size + 1 + t165.size + 1 + t166.size) = False := szF c11
       by_cases c12 : ((((((t163 ++ (⟨#[58]⟩ : ByteArray)) ++ t164) ++ (⟨#[44]⟩ : ByteArray)) ++ t165) ++ (⟨#[44]⟩ : ByteArray)) ++ t166).size + 1 ≤ 9223372036854775807
       ·
        rw [if_pos c12] at H
        have c12b0 := eq_true c12
        have c12b1 : decide (((((((t163 ++ (⟨#[58]⟩ : ByteArray)) ++ t164) ++ (⟨#[44]⟩ : ByteArray)) ++ t165) ++ (⟨#[44]⟩ : ByteArray)) ++ t166).size + 1 ≤ 9223372036854775807) = true := decide_eq_true c12
        try have c12b2 : (9223372036854775807 < ((((((t163 ++ (⟨#[58]⟩ : ByteArray)) ++ t164) ++ (⟨#[44]⟩ : ByteArray)) ++ t165) ++ (⟨#[44]⟩ : ByteArray)) ++ t166).size + 1) = False := eq_false (Nat.not_lt.2 c12)
        try have c12b3 : (9223372036854775807 < t163.size + 1 + t164.size + 1 + t165.size + 1 + t166.size + 1) = False := szF c12
        obtain ⟨t167, A13, H⟩ := Option.bind_eq_some_iff.mp H
        replace A13 := mA A13
        try dsimp only at H
        by_cases c14 : (((((((t163 ++ (⟨#[58]⟩ : ByteArray)) ++ t164) ++ (⟨#[44]⟩ : ByteArray)) ++ t165) ++ (⟨#[44]⟩ : ByteArray)) ++ t166) ++ (⟨#[44]⟩ : ByteArray)).size + t167.size ≤ 9223372036854775807
        ·
         rw [if_pos c14] at H
         have c14b0 := eq_true c14
         have c14b1 : decide ((((((((t163 ++ (⟨#[58]⟩ : ByteArray)) ++ t164) ++ (⟨#[44]⟩ : ByteArray)) ++ t165) ++ (⟨#[44]⟩ : ByteArray)) ++ t166) ++ (⟨#[44]⟩ : ByteArray)).size + t167.size ≤ 9223372036854775807) = true := decide_eq_true c14
         try have c14b2 : (9223372036854775807 < (((((((t163 ++ (⟨#[58]⟩ : ByteArray)) ++ t164) ++ (⟨#[44]⟩ : ByteArray)) ++ t165) ++ (⟨#[44]⟩ : ByteArray)) ++ t166) ++ (⟨#[44]⟩ : ByteArray)).size + t167.size) = False := eq_false (Nat.not_lt.2 c14)
         try have c14b3 : (9223372036854775807 < t163.size + 1 + t164.size + 1 + t165.size + 1 + t166.size + 1 + t167.size) = False := szF c14
         obtain rfl := Option.some.inj H
         go_enter Try.func46, Try.ntmps46
         try go_wp2_with (first | ((with_reducible refine gate_dst (N := 1) rfl ?_); refine boxT 1 #[.int .i64 a0_0, .int .i64 a0_1, .int .i64 a0_2, .int .i64 a0_3, .int .i64 a0_4] 75 ?_; intro gb162 hg w15 hbox hb; have BK162 := mA (hbox); have GW162 := mA ((by rw [hg]; exact (below_size (bT HB)) : w.heap.size ≤ gb162)); have GE162 := GW162; replace HB := mA (below_step (bT HB) hb); clear hb hbox hg))
         replace BK162 := mA (blk_drew BK162.out)
         replace HB := mA (below_drew1 HB.out)
         refine start_ (n := 24) (S := fun w' => w'.cell? ⟨gb162, 0, none⟩ = some (.int .i64 a0_0) ∧ w'.cell? ⟨gb162, 1, none⟩ = some (.int .i64 a0_1) ∧ w'.cell? ⟨gb162, 2, none⟩ = some (.int .i64 a0_2) ∧ w'.cell? ⟨gb162, 3, none⟩ = some (.int .i64 a0_3) ∧ w'.cell? ⟨gb162, 4, none⟩ = some (.int .i64 a0_4)) (ds := []) #[false, false, false, false, false, false, false, false, false, false, false, false, false, false, false, false, false, false, false, false, false, false, false, false] (by kernel_rfl) rfl rfl ⟨(blk_cell BK162.out 0).trans rfl, (blk_cell BK162.out 1).trans rfl, (blk_cell BK162.out 2).trans rfl, (blk_cell BK162.out 3).trans rfl, (blk_cell BK162.out 4).trans rfl⟩ (fun hHeld => ?_); refine with_tabW impl_groupText.tab1 impl_groupText.bits1 (fun HT_ HW_ => ?_)
         generalize w15.drew = w16 at BK162 HB hHeld ⊢
         refine pureT (i := 0) (N := some 3) #[true, false, false, false, false, false, false, false, false, false, false, false, false, false, false, false, false, false, false, false, false, false, false, false] (any_of HT_.out (by kernel_rfl)) ?_
         refine pureT (i := 4) (N := some 7) #[true, false, false, false, true, false, false, false, false, false, false, false, false, false, false, false, false, false, false, false, false, false, false, false] (any_of HT_.out (by kernel_rfl)) ?_
         refine pureT (i := 9) (N := some 12) #[true, false, false, false, true, false, false, false, false, true, false, false, false, false, false, false, false, false, false, false, false, false, false, false] (any_of HT_.out (by kernel_rfl)) ?_
         refine pureT (i := 14) (N := some 17) #[true, false, false, false, true, false, false, false, false, true, false, false, false, false, true, false, false, false, false, false, false, false, false, false] (any_of HT_.out (by kernel_rfl)) ?_
         refine pureT (i := 19) (N := some 22) #[true, false, false, false, true, false, false, false, false, true, false, false, false, false, true, false, false, false, false, true, false, false, false, false] (any_of HT_.out (by kernel_rfl)) ?_
         refine take_ (i := 1) (N := some 4) (v := ?_) (a' := ?_) #[true, true, false, false, true, false, false, false, false, true, false, false, false, false, true, false, false, false, false, true, false, false, false, false] rfl rfl (take_ofW HT_.out HW_.out (by kernel_rfl)) (fun _ _ _ h => h) (Or.inl ⟨by rfl, ?_⟩) hHeld ?_ ?_
         rotate_left
         ·
          rintro w' ⟨s0, s1, s2, s3, s4⟩
          go_simp
          with_reducible rfl
         rotate_left
         ·
          simp only [Act.put, List.setIfInBounds_toArray, List.set_cons_zero, List.set_cons_succ, i64_w, i32_w]
          rfl
         refine take_ (i := 5) (N := some 8) (v := ?_) (a' := ?_) #[true, true, false, false, true, true, false, false, false, true, false, false, false, false, true, false, false, false, false, true, false, false, false, false] rfl rfl (take_ofW HT_.out HW_.out (by kernel_rfl)) (fun _ _ _ h => h) (Or.inl ⟨by rfl, ?_⟩) hHeld ?_ ?_
         rotate_left
         ·
          rintro w' ⟨s0, s1, s2, s3, s4⟩
          go_simp
          with_reducible rfl
         rotate_left
         ·
          simp only [Act.put, List.setIfInBounds_toArray, List.set_cons_zero, List.set_cons_succ, i64_w, i32_w]
          rfl
         refine take_ (i := 10) (N := some 13) (v := ?_) (a' := ?_) #[true, true, false, false, true, true, false, false, false, true, true, false, false, false, true, false, false, false, false, true, false, false, false, false] rfl rfl (take_ofW HT_.out HW_.out (by kernel_rfl)) (fun _ _ _ h => h) (Or.inl ⟨by rfl, ?_⟩) hHeld ?_ ?_
         rotate_left
         ·
          rintro w' ⟨s0, s1, s2, s3, s4⟩
          go_simp
          with_reducible rfl
         rotate_left
         ·
          simp only [Act.put, List.setIfInBounds_toArray, List.set_cons_zero, List.set_cons_succ, i64_w, i32_w]
          rfl
         refine take_ (i := 15) (N := some 18) (v := ?_) (a' := ?_) #[true, true, false, false, true, true, false, false, false, true, true, false, false, false, true, true, false, false, false, true, false, false, false, false] rfl rfl (take_ofW HT_.out HW_.out (by kernel_rfl)) (fun _ _ _ h => h) (Or.inl ⟨by rfl, ?_⟩) hHeld ?_ ?_
         rotate_left
         ·
          rintro w' ⟨s0, s1, s2, s3, s4⟩
          go_simp
          with_reducible rfl
         rotate_left
         ·
          simp only [Act.put, List.setIfInBounds_toArray, List.set_cons_zero, List.set_cons_succ, i64_w, i32_w]
          rfl
         refine take_ (i := 20) (N := some 23) (v := ?_) (a' := ?_) #[true, true, false, false, true, true, false, false, false, true, true, false, false, false, true, true, false, false, false, true, true, false, false, false] rfl rfl (take_ofW HT_.out HW_.out (by kernel_rfl)) (fun _ _ _ h => h) (Or.inl ⟨by rfl, ?_⟩) hHeld ?_ ?_
         rotate_left
         ·
          rintro w' ⟨s0, s1, s2, s3, s4⟩
          go_simp
          with_reducible rfl
         rotate_left
         ·
          simp only [Act.put, List.setIfInBounds_toArray, List.set_cons_zero, List.set_cons_succ, i64_w, i32_w]
          rfl
         refine one_ (i := 2) (N := some 5) #[true, true, true, false, true, true, false, false, false, true, true, false, false, false, true, true, false, false, false, true, true, false, false, false] rfl rfl (one_of HT_.out (by kernel_rfl)) (by decide) (fun K hK => ?_)
         refine goes_ Try.func45 (by kernel_rfl) rfl #[.int .i64 a0_0] (by rfl) rfl rfl mT ?_
         with_reducible refine (impl_FormatInt.calls k a0_0 t163 _ A2.out).mono ?_
         rintro e w17 ⟨rfl, hb⟩
         refine ⟨_, rfl, ?_⟩
         replace BK162 := kB BK162 hb
         replace HB := mA (below_step (bT1 HB GE162) hb)
         (try clear hb)
         (try clear hb2)
         (try clear hk)
         (try clear hi)
         refine hK.out _ _ ⟨(blk_cell BK162.out 0).trans rfl, (blk_cell BK162.out 1).trans rfl, (blk_cell BK162.out 2).trans rfl, (blk_cell BK162.out 3).trans rfl, (blk_cell BK162.out 4).trans rfl⟩ (fun hHeld => ?_)
         clear hK K
         refine norm_ (a' := ?_) ?_ ?_
         rotate_left
         ·
          show Act.put _ (some 5) _ = _
          simp only [Act.put, List.setIfInBounds_toArray, List.set_cons_zero, List.set_cons_succ, i64_w, i32_w]
          rfl
         refine pureT (i := 3) (N := some 6) #[true, true, true, true, true, true, false, false, false, true, true, false, false, false, true, true, false, false, false, true, true, false, false, false] (any_of HT_.out (by kernel_rfl)) ?_
         refine one_ (i := 6) (N := some 9) #[true, true, true, true, true, true, true, false, false, true, true, false, false, false, true, true, false, false, false, true, true, false, false, false] rfl rfl (one_of HT_.out (by kernel_rfl)) (by decide) (fun K hK => ?_)
         refine goes_ Try.func45 (by kernel_rfl) rfl #[.int .i64 a0_1] (by rfl) rfl rfl mT ?_
         with_reducible refine (impl_FormatInt.calls k a0_1 t164 _ A4.out).mono ?_
         rintro e w18 ⟨rfl, hb⟩
         refine ⟨_, rfl, ?_⟩
         replace BK162 := kB BK162 hb
         replace HB := mA (below_step (bT1 HB GE162) hb)
         (try clear hb)
         (try clear hb2)
         (try clear hk)
         (try clear hi)
         refine hK.out _ _ ⟨(blk_cell BK162.out 0).trans rfl, (blk_cell BK162.out 1).trans rfl, (blk_cell BK162.out 2).trans rfl, (blk_cell BK162.out 3).trans rfl, (blk_cell BK162.out 4).trans rfl⟩ (fun hHeld => ?_)
         clear hK K
         refine norm_ (a' := ?_) ?_ ?_
         rotate_left
         ·
          show Act.put _ (some 9) _ = _
          simp only [Act.put, List.setIfInBounds_toArray, List.set_cons_zero, List.set_cons_succ, i64_w, i32_w]
          rfl
         refine pureT (i := 7) (N := some 10) #[true, true, true, true, true, true, true, true, false, true, true, false, false, false, true, true, false, false, false, true, true, false, false, false] (any_of HT_.out (by kernel_rfl)) ?_
         refine pureT (i := 8) (N := some 11) #[true, true, true, true, true, true, true, true, true, true, true, false, false, false, true, true, false, false, false, true, true, false, false, false] (any_of HT_.out (by kernel_rfl)) ?_
         refine one_ (i := 11) (N := some 14) #[true, true, true, true, true, true, true, true, true, true, true, true, false, false, true, true, false, false, false, true, true, false, false, false] rfl rfl (one_of HT_.out (by kernel_rfl)) (by decide) (fun K hK => ?_)
         refine goes_ Try.func45 (by kernel_rfl) rfl #[.int .i64 a0_2] (by rfl) rfl rfl mT ?_
         with_reducible refine (impl_FormatInt.calls k a0_2 t165 _ A7.out).mono ?_
         rintro e w19 ⟨rfl, hb⟩
         refine ⟨_, rfl, ?_⟩
         replace BK162 := kB BK162 hb
         replace HB := mA (below_step (bT1 HB GE162) hb)
         (try clear hb)
         (try clear hb2)
         (try clear hk)
         (try clear hi)
         refine hK.out _ _ ⟨(blk_cell BK162.out 0).trans rfl, (blk_cell BK162.out 1).trans rfl, (blk_cell BK162.out 2).trans rfl, (blk_cell BK162.out 3).trans rfl, (blk_cell BK162.out 4).trans rfl⟩ (fun hHeld => ?_)
         clear hK K
         refine norm_ (a' := ?_) ?_ ?_
         rotate_left
         ·
          show Act.put _ (some 14) _ = _
          simp only [Act.put, List.setIfInBounds_toArray, List.set_cons_zero, List.set_cons_succ, i64_w, i32_w]
          rfl
         refine pureT (i := 12) (N := some 15) #[true, true, true, true, true, true, true, true, true, true, true, true, true, false, true, true, false, false, false, true, true, false, false, false] (any_of HT_.out (by kernel_rfl)) ?_
         refine pureT (i := 13) (N := some 16) #[true, true, true, true, true, true, true, true, true, true, true, true, true, true, true, true, false, false, false, true, true, false, false, false] (any_of HT_.out (by kernel_rfl)) ?_
         refine one_ (i := 16) (N := some 19) #[true, true, true, true, true, true, true, true, true, true, true, true, true, true, true, true, true, false, false, true, true, false, false, false] rfl rfl (one_of HT_.out (by kernel_rfl)) (by decide) (fun K hK => ?_)
         refine goes_ Try.func45 (by kernel_rfl) rfl #[.int .i64 a0_3] (by rfl) rfl rfl mT ?_
         with_reducible refine (impl_FormatInt.calls k a0_3 t166 _ A10.out).mono ?_
         rintro e w20 ⟨rfl, hb⟩
         refine ⟨_, rfl, ?_⟩
         replace BK162 := kB BK162 hb
         replace HB := mA (below_step (bT1 HB GE162) hb)
         (try clear hb)
         (try clear hb2)
         (try clear hk)
         (try clear hi)
         refine hK.out _ _ ⟨(blk_cell BK162.out 0).trans rfl, (blk_cell BK162.out 1).trans rfl, (blk_cell BK162.out 2).trans rfl, (blk_cell BK162.out 3).trans rfl, (blk_cell BK162.out 4).trans rfl⟩ (fun hHeld => ?_)
         clear hK K
         refine norm_ (a' := ?_) ?_ ?_
         rotate_left
         ·
          show Act.put _ (some 19) _ = _
          simp only [Act.put, List.setIfInBounds_toArray, List.set_cons_zero, List.set_cons_succ, i64_w, i32_w]
          rfl
         refine pureT (i := 17) (N := some 20) #[true, true, true, true, true, true, true, true, true, true, true, true, true, true, true, true, true, true, false, true, true, false, false, false] (any_of HT_.out (by kernel_rfl)) ?_
         refine pureT (i := 18) (N := some 21) #[true, true, true, true, true, true, true, true, true, true, true, true, true, true, true, true, true, true, true, true, true, false, false, false] (any_of HT_.out (by kernel_rfl)) ?_
         refine one_ (i := 21) (N := some 24) #[true, true, true, true, true, true, true, true, true, true, true, true, true, true, true, true, true, true, true, true, true, true, false, false] rfl rfl (one_of HT_.out (by kernel_rfl)) (by decide) (fun K hK => ?_)
         refine goes_ Try.func45 (by kernel_rfl) rfl #[.int .i64 a0_4] (by rfl) rfl rfl mT ?_
         with_reducible refine (impl_FormatInt.calls k a0_4 t167 _ A13.out).mono ?_
         rintro e w21 ⟨rfl, hb⟩
         refine ⟨_, rfl, ?_⟩
         replace BK162 := kB BK162 hb
         replace HB := mA (below_step (bT1 HB GE162) hb)
         (try clear hb)
         (try clear hb2)
         (try clear hk)
         (try clear hi)
         refine hK.out _ _ ⟨(blk_cell BK162.out 0).trans rfl, (blk_cell BK162.out 1).trans rfl, (blk_cell BK162.out 2).trans rfl, (blk_cell BK162.out 3).trans rfl, (blk_cell BK162.out 4).trans rfl⟩ (fun hHeld => ?_)
         clear hK K
         refine norm_ (a' := ?_) ?_ ?_
         rotate_left
         ·
          show Act.put _ (some 24) _ = _
          simp only [Act.put, List.setIfInBounds_toArray, List.set_cons_zero, List.set_cons_succ, i64_w, i32_w]
          rfl
         refine pureT (i := 22) (N := some 25) #[true, true, true, true, true, true, true, true, true, true, true, true, true, true, true, true, true, true, true, true, true, true, true, false] (any_of HT_.out (by kernel_rfl)) ?_
         refine pureT (i := 23) (N := some 2) #[true, true, true, true, true, true, true, true, true, true, true, true, true, true, true, true, true, true, true, true, true, true, true, true] (any_of HT_.out (by kernel_rfl)) ?_
         refine done_ (done_of HT_.out (by kernel_rfl)) ?_
         try go_wp2
         go_ret
         exact ⟨eT, bT1 HB GE162⟩
        ·
         rw [if_neg c14] at H
         exact absurd H (by simp)
       ·
        rw [if_neg c12] at H
        exact absurd H (by simp)
      ·
       rw [if_neg c11] at H
       exact absurd H (by simp)
     ·
      rw [if_neg c9] at H
      exact absurd H (by simp)
    ·
     rw [if_neg c8] at H
     exact absurd H (by simp)
   ·
    rw [if_neg c6] at H
    exact absurd H (by simp)
  ·
   rw [if_neg c5] at H
   exact absurd H (by simp)
 ·
  rw [if_neg c3] at H
  exact absurd H (by simp)

/-! ### impl_FormatRollup: function 13 -/
def impl_FormatRollup.l0 : Nat → List ByteArray → List (S77) → Int → Int → Option (ByteArray)
 | 0, _, _, _, _ => none
 | k + 1, x3, x7, x8, x9 => if x9 < x8 then (if 0 ≤ x9 then (if x9 < (x7.length : Int) then ((impl_FormatInt.f k ((rd_T77 x7 x9).f0)).bind fun t174 => (if t174.size + 1 ≤ 9223372036854775807 then ((impl_groupText.f k ((rd_T77 x7 x9).f1.f0) ((rd_T77 x7 x9).f1.f1) ((rd_T77 x7 x9).f1.f2) ((rd_T77 x7 x9).f1.f3) ((rd_T77 x7 x9).f1.f4)).bind fun t175 => (if (t174 ++ (⟨#[47]⟩ : ByteArray)).size + t175.size ≤ 9223372036854775807 then (if x3.length < 8796093022208 then (impl_FormatRollup.l0 k (x3 ++ [(t174 ++ (⟨#[47]⟩ : ByteArray)) ++ t175]) x7 x8 (wrap64 (x9 + 1))) else (none)) else (none))) else (none))) else (none)) else (none)) else ((impl_joined.f k x3 (⟨#[32]⟩ : ByteArray)).bind fun t179 => (some t179))
def impl_FormatRollup.f (k : Nat) (l0 : List (S77)) : Option (ByteArray) := impl_FormatRollup.l0 k (([] : List ByteArray)) l0 (l0.length : Int) 0
theorem impl_FormatRollup.mono_l : ∀ k, (∀ y0 y1 y2 y3, LeO (impl_FormatRollup.l0 k y0 y1 y2 y3) (impl_FormatRollup.l0 (k + 1) y0 y1 y2 y3))
 | 0 => fun _ _ _ _ r h => by simp [impl_FormatRollup.l0] at h
 | k + 1 => by
  have ih0 := impl_FormatRollup.mono_l k
  ·
   intro y0 y1 y2 y3
   unfold impl_FormatRollup.l0
   repeat' first
   | (with_reducible exact ih0 _ _ _ _)
   | (with_reducible exact impl_FormatInt.mono _ _)
   | (with_reducible exact impl_groupText.mono _ _ _ _ _ _)
   | (with_reducible exact impl_joined.mono _ _ _)
   | (with_reducible exact LeO.refl _)
   | (with_reducible exact LeO.none _)
   | (with_reducible refine LeO.ite ?_ ?_)
   | (with_reducible refine LeO.bind ?_ (fun _ => ?_))
   | exact ih0 _ _ _ _
   | exact impl_FormatInt.mono _ _
   | exact impl_groupText.mono _ _ _ _ _ _
   | exact impl_joined.mono _ _ _
   | exact LeO.none _
   | refine LeO.ite ?_ ?_
   | refine LeO.bind ?_ (fun _ => ?_)
theorem impl_FormatRollup.mono : ∀ a0 k, LeO (impl_FormatRollup.f k a0) (impl_FormatRollup.f (k + 1) a0) := by
 intro a0 k
 have ih0 := impl_FormatRollup.mono_l k
 unfold impl_FormatRollup.f
 repeat' first
   | (with_reducible exact ih0 _ _ _ _)
   | (with_reducible exact impl_FormatInt.mono _ _)
   | (with_reducible exact impl_groupText.mono _ _ _ _ _ _)
   | (with_reducible exact impl_joined.mono _ _ _)
   | (with_reducible exact LeO.refl _)
   | (with_reducible exact LeO.none _)
   | (with_reducible refine LeO.ite ?_ ?_)
   | (with_reducible refine LeO.bind ?_ (fun _ => ?_))
   | exact ih0 _ _ _ _
   | exact impl_FormatInt.mono _ _
   | exact impl_groupText.mono _ _ _ _ _ _
   | exact impl_joined.mono _ _ _
   | exact LeO.none _
   | refine LeO.ite ?_ ?_
   | refine LeO.bind ?_ (fun _ => ?_)
def impl_FormatRollup.T5 : Bool × List (List Nat × List Nat) := (true, [([], []), ([], []), ([1], [1]), ([2], [2]), ([3], [3]), ([], []), ([5], [5]), ([6, 3], [6]), ([4, 7], [4, 7]), ([8], [8]), ([0, 9, 7], [0, 9]), ([10, 10, 0, 1, 2, 3, 4, 5, 6, 7, 8, 9, 10], [0, 10])])
def impl_FormatRollup.B5 : List Nat := [0, 0, 2, 6, 14, 0, 32, 110, 254, 510, 1023, 2047]
theorem impl_FormatRollup.tab5 : rtab .any (opsOf Try.f13 5) = impl_FormatRollup.T5 := by kernel_rfl
theorem impl_FormatRollup.bits5 : waitsOk impl_FormatRollup.T5.2 impl_FormatRollup.B5 = true := by kernel_rfl
set_option maxHeartbeats 8000000 in
set_option maxRecDepth 100000 in
theorem impl_FormatRollup.calls (k : Nat) (A0 : Option Addr) (c0 : Nat) (l0 : List (S77)) (r : ByteArray) (w : World) (hr0 : Kd.C k77 w A0 l0.length l0) (hc0 : l0.length ≤ c0) (h : impl_FormatRollup.f k l0 = some r) :
  Calls Try.prog 13 #[.slice A0 l0.length c0] w fun e w' => e = .returned (.string r) ∧ Below w.heap.size w w' := by
 have hu77 := Try.underlying77
 have hu75 := Try.underlying75
 have HR0 := mA hr0
 have HC0 := mA hc0
 clear hr0 hc0
 have HB := mA (Below.refl w.heap.size w)
 have H : (impl_FormatRollup.l0 k (([] : List ByteArray)) l0 (l0.length : Int) 0) = some r := h
 clear h
 obtain ⟨y169, hy169⟩ : ∃ y_ : List ByteArray, y_ = (([] : List ByteArray)) := ⟨_, rfl⟩
 replace H : (impl_FormatRollup.l0 k y169 l0 (l0.length : Int) 0) = some r := by first | (rw [hy169]; with_reducible exact H) | (have H2_ := (Option.bind_some _ _).symm.trans H; rw [hy169]; with_reducible exact H2_) | (have H2_ := (Option.bind_some _ _).symm.trans H; with_reducible exact H2_) | with_reducible exact H | (rw [hy169]; exact H) | exact H
 have Ny169 := mA hy169
 clear hy169
 have H' := mA H
 clear H
 go_enter Try.func13, Try.ntmps13
 go_wp2_with (first | ((with_reducible refine gate_dst (N := 6) rfl ?_); refine Kd.R_lit Kd.string _ 9 ?hg (N := 6) ?hd (xs := ([] : List ByteArray)) (inner := []) (ok := fun _ => True) (okp := fun _ => True) ?hr ?hp (fun _ hk => hk) trivial (Below.refl _ _) (Nat.le_refl _) (by simp) ?_; (case hd => rfl); (case hg => rfl); (case hr => first | (go_simp; done) | (go_simp; rfl)); (case hp => exact (Reps.none _ _)); intro v170 w2 ho3 hb hg_ hnew_; clear hg_ hnew_; (first | rw [← Ny169.out] at ho3 | (simp only [Int.reduceToNat] at ho3; rw [← Ny169.out] at ho3)); have HO171 := mA (Kd.R_lower ho3 (below_size (bT HB))); replace HB := mA (below_step (bT HB) hb); clear hb ho3))
 go_loopg [3, 9] k (fun kq v3 v9 w' => ∃ (x3_1 : List ByteArray) (x9_1 : Int), v9 = .int .i64 x9_1 ∧ Aside0 (impl_FormatRollup.l0 kq x3_1 l0 (l0.length : Int) x9_1 = some r) ∧ Aside0 (kq ≤ k) ∧ Aside0 (Kd.R Kd.string 9 w' w.heap.size (fun _ => True) v3 x3_1) ∧ Aside0 (Below w.heap.size w w'))
 case atStart => exact ⟨(y169), (0), sT, H', ⟨Nat.le_refl _⟩, ⟨rTR HO171⟩, ⟨bT HB⟩⟩
 case round =>
  clear H'
  try clear c1
  try clear p2
  obtain ⟨x3_1, x9_1, rfl, HA, HK1, HO_3, HB⟩ := hrel
  cases gk with
  | zero => exact absurd HA.out (by simp [impl_FormatRollup.l0])
  | succ k1 =>
   have H := HA.out
   clear HA
   simp only [impl_FormatRollup.l0] at H
   by_cases c4 : x9_1 < (l0.length : Int)
   ·
    rw [if_pos c4] at H
    have c4b0 : decide (x9_1 < (l0.length : Int)) = true := decide_eq_true c4
    clear c4
    by_cases c5 : 0 ≤ x9_1
    ·
     rw [if_pos c5] at H
     have c5b0 : decide (0 ≤ x9_1) = true := decide_eq_true c5
     clear c5
     by_cases c6 : x9_1 < (l0.length : Int)
     ·
      rw [if_pos c6] at H
      have c6b0 : decide (x9_1 < (l0.length : Int)) = true := decide_eq_true c6
      clear c6
      obtain ⟨t174, A7, H⟩ := Option.bind_eq_some_iff.mp H
      replace A7 := mA A7
      try dsimp only at H
      by_cases c8 : t174.size + 1 ≤ 9223372036854775807
      ·
       rw [if_pos c8] at H
       have c8b0 := eq_true c8
       have c8b1 : decide (t174.size + 1 ≤ 9223372036854775807) = true := decide_eq_true c8
       try have c8b2 : (9223372036854775807 < t174.size + 1) = False := eq_false (Nat.not_lt.2 c8)
       obtain ⟨t175, A9, H⟩ := Option.bind_eq_some_iff.mp H
       replace A9 := mA A9
       try dsimp only at H
       by_cases c10 : (t174 ++ (⟨#[47]⟩ : ByteArray)).size + t175.size ≤ 9223372036854775807
       ·
        rw [if_pos c10] at H
        have c10b0 := eq_true c10
        have c10b1 : decide ((t174 ++ (⟨#[47]⟩ : ByteArray)).size + t175.size ≤ 9223372036854775807) = true := decide_eq_true c10
        try have c10b2 : (9223372036854775807 < (t174 ++ (⟨#[47]⟩ : ByteArray)).size + t175.size) = False := eq_false (Nat.not_lt.2 c10)
        try have c10b3 : (9223372036854775807 < t174.size + 1 + t175.size) = False := szF c10
        by_cases c11 : x3_1.length < 8796093022208
        ·
         rw [if_pos c11] at H
         have LMc11 := mA c11
         clear c11
         obtain ⟨y176, hy176⟩ : ∃ y_ : List ByteArray, y_ = (x3_1 ++ [(t174 ++ (⟨#[47]⟩ : ByteArray)) ++ t175]) := ⟨_, rfl⟩
         replace H : (impl_FormatRollup.l0 k1 y176 l0 (l0.length : Int) (wrap64 (x9_1 + 1))) = some r := by first | (rw [hy176]; with_reducible exact H) | (have H2_ := (Option.bind_some _ _).symm.trans H; rw [hy176]; with_reducible exact H2_) | (have H2_ := (Option.bind_some _ _).symm.trans H; with_reducible exact H2_) | with_reducible exact H | (rw [hy176]; exact H) | exact H
         have Ny176 := mA hy176
         clear hy176
         have H' := mA H
         clear H
         have p172 : 0 ≤ (x9_1 : Int) := of_decide_eq_true aT
         have q172 : x9_1 < (l0.length : Int) := of_decide_eq_true aT
         obtain ⟨ad172, e172, hx172_0, hx172_1, hx172_2, hx172_3, hx172_4, hx172_5⟩ := at_T77 HR0.out x9_1 p172 q172
         cases e172
         replace hx172_0 := (HB.out.cell (World.block_lt_of_cell? w _ hx172_0)).trans hx172_0
         replace hx172_1 := (HB.out.cell (World.block_lt_of_cell? w _ hx172_1)).trans hx172_1
         replace hx172_2 := (HB.out.cell (World.block_lt_of_cell? w _ hx172_2)).trans hx172_2
         replace hx172_3 := (HB.out.cell (World.block_lt_of_cell? w _ hx172_3)).trans hx172_3
         replace hx172_4 := (HB.out.cell (World.block_lt_of_cell? w _ hx172_4)).trans hx172_4
         replace hx172_5 := (HB.out.cell (World.block_lt_of_cell? w _ hx172_5)).trans hx172_5
         replace p172 := eq_true p172
         replace q172 := eq_true q172
         try go_wp2_with (first | ((with_reducible refine gate_dst (N := 5) rfl ?_); refine boxT 5 #[.int .i64 0, .int .i64 0, .int .i64 0, .int .i64 0, .int .i64 0, .int .i64 0] 77 ?_; intro gb173 hg w12 hbox hb; replace HO_3 := rBR HO_3 hb; have BK173 := mA (hbox); have GW173 := mA ((by rw [hg]; exact (below_size (bT HB)) : w.heap.size ≤ gb173)); have GE173 := GW173; replace HB := mA (below_step (bT HB) hb); clear hb hbox hg; obtain ⟨hcz13_0, hcz13_1, hcz13_2, hcz13_3, hcz13_4, hcz13_5, hfz13_0, hfz13_1, hfz13_2, hfz13_3, hfz13_4, hfz13_5⟩ := blk6 BK173.out))
         have n0_ : Aside0 (Kd.R Kd.string 9 ((((((w12.setCell ⟨gb173, 0, none⟩ (.int .i64 ((rd_T77 l0 x9_1).f0))).setCell ⟨gb173, 1, none⟩ (.int .i64 ((rd_T77 l0 x9_1).f1.f0))).setCell ⟨gb173, 2, none⟩ (.int .i64 ((rd_T77 l0 x9_1).f1.f1))).setCell ⟨gb173, 3, none⟩ (.int .i64 ((rd_T77 l0 x9_1).f1.f2))).setCell ⟨gb173, 4, none⟩ (.int .i64 ((rd_T77 l0 x9_1).f1.f3))).setCell ⟨gb173, 5, none⟩ (.int .i64 ((rd_T77 l0 x9_1).f1.f4))) w.heap.size (fun _ => True) u3 x3_1) := ⟨by (with_reducible repeat (first | apply Kd.R_alloc | apply Kd.R_drewN | apply Kd.R_drew)); exact Kd.R_mono (Kd.R_far (p := ⟨gb173, 5, none⟩) (Kd.R_far (p := ⟨gb173, 4, none⟩) (Kd.R_far (p := ⟨gb173, 3, none⟩) (Kd.R_far (p := ⟨gb173, 2, none⟩) (Kd.R_far (p := ⟨gb173, 1, none⟩) (Kd.R_far (p := ⟨gb173, 0, none⟩) (Kd.R_types HO_3.out BK173.out (by decide)) (fun _ hk => hk.2) (.int .i64 ((rd_T77 l0 x9_1).f0))) (fun _ hk => hk.2) (.int .i64 ((rd_T77 l0 x9_1).f1.f0))) (fun _ hk => hk.2) (.int .i64 ((rd_T77 l0 x9_1).f1.f1))) (fun _ hk => hk.2) (.int .i64 ((rd_T77 l0 x9_1).f1.f2))) (fun _ hk => hk.2) (.int .i64 ((rd_T77 l0 x9_1).f1.f3))) (fun _ hk => hk.2) (.int .i64 ((rd_T77 l0 x9_1).f1.f4))) (fun _ hk => trivial)⟩
         have n1_ : Aside0 (((((((w12.setCell ⟨gb173, 0, none⟩ (.int .i64 ((rd_T77 l0 x9_1).f0))).setCell ⟨gb173, 1, none⟩ (.int .i64 ((rd_T77 l0 x9_1).f1.f0))).setCell ⟨gb173, 2, none⟩ (.int .i64 ((rd_T77 l0 x9_1).f1.f1))).setCell ⟨gb173, 3, none⟩ (.int .i64 ((rd_T77 l0 x9_1).f1.f2))).setCell ⟨gb173, 4, none⟩ (.int .i64 ((rd_T77 l0 x9_1).f1.f3))).setCell ⟨gb173, 5, none⟩ (.int .i64 ((rd_T77 l0 x9_1).f1.f4))).heap[gb173]? = some (.cells #[.int .i64 ((rd_T77 l0 x9_1).f0), .int .i64 ((rd_T77 l0 x9_1).f1.f0), .int .i64 ((rd_T77 l0 x9_1).f1.f1), .int .i64 ((rd_T77 l0 x9_1).f1.f2), .int .i64 ((rd_T77 l0 x9_1).f1.f3), .int .i64 ((rd_T77 l0 x9_1).f1.f4)] 77 (0, 0))) := ⟨by (with_reducible repeat (first | refine blk_drewN ?_ _ | refine blk_drew ?_ | refine blk_alloc ?_ _)); refine blk_put (cs := #[.int .i64 ((rd_T77 l0 x9_1).f0), .int .i64 ((rd_T77 l0 x9_1).f1.f0), .int .i64 ((rd_T77 l0 x9_1).f1.f1), .int .i64 ((rd_T77 l0 x9_1).f1.f2), .int .i64 ((rd_T77 l0 x9_1).f1.f3), .int .i64 0]) ?_ 5 _ rfl; (with_reducible repeat (first | refine blk_drewN ?_ _ | refine blk_drew ?_ | refine blk_alloc ?_ _)); refine blk_put (cs := #[.int .i64 ((rd_T77 l0 x9_1).f0), .int .i64 ((rd_T77 l0 x9_1).f1.f0), .int .i64 ((rd_T77 l0 x9_1).f1.f1), .int .i64 ((rd_T77 l0 x9_1).f1.f2), .int .i64 0, .int .i64 0]) ?_ 4 _ rfl; (with_reducible repeat (first | refine blk_drewN ?_ _ | refine blk_drew ?_ | refine blk_alloc ?_ _)); refine blk_put (cs := #[.int .i64 ((rd_T77 l0 x9_1).f0), .int .i64 ((rd_T77 l0 x9_1).f1.f0), .int .i64 ((rd_T77 l0 x9_1).f1.f1), .int .i64 0, .int .i64 0, .int .i64 0]) ?_ 3 _ rfl; (with_reducible repeat (first | refine blk_drewN ?_ _ | refine blk_drew ?_ | refine blk_alloc ?_ _)); refine blk_put (cs := #[.int .i64 ((rd_T77 l0 x9_1).f0), .int .i64 ((rd_T77 l0 x9_1).f1.f0), .int .i64 0, .int .i64 0, .int .i64 0, .int .i64 0]) ?_ 2 _ rfl; (with_reducible repeat (first | refine blk_drewN ?_ _ | refine blk_drew ?_ | refine blk_alloc ?_ _)); refine blk_put (cs := #[.int .i64 ((rd_T77 l0 x9_1).f0), .int .i64 0, .int .i64 0, .int .i64 0, .int .i64 0, .int .i64 0]) ?_ 1 _ rfl; (with_reducible repeat (first | refine blk_drewN ?_ _ | refine blk_drew ?_ | refine blk_alloc ?_ _)); refine blk_put (cs := #[.int .i64 0, .int .i64 0, .int .i64 0, .int .i64 0, .int .i64 0, .int .i64 0]) ?_ 0 _ rfl; (with_reducible repeat (first | refine blk_drewN ?_ _ | refine blk_drew ?_ | refine blk_alloc ?_ _)); exact BK173.out⟩
         have n2_ : Aside0 (Below w.heap.size w ((((((w12.setCell ⟨gb173, 0, none⟩ (.int .i64 ((rd_T77 l0 x9_1).f0))).setCell ⟨gb173, 1, none⟩ (.int .i64 ((rd_T77 l0 x9_1).f1.f0))).setCell ⟨gb173, 2, none⟩ (.int .i64 ((rd_T77 l0 x9_1).f1.f1))).setCell ⟨gb173, 3, none⟩ (.int .i64 ((rd_T77 l0 x9_1).f1.f2))).setCell ⟨gb173, 4, none⟩ (.int .i64 ((rd_T77 l0 x9_1).f1.f3))).setCell ⟨gb173, 5, none⟩ (.int .i64 ((rd_T77 l0 x9_1).f1.f4)))) := ⟨bT1 HB GE173⟩
         (try clear HO_3)
         (try clear BK173)
         (try clear HB)
         generalize ((((((w12.setCell ⟨gb173, 0, none⟩ (.int .i64 ((rd_T77 l0 x9_1).f0))).setCell ⟨gb173, 1, none⟩ (.int .i64 ((rd_T77 l0 x9_1).f1.f0))).setCell ⟨gb173, 2, none⟩ (.int .i64 ((rd_T77 l0 x9_1).f1.f1))).setCell ⟨gb173, 3, none⟩ (.int .i64 ((rd_T77 l0 x9_1).f1.f2))).setCell ⟨gb173, 4, none⟩ (.int .i64 ((rd_T77 l0 x9_1).f1.f3))).setCell ⟨gb173, 5, none⟩ (.int .i64 ((rd_T77 l0 x9_1).f1.f4))) = w14 at n0_ n1_ n2_ ⊢
         have HO_3 := n0_
         have BK173 := n1_
         have HB := n2_
         clear n0_ n1_ n2_
         replace HO_3 := mA (Kd.R_drew HO_3.out)
         replace BK173 := mA (blk_drew BK173.out)
         replace HB := mA (below_drew1 HB.out)
         refine start_ (n := 12) (S := fun w' => w'.cell? ⟨gb173, 0, none⟩ = some (.int .i64 ((rd_T77 l0 x9_1).f0)) ∧ w'.cell? ⟨gb173, 1, none⟩ = some (.int .i64 ((rd_T77 l0 x9_1).f1.f0)) ∧ w'.cell? ⟨gb173, 2, none⟩ = some (.int .i64 ((rd_T77 l0 x9_1).f1.f1)) ∧ w'.cell? ⟨gb173, 3, none⟩ = some (.int .i64 ((rd_T77 l0 x9_1).f1.f2)) ∧ w'.cell? ⟨gb173, 4, none⟩ = some (.int .i64 ((rd_T77 l0 x9_1).f1.f3)) ∧ w'.cell? ⟨gb173, 5, none⟩ = some (.int .i64 ((rd_T77 l0 x9_1).f1.f4))) (ds := []) #[false, false, false, false, false, false, false, false, false, false, false, false] (by kernel_rfl) rfl rfl ⟨(blk_cell BK173.out 0).trans rfl, (blk_cell BK173.out 1).trans rfl, (blk_cell BK173.out 2).trans rfl, (blk_cell BK173.out 3).trans rfl, (blk_cell BK173.out 4).trans rfl, (blk_cell BK173.out 5).trans rfl⟩ (fun hHeld => ?_); refine with_tabW impl_FormatRollup.tab5 impl_FormatRollup.bits5 (fun HT_ HW_ => ?_)
         generalize w14.drew = w15 at HO_3 BK173 HB hHeld ⊢
         refine pureT (i := 0) (N := some 13) #[true, false, false, false, false, false, false, false, false, false, false, false] (any_of HT_.out (by kernel_rfl)) ?_
         refine pureT (i := 1) (N := some 14) #[true, true, false, false, false, false, false, false, false, false, false, false] (any_of HT_.out (by kernel_rfl)) ?_
         refine pureT (i := 5) (N := some 18) #[true, true, false, false, false, true, false, false, false, false, false, false] (any_of HT_.out (by kernel_rfl)) ?_
         refine take_ (i := 2) (N := some 15) (v := ?_) (a' := ?_) #[true, true, true, false, false, true, false, false, false, false, false, false] rfl rfl (take_ofW HT_.out HW_.out (by kernel_rfl)) (fun _ _ _ h => h) (Or.inl ⟨by rfl, ?_⟩) hHeld ?_ ?_
         rotate_left
         ·
          rintro w' ⟨s0, s1, s2, s3, s4, s5⟩
          go_simp
          with_reducible rfl
         rotate_left
         ·
          simp only [Act.put, List.setIfInBounds_toArray, List.set_cons_zero, List.set_cons_succ, i64_w, i32_w]
          rfl
         refine take_ (i := 6) (N := some 19) (v := ?_) (a' := ?_) #[true, true, true, false, false, true, true, false, false, false, false, false] rfl rfl (take_ofW HT_.out HW_.out (by kernel_rfl)) (fun _ _ _ h => h) (Or.inl ⟨by rfl, ?_⟩) hHeld ?_ ?_
         rotate_left
         ·
          rintro w' ⟨s0, s1, s2, s3, s4, s5⟩
          go_simp
          with_reducible rfl
         rotate_left
         ·
          simp only [Act.put, List.setIfInBounds_toArray, List.set_cons_zero, List.set_cons_succ, i64_w, i32_w]
          rfl
         refine one_ (i := 3) (N := some 16) #[true, true, true, true, false, true, true, false, false, false, false, false] rfl rfl (one_of HT_.out (by kernel_rfl)) (by decide) (fun K hK => ?_)
         refine goes_ Try.func45 (by kernel_rfl) rfl #[.int .i64 ((rd_T77 l0 x9_1).f0)] (by rfl) rfl rfl mT ?_
         with_reducible refine (impl_FormatInt.calls k1 ((rd_T77 l0 x9_1).f0) t174 _ A7.out).mono ?_
         rintro e w16 ⟨rfl, hb⟩
         refine ⟨_, rfl, ?_⟩
         replace HO_3 := rBR HO_3 hb
         replace BK173 := kB BK173 hb
         replace HB := mA (below_step (bT1 HB GE173) hb)
         (try clear hb)
         (try clear hb2)
         (try clear hk)
         (try clear hi)
         refine hK.out _ _ ⟨(blk_cell BK173.out 0).trans rfl, (blk_cell BK173.out 1).trans rfl, (blk_cell BK173.out 2).trans rfl, (blk_cell BK173.out 3).trans rfl, (blk_cell BK173.out 4).trans rfl, (blk_cell BK173.out 5).trans rfl⟩ (fun hHeld => ?_)
         clear hK K
         refine norm_ (a' := ?_) ?_ ?_
         rotate_left
         ·
          show Act.put _ (some 16) _ = _
          simp only [Act.put, List.setIfInBounds_toArray, List.set_cons_zero, List.set_cons_succ, i64_w, i32_w]
          rfl
         refine pureT (i := 4) (N := some 17) #[true, true, true, true, true, true, true, false, false, false, false, false] (any_of HT_.out (by kernel_rfl)) ?_
         refine one_ (i := 7) (N := some 20) #[true, true, true, true, true, true, true, true, false, false, false, false] rfl rfl (one_of HT_.out (by kernel_rfl)) (by decide) (fun K hK => ?_)
         refine goes_ Try.func46 (by kernel_rfl) rfl #[.agg #[.int .i64 ((rd_T77 l0 x9_1).f1.f0), .int .i64 ((rd_T77 l0 x9_1).f1.f1), .int .i64 ((rd_T77 l0 x9_1).f1.f2), .int .i64 ((rd_T77 l0 x9_1).f1.f3), .int .i64 ((rd_T77 l0 x9_1).f1.f4)]] (by rfl) rfl rfl mT ?_
         with_reducible refine (impl_groupText.calls k1 ((rd_T77 l0 x9_1).f1.f0) ((rd_T77 l0 x9_1).f1.f1) ((rd_T77 l0 x9_1).f1.f2) ((rd_T77 l0 x9_1).f1.f3) ((rd_T77 l0 x9_1).f1.f4) t175 _ A9.out).mono ?_
         rintro e w17 ⟨rfl, hb⟩
         refine ⟨_, rfl, ?_⟩
         replace HO_3 := rBR HO_3 hb
         replace BK173 := kB BK173 hb
         replace HB := mA (below_step (bT1 HB GE173) hb)
         (try clear hb)
         (try clear hb2)
         (try clear hk)
         (try clear hi)
         refine hK.out _ _ ⟨(blk_cell BK173.out 0).trans rfl, (blk_cell BK173.out 1).trans rfl, (blk_cell BK173.out 2).trans rfl, (blk_cell BK173.out 3).trans rfl, (blk_cell BK173.out 4).trans rfl, (blk_cell BK173.out 5).trans rfl⟩ (fun hHeld => ?_)
         clear hK K
         refine norm_ (a' := ?_) ?_ ?_
         rotate_left
         ·
          show Act.put _ (some 20) _ = _
          simp only [Act.put, List.setIfInBounds_toArray, List.set_cons_zero, List.set_cons_succ, i64_w, i32_w]
          rfl
         refine pureT (i := 8) (N := some 21) #[true, true, true, true, true, true, true, true, true, false, false, false] (any_of HT_.out (by kernel_rfl)) ?_
         refine one_ (i := 9) (N := some 22) #[true, true, true, true, true, true, true, true, true, true, false, false] rfl rfl (one_of HT_.out (by kernel_rfl)) (by decide) (fun K hK => ?_)
         refine value_ (w1 := ?_) (v := ?_) (by rfl) rfl ?_ ?_
         rotate_left 2
         ·
          go_simp
          constructor
          ·
           rfl
          ·
           rfl
         refine hK.out _ _ ⟨(blk_cell (blk_alloc BK173.out _) 0).trans rfl, (blk_cell (blk_alloc BK173.out _) 1).trans rfl, (blk_cell (blk_alloc BK173.out _) 2).trans rfl, (blk_cell (blk_alloc BK173.out _) 3).trans rfl, (blk_cell (blk_alloc BK173.out _) 4).trans rfl, (blk_cell (blk_alloc BK173.out _) 5).trans rfl⟩ (fun hHeld => ?_)
         clear hK K
         refine norm_ (a' := ?_) ?_ ?_
         rotate_left
         ·
          show Act.put _ (some 22) _ = _
          simp only [Act.put, List.setIfInBounds_toArray, List.set_cons_zero, List.set_cons_succ, i64_w, i32_w]
          rfl
         refine one_ (i := 10) (N := some 23) #[true, true, true, true, true, true, true, true, true, true, true, false] rfl rfl (one_of HT_.out (by kernel_rfl)) (by decide) (fun K hK => ?_)
         refine Kd.R_append_step Kd.string (w0 := w) w.heap.size (by rfl) (.tmp 13) (.tmp 22) 84 9 (.string ⟨#[]⟩) 16 rfl Try.underlying84 info9 rfl (by decide) (by omega) u3 x3_1 ((t174 ++ (⟨#[47]⟩ : ByteArray)) ++ t175) [.string ((t174 ++ (⟨#[47]⟩ : ByteArray)) ++ t175)] (fun _ => True) (fun _ => False) rfl rfl ?aP (fun _ hk => hk.elim) ?aF ?aO ?aB ?aS ?aL ?_
         (case aP => exact rfl)
         (case aB => exact (bT1 HB GE173))
         (case aF => exact (fun _ _ => trivial))
         (case aO => exact (rTR HO_3))
         (case aS => exact (below_size (bT1 HB GE173)))
         (case aL => have := LMc11.out; omega)
         intro v177 w18 ho hb hg hat
         rw [← Ny176.out] at ho
         replace BK173 := mA (blk_grown (g := gb173) (o := .cells #[.int .i64 ((rd_T77 l0 x9_1).f0), .int .i64 ((rd_T77 l0 x9_1).f1.f0), .int .i64 ((rd_T77 l0 x9_1).f1.f1), .int .i64 ((rd_T77 l0 x9_1).f1.f2), .int .i64 ((rd_T77 l0 x9_1).f1.f3), .int .i64 ((rd_T77 l0 x9_1).f1.f4)] 77 (0, 0)) (kT BK173) hg (Kd.R_ne HO_3.out BK173.out (by decide)))
         replace HB := mA (hb)
         have HO178 := mA (ho)
         clear HO_3
         clear ho hb hg hat
         refine hK.out _ _ ⟨(blk_cell BK173.out 0).trans rfl, (blk_cell BK173.out 1).trans rfl, (blk_cell BK173.out 2).trans rfl, (blk_cell BK173.out 3).trans rfl, (blk_cell BK173.out 4).trans rfl, (blk_cell BK173.out 5).trans rfl⟩ (fun hHeld => ?_)
         clear hK K
         refine norm_ (a' := ?_) ?_ ?_
         rotate_left
         ·
          show Act.put _ (some 23) _ = _
          simp only [Act.put, List.setIfInBounds_toArray, List.set_cons_zero, List.set_cons_succ, i64_w, i32_w]
          rfl
         refine pureT (i := 11) (N := some 3) #[true, true, true, true, true, true, true, true, true, true, true, true] (any_of HT_.out (by kernel_rfl)) ?_
         refine done_ (done_of HT_.out (by kernel_rfl)) ?_
         try go_wp2
         go_roundg k1
         case measure => have := HK1.out; omega
         case rel => exact ⟨(y176), (wrap64 (x9_1 + 1)), sT, H', ⟨by have := HK1.out; omega⟩, ⟨rTR HO178⟩, ⟨bT1 HB GE173⟩⟩
        ·
         rw [if_neg c11] at H
         exact absurd H (by simp)
       ·
        rw [if_neg c10] at H
        exact absurd H (by simp)
      ·
       rw [if_neg c8] at H
       exact absurd H (by simp)
     ·
      rw [if_neg c6] at H
      exact absurd H (by simp)
    ·
     rw [if_neg c5] at H
     exact absurd H (by simp)
   ·
    rw [if_neg c4] at H
    have c4b0 : decide (x9_1 < (l0.length : Int)) = false := decide_eq_false c4
    clear c4
    obtain ⟨t179, A19, H⟩ := Option.bind_eq_some_iff.mp H
    replace A19 := mA A19
    replace H : (some t179) = some r := H
    obtain rfl := Option.some.inj H
    obtain ⟨Ao20, co20, eo20⟩ := Kd.R_slice HO_3.out
    subst eo20
    go_wp2_with (first | ((with_reducible refine gate_callee (f := 47) rfl ?_); refine goesT (some 26) Try.func47 #[.slice Ao20 x3_1.length co20, .string (⟨#[32]⟩ : ByteArray)] ?_; (with_reducible refine (impl_joined.calls k1 _ _ x3_1 (⟨#[32]⟩ : ByteArray) t179 _ ?side1 ?side2 A19.out).mono ?_); (case side1 => exact cT ((Kd.R_reads' HO_3.out).2.2)); (case side2 => exact (Kd.R_reads' HO_3.out).2.1); rintro e w' ⟨rfl, ⟨nd, rfl⟩⟩; refine ⟨_, rfl, ?_⟩))
    go_ret
    exact ⟨eT, bT HB⟩

/-! ### laws_eqGroup: function 85 -/
def laws_eqGroup.f (a0_0 : Int) (a0_1 : Int) (a0_2 : Int) (a0_3 : Int) (a0_4 : Int) (a1_0 : Int) (a1_1 : Int) (a1_2 : Int) (a1_3 : Int) (a1_4 : Int) : Option (Bool) := if a0_0 = a1_0 then (if a0_1 = a1_1 then (if a0_2 = a1_2 then (if a0_3 = a1_3 then (if a0_4 = a1_4 then (some true) else (some false)) else (some false)) else (some false)) else (some false)) else (some false)
set_option maxHeartbeats 8000000 in
set_option maxRecDepth 100000 in
theorem laws_eqGroup.calls (a0_0 : Int) (a0_1 : Int) (a0_2 : Int) (a0_3 : Int) (a0_4 : Int) (a1_0 : Int) (a1_1 : Int) (a1_2 : Int) (a1_3 : Int) (a1_4 : Int) (r : Bool) (w : World) (h : laws_eqGroup.f a0_0 a0_1 a0_2 a0_3 a0_4 a1_0 a1_1 a1_2 a1_3 a1_4 = some r) :
  Calls Try.prog 85 #[.agg #[.int .i64 a0_0, .int .i64 a0_1, .int .i64 a0_2, .int .i64 a0_3, .int .i64 a0_4], .agg #[.int .i64 a1_0, .int .i64 a1_1, .int .i64 a1_2, .int .i64 a1_3, .int .i64 a1_4]] w fun e w' => e = .returned (.bool r) ∧ Below w.heap.size w w' := by
 have hu75 := Try.underlying75
 have HB := mA (Below.refl w.heap.size w)
 have H : (if a0_0 = a1_0 then (if a0_1 = a1_1 then (if a0_2 = a1_2 then (if a0_3 = a1_3 then (if a0_4 = a1_4 then (some true) else (some false)) else (some false)) else (some false)) else (some false)) else (some false)) = some r := h
 clear h
 by_cases c3 : a0_0 = a1_0
 ·
  rw [if_pos c3] at H
  have c3b0 : (a0_0 == a1_0) = true := beq_iff_eq.mpr c3
  have c3b1 : (a0_0 != a1_0) = false := bne_eq_false_iff_eq.mpr c3
  clear c3
  by_cases c4 : a0_1 = a1_1
  ·
   rw [if_pos c4] at H
   have c4b0 : (a0_1 == a1_1) = true := beq_iff_eq.mpr c4
   have c4b1 : (a0_1 != a1_1) = false := bne_eq_false_iff_eq.mpr c4
   clear c4
   by_cases c5 : a0_2 = a1_2
   ·
    rw [if_pos c5] at H
    have c5b0 : (a0_2 == a1_2) = true := beq_iff_eq.mpr c5
    have c5b1 : (a0_2 != a1_2) = false := bne_eq_false_iff_eq.mpr c5
    clear c5
    by_cases c6 : a0_3 = a1_3
    ·
     rw [if_pos c6] at H
     have c6b0 : (a0_3 == a1_3) = true := beq_iff_eq.mpr c6
     have c6b1 : (a0_3 != a1_3) = false := bne_eq_false_iff_eq.mpr c6
     clear c6
     by_cases c7 : a0_4 = a1_4
     ·
      rw [if_pos c7] at H
      have c7b0 : (a0_4 == a1_4) = true := beq_iff_eq.mpr c7
      have c7b1 : (a0_4 != a1_4) = false := bne_eq_false_iff_eq.mpr c7
      clear c7
      obtain rfl := Option.some.inj H
      go_enter Try.func85, Try.ntmps85
      go_wp2_with (first | ((with_reducible refine gate_dst (N := 2) rfl ?_); refine boxT 2 #[.int .i64 a0_0, .int .i64 a0_1, .int .i64 a0_2, .int .i64 a0_3, .int .i64 a0_4] 75 ?_; intro gb180 hg w8 hbox hb; have BK180 := mA (hbox); have GW180 := mA ((by rw [hg]; exact (below_size (bT HB)) : w.heap.size ≤ gb180)); have GE180 := GW180; replace HB := mA (below_step (bT HB) hb); clear hb hbox hg) | ((with_reducible refine gate_dst (N := 3) rfl ?_); refine boxT 3 #[.int .i64 a1_0, .int .i64 a1_1, .int .i64 a1_2, .int .i64 a1_3, .int .i64 a1_4] 75 ?_; intro gb181 hg w9 hbox hb; have BK181 := mA (hbox); have GW181 := mA ((by rw [hg]; exact (below_size (bT1 HB GE180)) : w.heap.size ≤ gb181)); have GE181 := GW181; replace HB := mA (below_step (bT1 HB GE180) hb); have NB180_181 : Aside0 (gb180 ≠ gb181) := nL BK180 hg; have NB181_180 : Aside0 (gb181 ≠ gb180) := nG BK180 hg; replace BK180 := kB BK180 hb; clear hb hbox hg; have hnb10 := NB180_181.out; have hnc10 := NB181_180.out; obtain ⟨hcz11_0, hcz11_1, hcz11_2, hcz11_3, hcz11_4, hfz11_0, hfz11_1, hfz11_2, hfz11_3, hfz11_4⟩ := blk5 BK180.out; obtain ⟨hcz12_0, hcz12_1, hcz12_2, hcz12_3, hcz12_4, hfz12_0, hfz12_1, hfz12_2, hfz12_3, hfz12_4⟩ := blk5 BK181.out))
      go_ret
      exact ⟨eT, bT2 HB GE180 GE181⟩
     ·
      rw [if_neg c7] at H
      have c7b0 : (a0_4 == a1_4) = false := beq_eq_false_iff_ne.mpr c7
      have c7b1 : (a0_4 != a1_4) = true := bne_iff_ne.mpr c7
      obtain rfl := Option.some.inj H
      go_enter Try.func85, Try.ntmps85
      go_wp2_with (first | ((with_reducible refine gate_dst (N := 2) rfl ?_); refine boxT 2 #[.int .i64 a0_0, .int .i64 a0_1, .int .i64 a0_2, .int .i64 a0_3, .int .i64 a0_4] 75 ?_; intro gb180 hg w13 hbox hb; have BK180 := mA (hbox); have GW180 := mA ((by rw [hg]; exact (below_size (bT HB)) : w.heap.size ≤ gb180)); have GE180 := GW180; replace HB := mA (below_step (bT HB) hb); clear hb hbox hg) | ((with_reducible refine gate_dst (N := 3) rfl ?_); refine boxT 3 #[.int .i64 a1_0, .int .i64 a1_1, .int .i64 a1_2, .int .i64 a1_3, .int .i64 a1_4] 75 ?_; intro gb181 hg w14 hbox hb; have BK181 := mA (hbox); have GW181 := mA ((by rw [hg]; exact (below_size (bT1 HB GE180)) : w.heap.size ≤ gb181)); have GE181 := GW181; replace HB := mA (below_step (bT1 HB GE180) hb); have NB180_181 : Aside0 (gb180 ≠ gb181) := nL BK180 hg; have NB181_180 : Aside0 (gb181 ≠ gb180) := nG BK180 hg; replace BK180 := kB BK180 hb; clear hb hbox hg; have hnb15 := NB180_181.out; have hnc15 := NB181_180.out; obtain ⟨hcz16_0, hcz16_1, hcz16_2, hcz16_3, hcz16_4, hfz16_0, hfz16_1, hfz16_2, hfz16_3, hfz16_4⟩ := blk5 BK180.out; obtain ⟨hcz17_0, hcz17_1, hcz17_2, hcz17_3, hcz17_4, hfz17_0, hfz17_1, hfz17_2, hfz17_3, hfz17_4⟩ := blk5 BK181.out))
      go_ret
      exact ⟨eT, bT2 HB GE180 GE181⟩
    ·
     rw [if_neg c6] at H
     have c6b0 : (a0_3 == a1_3) = false := beq_eq_false_iff_ne.mpr c6
     have c6b1 : (a0_3 != a1_3) = true := bne_iff_ne.mpr c6
     obtain rfl := Option.some.inj H
     go_enter Try.func85, Try.ntmps85
     go_wp2_with (first | ((with_reducible refine gate_dst (N := 2) rfl ?_); refine boxT 2 #[.int .i64 a0_0, .int .i64 a0_1, .int .i64 a0_2, .int .i64 a0_3, .int .i64 a0_4] 75 ?_; intro gb180 hg w18 hbox hb; have BK180 := mA (hbox); have GW180 := mA ((by rw [hg]; exact (below_size (bT HB)) : w.heap.size ≤ gb180)); have GE180 := GW180; replace HB := mA (below_step (bT HB) hb); clear hb hbox hg) | ((with_reducible refine gate_dst (N := 3) rfl ?_); refine boxT 3 #[.int .i64 a1_0, .int .i64 a1_1, .int .i64 a1_2, .int .i64 a1_3, .int .i64 a1_4] 75 ?_; intro gb181 hg w19 hbox hb; have BK181 := mA (hbox); have GW181 := mA ((by rw [hg]; exact (below_size (bT1 HB GE180)) : w.heap.size ≤ gb181)); have GE181 := GW181; replace HB := mA (below_step (bT1 HB GE180) hb); have NB180_181 : Aside0 (gb180 ≠ gb181) := nL BK180 hg; have NB181_180 : Aside0 (gb181 ≠ gb180) := nG BK180 hg; replace BK180 := kB BK180 hb; clear hb hbox hg; have hnb20 := NB180_181.out; have hnc20 := NB181_180.out; obtain ⟨hcz21_0, hcz21_1, hcz21_2, hcz21_3, hcz21_4, hfz21_0, hfz21_1, hfz21_2, hfz21_3, hfz21_4⟩ := blk5 BK180.out; obtain ⟨hcz22_0, hcz22_1, hcz22_2, hcz22_3, hcz22_4, hfz22_0, hfz22_1, hfz22_2, hfz22_3, hfz22_4⟩ := blk5 BK181.out))
     go_ret
     exact ⟨eT, bT2 HB GE180 GE181⟩
   ·
    rw [if_neg c5] at H
    have c5b0 : (a0_2 == a1_2) = false := beq_eq_false_iff_ne.mpr c5
    have c5b1 : (a0_2 != a1_2) = true := bne_iff_ne.mpr c5
    obtain rfl := Option.some.inj H
    go_enter Try.func85, Try.ntmps85
    go_wp2_with (first | ((with_reducible refine gate_dst (N := 2) rfl ?_); refine boxT 2 #[.int .i64 a0_0, .int .i64 a0_1, .int .i64 a0_2, .int .i64 a0_3, .int .i64 a0_4] 75 ?_; intro gb180 hg w23 hbox hb; have BK180 := mA (hbox); have GW180 := mA ((by rw [hg]; exact (below_size (bT HB)) : w.heap.size ≤ gb180)); have GE180 := GW180; replace HB := mA (below_step (bT HB) hb); clear hb hbox hg) | ((with_reducible refine gate_dst (N := 3) rfl ?_); refine boxT 3 #[.int .i64 a1_0, .int .i64 a1_1, .int .i64 a1_2, .int .i64 a1_3, .int .i64 a1_4] 75 ?_; intro gb181 hg w24 hbox hb; have BK181 := mA (hbox); have GW181 := mA ((by rw [hg]; exact (below_size (bT1 HB GE180)) : w.heap.size ≤ gb181)); have GE181 := GW181; replace HB := mA (below_step (bT1 HB GE180) hb); have NB180_181 : Aside0 (gb180 ≠ gb181) := nL BK180 hg; have NB181_180 : Aside0 (gb181 ≠ gb180) := nG BK180 hg; replace BK180 := kB BK180 hb; clear hb hbox hg; have hnb25 := NB180_181.out; have hnc25 := NB181_180.out; obtain ⟨hcz26_0, hcz26_1, hcz26_2, hcz26_3, hcz26_4, hfz26_0, hfz26_1, hfz26_2, hfz26_3, hfz26_4⟩ := blk5 BK180.out; obtain ⟨hcz27_0, hcz27_1, hcz27_2, hcz27_3, hcz27_4, hfz27_0, hfz27_1, hfz27_2, hfz27_3, hfz27_4⟩ := blk5 BK181.out))
    go_ret
    exact ⟨eT, bT2 HB GE180 GE181⟩
  ·
   rw [if_neg c4] at H
   have c4b0 : (a0_1 == a1_1) = false := beq_eq_false_iff_ne.mpr c4
   have c4b1 : (a0_1 != a1_1) = true := bne_iff_ne.mpr c4
   obtain rfl := Option.some.inj H
   go_enter Try.func85, Try.ntmps85
   go_wp2_with (first | ((with_reducible refine gate_dst (N := 2) rfl ?_); refine boxT 2 #[.int .i64 a0_0, .int .i64 a0_1, .int .i64 a0_2, .int .i64 a0_3, .int .i64 a0_4] 75 ?_; intro gb180 hg w28 hbox hb; have BK180 := mA (hbox); have GW180 := mA ((by rw [hg]; exact (below_size (bT HB)) : w.heap.size ≤ gb180)); have GE180 := GW180; replace HB := mA (below_step (bT HB) hb); clear hb hbox hg) | ((with_reducible refine gate_dst (N := 3) rfl ?_); refine boxT 3 #[.int .i64 a1_0, .int .i64 a1_1, .int .i64 a1_2, .int .i64 a1_3, .int .i64 a1_4] 75 ?_; intro gb181 hg w29 hbox hb; have BK181 := mA (hbox); have GW181 := mA ((by rw [hg]; exact (below_size (bT1 HB GE180)) : w.heap.size ≤ gb181)); have GE181 := GW181; replace HB := mA (below_step (bT1 HB GE180) hb); have NB180_181 : Aside0 (gb180 ≠ gb181) := nL BK180 hg; have NB181_180 : Aside0 (gb181 ≠ gb180) := nG BK180 hg; replace BK180 := kB BK180 hb; clear hb hbox hg; have hnb30 := NB180_181.out; have hnc30 := NB181_180.out; obtain ⟨hcz31_0, hcz31_1, hcz31_2, hcz31_3, hcz31_4, hfz31_0, hfz31_1, hfz31_2, hfz31_3, hfz31_4⟩ := blk5 BK180.out; obtain ⟨hcz32_0, hcz32_1, hcz32_2, hcz32_3, hcz32_4, hfz32_0, hfz32_1, hfz32_2, hfz32_3, hfz32_4⟩ := blk5 BK181.out))
   go_ret
   exact ⟨eT, bT2 HB GE180 GE181⟩
 ·
  rw [if_neg c3] at H
  have c3b0 : (a0_0 == a1_0) = false := beq_eq_false_iff_ne.mpr c3
  have c3b1 : (a0_0 != a1_0) = true := bne_iff_ne.mpr c3
  obtain rfl := Option.some.inj H
  go_enter Try.func85, Try.ntmps85
  go_wp2_with (first | ((with_reducible refine gate_dst (N := 2) rfl ?_); refine boxT 2 #[.int .i64 a0_0, .int .i64 a0_1, .int .i64 a0_2, .int .i64 a0_3, .int .i64 a0_4] 75 ?_; intro gb180 hg w33 hbox hb; have BK180 := mA (hbox); have GW180 := mA ((by rw [hg]; exact (below_size (bT HB)) : w.heap.size ≤ gb180)); have GE180 := GW180; replace HB := mA (below_step (bT HB) hb); clear hb hbox hg) | ((with_reducible refine gate_dst (N := 3) rfl ?_); refine boxT 3 #[.int .i64 a1_0, .int .i64 a1_1, .int .i64 a1_2, .int .i64 a1_3, .int .i64 a1_4] 75 ?_; intro gb181 hg w34 hbox hb; have BK181 := mA (hbox); have GW181 := mA ((by rw [hg]; exact (below_size (bT1 HB GE180)) : w.heap.size ≤ gb181)); have GE181 := GW181; replace HB := mA (below_step (bT1 HB GE180) hb); have NB180_181 : Aside0 (gb180 ≠ gb181) := nL BK180 hg; have NB181_180 : Aside0 (gb181 ≠ gb180) := nG BK180 hg; replace BK180 := kB BK180 hb; clear hb hbox hg; have hnb35 := NB180_181.out; have hnc35 := NB181_180.out; obtain ⟨hcz36_0, hcz36_1, hcz36_2, hcz36_3, hcz36_4, hfz36_0, hfz36_1, hfz36_2, hfz36_3, hfz36_4⟩ := blk5 BK180.out; obtain ⟨hcz37_0, hcz37_1, hcz37_2, hcz37_3, hcz37_4, hfz37_0, hfz37_1, hfz37_2, hfz37_3, hfz37_4⟩ := blk5 BK181.out))
  go_ret
  exact ⟨eT, bT2 HB GE180 GE181⟩

/-! ### laws_eqRollupRow: function 48 -/
def laws_eqRollupRow.f (a0_0 : Int) (a0_1 : Int) (a0_2 : Int) (a0_3 : Int) (a0_4 : Int) (a0_5 : Int) (a1_0 : Int) (a1_1 : Int) (a1_2 : Int) (a1_3 : Int) (a1_4 : Int) (a1_5 : Int) : Option (Bool) := if a0_0 = a1_0 then ((laws_eqGroup.f a0_1 a0_2 a0_3 a0_4 a0_5 a1_1 a1_2 a1_3 a1_4 a1_5).bind fun t184 => (if t184 = true then (some true) else (some false))) else (some false)
set_option maxHeartbeats 8000000 in
set_option maxRecDepth 100000 in
theorem laws_eqRollupRow.calls (a0_0 : Int) (a0_1 : Int) (a0_2 : Int) (a0_3 : Int) (a0_4 : Int) (a0_5 : Int) (a1_0 : Int) (a1_1 : Int) (a1_2 : Int) (a1_3 : Int) (a1_4 : Int) (a1_5 : Int) (r : Bool) (w : World) (h : laws_eqRollupRow.f a0_0 a0_1 a0_2 a0_3 a0_4 a0_5 a1_0 a1_1 a1_2 a1_3 a1_4 a1_5 = some r) :
  Calls Try.prog 48 #[.agg #[.int .i64 a0_0, .int .i64 a0_1, .int .i64 a0_2, .int .i64 a0_3, .int .i64 a0_4, .int .i64 a0_5], .agg #[.int .i64 a1_0, .int .i64 a1_1, .int .i64 a1_2, .int .i64 a1_3, .int .i64 a1_4, .int .i64 a1_5]] w fun e w' => e = .returned (.bool r) ∧ Below w.heap.size w w' := by
 have hu77 := Try.underlying77
 have hu75 := Try.underlying75
 have HB := mA (Below.refl w.heap.size w)
 have H : (if a0_0 = a1_0 then ((laws_eqGroup.f a0_1 a0_2 a0_3 a0_4 a0_5 a1_1 a1_2 a1_3 a1_4 a1_5).bind fun t184 => (if t184 = true then (some true) else (some false))) else (some false)) = some r := h
 clear h
 by_cases c3 : a0_0 = a1_0
 ·
  rw [if_pos c3] at H
  have c3b0 : (a0_0 == a1_0) = true := beq_iff_eq.mpr c3
  have c3b1 : (a0_0 != a1_0) = false := bne_eq_false_iff_eq.mpr c3
  clear c3
  obtain ⟨t184, A4, H⟩ := Option.bind_eq_some_iff.mp H
  replace A4 := mA A4
  replace H : (if t184 = true then (some true) else (some false)) = some r := H
  by_cases c5 : t184 = true
  ·
   subst c5
   rw [if_pos rfl] at H
   obtain rfl := Option.some.inj H
   go_enter Try.func48, Try.ntmps48
   go_wp2_with (first | ((with_reducible refine gate_dst (N := 2) rfl ?_); refine boxT 2 #[.int .i64 a0_0, .int .i64 a0_1, .int .i64 a0_2, .int .i64 a0_3, .int .i64 a0_4, .int .i64 a0_5] 77 ?_; intro gb182 hg w6 hbox hb; have BK182 := mA (hbox); have GW182 := mA ((by rw [hg]; exact (below_size (bT HB)) : w.heap.size ≤ gb182)); have GE182 := GW182; replace HB := mA (below_step (bT HB) hb); clear hb hbox hg) | ((with_reducible refine gate_dst (N := 3) rfl ?_); refine boxT 3 #[.int .i64 a1_0, .int .i64 a1_1, .int .i64 a1_2, .int .i64 a1_3, .int .i64 a1_4, .int .i64 a1_5] 77 ?_; intro gb183 hg w7 hbox hb; have BK183 := mA (hbox); have GW183 := mA ((by rw [hg]; exact (below_size (bT1 HB GE182)) : w.heap.size ≤ gb183)); have GE183 := GW183; replace HB := mA (below_step (bT1 HB GE182) hb); have NB182_183 : Aside0 (gb182 ≠ gb183) := nL BK182 hg; have NB183_182 : Aside0 (gb183 ≠ gb182) := nG BK182 hg; replace BK182 := kB BK182 hb; clear hb hbox hg; have hnb8 := NB182_183.out; have hnc8 := NB183_182.out; obtain ⟨hcz9_0, hcz9_1, hcz9_2, hcz9_3, hcz9_4, hcz9_5, hfz9_0, hfz9_1, hfz9_2, hfz9_3, hfz9_4, hfz9_5⟩ := blk6 BK182.out; obtain ⟨hcz10_0, hcz10_1, hcz10_2, hcz10_3, hcz10_4, hcz10_5, hfz10_0, hfz10_1, hfz10_2, hfz10_3, hfz10_4, hfz10_5⟩ := blk6 BK183.out) | ((with_reducible refine gate_callee (f := 85) rfl ?_); refine goesT (some 14) Try.func85 #[.agg #[.int .i64 a0_1, .int .i64 a0_2, .int .i64 a0_3, .int .i64 a0_4, .int .i64 a0_5], .agg #[.int .i64 a1_1, .int .i64 a1_2, .int .i64 a1_3, .int .i64 a1_4, .int .i64 a1_5]] ?_; (with_reducible refine (laws_eqGroup.calls a0_1 a0_2 a0_3 a0_4 a0_5 a1_1 a1_2 a1_3 a1_4 a1_5 true _ A4.out).mono ?_); rintro e w11 ⟨rfl, hb⟩; refine ⟨_, rfl, ?_⟩; replace HB := mA (below_step (bT2 HB GE182 GE183) hb); (try clear hb)))
   go_ret
   exact ⟨eT, bT2 HB GE182 GE183⟩
  ·
   replace c5 := Bool.eq_false_iff.mpr c5
   subst c5
   rw [if_neg (show ¬ (false = true) by decide)] at H
   obtain rfl := Option.some.inj H
   go_enter Try.func48, Try.ntmps48
   go_wp2_with (first | ((with_reducible refine gate_dst (N := 2) rfl ?_); refine boxT 2 #[.int .i64 a0_0, .int .i64 a0_1, .int .i64 a0_2, .int .i64 a0_3, .int .i64 a0_4, .int .i64 a0_5] 77 ?_; intro gb182 hg w12 hbox hb; have BK182 := mA (hbox); have GW182 := mA ((by rw [hg]; exact (below_size (bT HB)) : w.heap.size ≤ gb182)); have GE182 := GW182; replace HB := mA (below_step (bT HB) hb); clear hb hbox hg) | ((with_reducible refine gate_dst (N := 3) rfl ?_); refine boxT 3 #[.int .i64 a1_0, .int .i64 a1_1, .int .i64 a1_2, .int .i64 a1_3, .int .i64 a1_4, .int .i64 a1_5] 77 ?_; intro gb183 hg w13 hbox hb; have BK183 := mA (hbox); have GW183 := mA ((by rw [hg]; exact (below_size (bT1 HB GE182)) : w.heap.size ≤ gb183)); have GE183 := GW183; replace HB := mA (below_step (bT1 HB GE182) hb); have NB182_183 : Aside0 (gb182 ≠ gb183) := nL BK182 hg; have NB183_182 : Aside0 (gb183 ≠ gb182) := nG BK182 hg; replace BK182 := kB BK182 hb; clear hb hbox hg; have hnb14 := NB182_183.out; have hnc14 := NB183_182.out; obtain ⟨hcz15_0, hcz15_1, hcz15_2, hcz15_3, hcz15_4, hcz15_5, hfz15_0, hfz15_1, hfz15_2, hfz15_3, hfz15_4, hfz15_5⟩ := blk6 BK182.out; obtain ⟨hcz16_0, hcz16_1, hcz16_2, hcz16_3, hcz16_4, hcz16_5, hfz16_0, hfz16_1, hfz16_2, hfz16_3, hfz16_4, hfz16_5⟩ := blk6 BK183.out) | ((with_reducible refine gate_callee (f := 85) rfl ?_); refine goesT (some 14) Try.func85 #[.agg #[.int .i64 a0_1, .int .i64 a0_2, .int .i64 a0_3, .int .i64 a0_4, .int .i64 a0_5], .agg #[.int .i64 a1_1, .int .i64 a1_2, .int .i64 a1_3, .int .i64 a1_4, .int .i64 a1_5]] ?_; (with_reducible refine (laws_eqGroup.calls a0_1 a0_2 a0_3 a0_4 a0_5 a1_1 a1_2 a1_3 a1_4 a1_5 false _ A4.out).mono ?_); rintro e w17 ⟨rfl, hb⟩; refine ⟨_, rfl, ?_⟩; replace HB := mA (below_step (bT2 HB GE182 GE183) hb); (try clear hb)))
   go_ret
   exact ⟨eT, bT2 HB GE182 GE183⟩
 ·
  rw [if_neg c3] at H
  have c3b0 : (a0_0 == a1_0) = false := beq_eq_false_iff_ne.mpr c3
  have c3b1 : (a0_0 != a1_0) = true := bne_iff_ne.mpr c3
  obtain rfl := Option.some.inj H
  go_enter Try.func48, Try.ntmps48
  go_wp2_with (first | ((with_reducible refine gate_dst (N := 2) rfl ?_); refine boxT 2 #[.int .i64 a0_0, .int .i64 a0_1, .int .i64 a0_2, .int .i64 a0_3, .int .i64 a0_4, .int .i64 a0_5] 77 ?_; intro gb182 hg w18 hbox hb; have BK182 := mA (hbox); have GW182 := mA ((by rw [hg]; exact (below_size (bT HB)) : w.heap.size ≤ gb182)); have GE182 := GW182; replace HB := mA (below_step (bT HB) hb); clear hb hbox hg) | ((with_reducible refine gate_dst (N := 3) rfl ?_); refine boxT 3 #[.int .i64 a1_0, .int .i64 a1_1, .int .i64 a1_2, .int .i64 a1_3, .int .i64 a1_4, .int .i64 a1_5] 77 ?_; intro gb183 hg w19 hbox hb; have BK183 := mA (hbox); have GW183 := mA ((by rw [hg]; exact (below_size (bT1 HB GE182)) : w.heap.size ≤ gb183)); have GE183 := GW183; replace HB := mA (below_step (bT1 HB GE182) hb); have NB182_183 : Aside0 (gb182 ≠ gb183) := nL BK182 hg; have NB183_182 : Aside0 (gb183 ≠ gb182) := nG BK182 hg; replace BK182 := kB BK182 hb; clear hb hbox hg; have hnb20 := NB182_183.out; have hnc20 := NB183_182.out; obtain ⟨hcz21_0, hcz21_1, hcz21_2, hcz21_3, hcz21_4, hcz21_5, hfz21_0, hfz21_1, hfz21_2, hfz21_3, hfz21_4, hfz21_5⟩ := blk6 BK182.out; obtain ⟨hcz22_0, hcz22_1, hcz22_2, hcz22_3, hcz22_4, hcz22_5, hfz22_0, hfz22_1, hfz22_2, hfz22_3, hfz22_4, hfz22_5⟩ := blk6 BK183.out))
  go_ret
  exact ⟨eT, bT2 HB GE182 GE183⟩

/-! ### laws_eqRollupRowS: function 14 -/
def laws_eqRollupRowS.l0 : Nat → List (S77) → List (S77) → Int → Option (Bool)
 | 0, _, _, _ => none
 | k + 1, x0, x1, x5 => if x5 < (x0.length : Int) then (if 0 ≤ x5 then (if x5 < (x1.length : Int) then ((laws_eqRollupRow.f ((rd_T77 x0 x5).f0) ((rd_T77 x0 x5).f1.f0) ((rd_T77 x0 x5).f1.f1) ((rd_T77 x0 x5).f1.f2) ((rd_T77 x0 x5).f1.f3) ((rd_T77 x0 x5).f1.f4) ((rd_T77 x1 x5).f0) ((rd_T77 x1 x5).f1.f0) ((rd_T77 x1 x5).f1.f1) ((rd_T77 x1 x5).f1.f2) ((rd_T77 x1 x5).f1.f3) ((rd_T77 x1 x5).f1.f4)).bind fun t187 => (if t187 = true then (laws_eqRollupRowS.l0 k x0 x1 (wrap64 (x5 + 1))) else (some false))) else (none)) else (none)) else (some true)
def laws_eqRollupRowS.f (k : Nat) (l0 : List (S77)) (l1 : List (S77)) : Option (Bool) := if (l0.length : Int) = (l1.length : Int) then (laws_eqRollupRowS.l0 k l0 l1 0) else (some false)
theorem laws_eqRollupRowS.mono_l : ∀ k, (∀ y0 y1 y2, LeO (laws_eqRollupRowS.l0 k y0 y1 y2) (laws_eqRollupRowS.l0 (k + 1) y0 y1 y2))
 | 0 => fun _ _ _ r h => by simp [laws_eqRollupRowS.l0] at h
 | k + 1 => by
  have ih0 := laws_eqRollupRowS.mono_l k
  ·
   intro y0 y1 y2
   unfold laws_eqRollupRowS.l0
   repeat' first
   | (with_reducible exact ih0 _ _ _)
   | (with_reducible exact LeO.refl _)
   | (with_reducible exact LeO.none _)
   | (with_reducible refine LeO.ite ?_ ?_)
   | (with_reducible refine LeO.bind ?_ (fun _ => ?_))
   | exact ih0 _ _ _
   | exact LeO.none _
   | refine LeO.ite ?_ ?_
   | refine LeO.bind ?_ (fun _ => ?_)
theorem laws_eqRollupRowS.mono : ∀ a0 a1 k, LeO (laws_eqRollupRowS.f k a0 a1) (laws_eqRollupRowS.f (k + 1) a0 a1) := by
 intro a0 a1 k
 have ih0 := laws_eqRollupRowS.mono_l k
 unfold laws_eqRollupRowS.f
 repeat' first
   | (with_reducible exact ih0 _ _ _)
   | (with_reducible exact LeO.refl _)
   | (with_reducible exact LeO.none _)
   | (with_reducible refine LeO.ite ?_ ?_)
   | (with_reducible refine LeO.bind ?_ (fun _ => ?_))
   | exact ih0 _ _ _
   | exact LeO.none _
   | refine LeO.ite ?_ ?_
   | refine LeO.bind ?_ (fun _ => ?_)
def laws_eqRollupRowS.T6 : Bool × List (List Nat × List Nat) := (true, [([], []), ([], []), ([0, 1], [0, 1]), ([2], [2]), ([], []), ([], []), ([4, 5], [4, 5]), ([6], [6]), ([3, 7], [3, 7]), ([8], [8])])
def laws_eqRollupRowS.B6 : List Nat := [0, 0, 3, 7, 0, 0, 48, 112, 255, 511]
theorem laws_eqRollupRowS.tab6 : rtab .any (opsOf Try.f14 6) = laws_eqRollupRowS.T6 := by kernel_rfl
theorem laws_eqRollupRowS.bits6 : waitsOk laws_eqRollupRowS.T6.2 laws_eqRollupRowS.B6 = true := by kernel_rfl
set_option maxHeartbeats 8000000 in
set_option maxRecDepth 100000 in
theorem laws_eqRollupRowS.calls (k : Nat) (A0 : Option Addr) (c0 : Nat) (l0 : List (S77)) (A1 : Option Addr) (c1 : Nat) (l1 : List (S77)) (r : Bool) (w : World) (hr0 : Kd.C k77 w A0 l0.length l0) (hc0 : l0.length ≤ c0) (hr1 : Kd.C k77 w A1 l1.length l1) (hc1 : l1.length ≤ c1) (h : laws_eqRollupRowS.f k l0 l1 = some r) :
  Calls Try.prog 14 #[.slice A0 l0.length c0, .slice A1 l1.length c1] w fun e w' => e = .returned (.bool r) ∧ Below w.heap.size w w' := by
 have hu77 := Try.underlying77
 have HR0 := mA hr0
 have HC0 := mA hc0
 clear hr0 hc0
 have HR1 := mA hr1
 have HC1 := mA hc1
 clear hr1 hc1
 have HB := mA (Below.refl w.heap.size w)
 have H : (if (l0.length : Int) = (l1.length : Int) then (laws_eqRollupRowS.l0 k l0 l1 0) else (some false)) = some r := h
 clear h
 by_cases c3 : (l0.length : Int) = (l1.length : Int)
 ·
  rw [if_pos c3] at H
  have c3b0 : ((l0.length : Int) == (l1.length : Int)) = true := beq_iff_eq.mpr c3
  have c3b1 : ((l0.length : Int) != (l1.length : Int)) = false := bne_eq_false_iff_eq.mpr c3
  have c3b2 : (l0.length == l1.length) = true := by first | simpa using c3 | (simp at c3 ⊢; omega)
  clear c3
  have H' := mA H
  clear H
  go_enter Try.func14, Try.ntmps14
  go_wp2
  go_loopg [5] k (fun kq v5 w' => ∃ (x5_1 : Int), v5 = .int .i64 x5_1 ∧ Aside0 (laws_eqRollupRowS.l0 kq l0 l1 x5_1 = some r) ∧ Aside0 (kq ≤ k) ∧ Aside0 (Below w.heap.size w w'))
  case atStart => exact ⟨(0), sT, H', ⟨Nat.le_refl _⟩, ⟨bT HB⟩⟩
  case round =>
   clear H'
   try clear c1
   try clear p2
   try clear c3
   try clear c3b0
   try clear c3b1
   try clear c3b2
   obtain ⟨x5_1, rfl, HA, HK1, HB⟩ := hrel
   cases gk with
   | zero => exact absurd HA.out (by simp [laws_eqRollupRowS.l0])
   | succ k1 =>
    have H := HA.out
    clear HA
    simp only [laws_eqRollupRowS.l0] at H
    by_cases c4 : x5_1 < (l0.length : Int)
    ·
     rw [if_pos c4] at H
     have c4b0 : decide (x5_1 < (l0.length : Int)) = true := decide_eq_true c4
     clear c4
     by_cases c5 : 0 ≤ x5_1
     ·
      rw [if_pos c5] at H
      have c5b0 : decide (0 ≤ x5_1) = true := decide_eq_true c5
      clear c5
      by_cases c6 : x5_1 < (l1.length : Int)
      ·
       rw [if_pos c6] at H
       have c6b0 : decide (x5_1 < (l1.length : Int)) = true := decide_eq_true c6
       clear c6
       obtain ⟨t187, A7, H⟩ := Option.bind_eq_some_iff.mp H
       replace A7 := mA A7
       try dsimp only at H
       by_cases c8 : t187 = true
       ·
        subst c8
        rw [if_pos rfl] at H
        have H' := mA H
        clear H
        try go_wp2
        replace HB := mA (below_drew1 HB.out)
        have p185 : 0 ≤ (x5_1 : Int) := of_decide_eq_true aT
        have q185 : x5_1 < (l0.length : Int) := of_decide_eq_true aT
        obtain ⟨ad185, e185, hx185_0, hx185_1, hx185_2, hx185_3, hx185_4, hx185_5⟩ := at_T77 HR0.out x5_1 p185 q185
        have hw185_5 := hx185_5
        have hw185_4 := hx185_4
        have hw185_3 := hx185_3
        have hw185_2 := hx185_2
        have hw185_1 := hx185_1
        have hw185_0 := hx185_0
        cases e185
        replace hx185_0 := (HB.out.cell (World.block_lt_of_cell? w _ hx185_0)).trans hx185_0
        replace hx185_1 := (HB.out.cell (World.block_lt_of_cell? w _ hx185_1)).trans hx185_1
        replace hx185_2 := (HB.out.cell (World.block_lt_of_cell? w _ hx185_2)).trans hx185_2
        replace hx185_3 := (HB.out.cell (World.block_lt_of_cell? w _ hx185_3)).trans hx185_3
        replace hx185_4 := (HB.out.cell (World.block_lt_of_cell? w _ hx185_4)).trans hx185_4
        replace hx185_5 := (HB.out.cell (World.block_lt_of_cell? w _ hx185_5)).trans hx185_5
        replace p185 := eq_true p185
        replace q185 := eq_true q185
        have p186 : 0 ≤ (x5_1 : Int) := of_decide_eq_true aT
        have q186 : x5_1 < (l1.length : Int) := of_decide_eq_true aT
        obtain ⟨ad186, e186, hx186_0, hx186_1, hx186_2, hx186_3, hx186_4, hx186_5⟩ := at_T77 HR1.out x5_1 p186 q186
        have hw186_5 := hx186_5
        have hw186_4 := hx186_4
        have hw186_3 := hx186_3
        have hw186_2 := hx186_2
        have hw186_1 := hx186_1
        have hw186_0 := hx186_0
        cases e186
        replace hx186_0 := (HB.out.cell (World.block_lt_of_cell? w _ hx186_0)).trans hx186_0
        replace hx186_1 := (HB.out.cell (World.block_lt_of_cell? w _ hx186_1)).trans hx186_1
        replace hx186_2 := (HB.out.cell (World.block_lt_of_cell? w _ hx186_2)).trans hx186_2
        replace hx186_3 := (HB.out.cell (World.block_lt_of_cell? w _ hx186_3)).trans hx186_3
        replace hx186_4 := (HB.out.cell (World.block_lt_of_cell? w _ hx186_4)).trans hx186_4
        replace hx186_5 := (HB.out.cell (World.block_lt_of_cell? w _ hx186_5)).trans hx186_5
        replace p186 := eq_true p186
        replace q186 := eq_true q186
        refine start_ (n := 10) (S := fun w' => w'.cell? (ad185.add ((x5_1).toNat * 6)) = some (.int .i64 ((rd_T77 l0 x5_1).f0)) ∧ w'.cell? ⟨(ad185.add ((x5_1).toNat * 6)).block, (ad185.add ((x5_1).toNat * 6)).off + 1, none⟩ = some (.int .i64 ((rd_T77 l0 x5_1).f1.f0)) ∧ w'.cell? ⟨(ad185.add ((x5_1).toNat * 6)).block, (ad185.add ((x5_1).toNat * 6)).off + 2, none⟩ = some (.int .i64 ((rd_T77 l0 x5_1).f1.f1)) ∧ w'.cell? ⟨(ad185.add ((x5_1).toNat * 6)).block, (ad185.add ((x5_1).toNat * 6)).off + 3, none⟩ = some (.int .i64 ((rd_T77 l0 x5_1).f1.f2)) ∧ w'.cell? ⟨(ad185.add ((x5_1).toNat * 6)).block, (ad185.add ((x5_1).toNat * 6)).off + 4, none⟩ = some (.int .i64 ((rd_T77 l0 x5_1).f1.f3)) ∧ w'.cell? ⟨(ad185.add ((x5_1).toNat * 6)).block, (ad185.add ((x5_1).toNat * 6)).off + 5, none⟩ = some (.int .i64 ((rd_T77 l0 x5_1).f1.f4)) ∧ w'.cell? (ad186.add ((x5_1).toNat * 6)) = some (.int .i64 ((rd_T77 l1 x5_1).f0)) ∧ w'.cell? ⟨(ad186.add ((x5_1).toNat * 6)).block, (ad186.add ((x5_1).toNat * 6)).off + 1, none⟩ = some (.int .i64 ((rd_T77 l1 x5_1).f1.f0)) ∧ w'.cell? ⟨(ad186.add ((x5_1).toNat * 6)).block, (ad186.add ((x5_1).toNat * 6)).off + 2, none⟩ = some (.int .i64 ((rd_T77 l1 x5_1).f1.f1)) ∧ w'.cell? ⟨(ad186.add ((x5_1).toNat * 6)).block, (ad186.add ((x5_1).toNat * 6)).off + 3, none⟩ = some (.int .i64 ((rd_T77 l1 x5_1).f1.f2)) ∧ w'.cell? ⟨(ad186.add ((x5_1).toNat * 6)).block, (ad186.add ((x5_1).toNat * 6)).off + 4, none⟩ = some (.int .i64 ((rd_T77 l1 x5_1).f1.f3)) ∧ w'.cell? ⟨(ad186.add ((x5_1).toNat * 6)).block, (ad186.add ((x5_1).toNat * 6)).off + 5, none⟩ = some (.int .i64 ((rd_T77 l1 x5_1).f1.f4))) (ds := []) #[false, false, false, false, false, false, false, false, false, false] (by kernel_rfl) rfl rfl ⟨((HB.out.cell (World.block_lt_of_cell? w _ hw185_0)).trans hw185_0), ((HB.out.cell (World.block_lt_of_cell? w _ hw185_1)).trans hw185_1), ((HB.out.cell (World.block_lt_of_cell? w _ hw185_2)).trans hw185_2), ((HB.out.cell (World.block_lt_of_cell? w _ hw185_3)).trans hw185_3), ((HB.out.cell (World.block_lt_of_cell? w _ hw185_4)).trans hw185_4), ((HB.out.cell (World.block_lt_of_cell? w _ hw185_5)).trans hw185_5), ((HB.out.cell (World.block_lt_of_cell? w _ hw186_0)).trans hw186_0), ((HB.out.cell (World.block_lt_of_cell? w _ hw186_1)).trans hw186_1), ((HB.out.cell (World.block_lt_of_cell? w _ hw186_2)).trans hw186_2), ((HB.out.cell (World.block_lt_of_cell? w _ hw186_3)).trans hw186_3), ((HB.out.cell (World.block_lt_of_cell? w _ hw186_4)).trans hw186_4), ((HB.out.cell (World.block_lt_of_cell? w _ hw186_5)).trans hw186_5)⟩ (fun hHeld => ?_); refine with_tabW laws_eqRollupRowS.tab6 laws_eqRollupRowS.bits6 (fun HT_ HW_ => ?_)
        generalize wr.drew = w9 at HB hx185_0 hx185_1 hx185_2 hx185_3 hx185_4 hx185_5 hx186_0 hx186_1 hx186_2 hx186_3 hx186_4 hx186_5 hHeld ⊢
        refine pureT (i := 0) (N := some 17) #[true, false, false, false, false, false, false, false, false, false] (any_of HT_.out (by kernel_rfl)) ?_
        refine pureT (i := 1) (N := some 18) #[true, true, false, false, false, false, false, false, false, false] (any_of HT_.out (by kernel_rfl)) ?_
        refine pureT (i := 2) (N := some 19) #[true, true, true, false, false, false, false, false, false, false] (any_of HT_.out (by kernel_rfl)) ?_
        refine pureT (i := 4) (N := some 21) #[true, true, true, false, true, false, false, false, false, false] (any_of HT_.out (by kernel_rfl)) ?_
        refine pureT (i := 5) (N := some 22) #[true, true, true, false, true, true, false, false, false, false] (any_of HT_.out (by kernel_rfl)) ?_
        refine pureT (i := 6) (N := some 23) #[true, true, true, false, true, true, true, false, false, false] (any_of HT_.out (by kernel_rfl)) ?_
        refine take_ (i := 3) (N := some 20) (v := ?_) (a' := ?_) #[true, true, true, true, true, true, true, false, false, false] rfl rfl (take_ofW HT_.out HW_.out (by kernel_rfl)) (fun _ _ _ h => h) (Or.inl ⟨by rfl, ?_⟩) hHeld ?_ ?_
        rotate_left
        ·
         rintro w' ⟨s0, s1, s2, s3, s4, s5, s6, s7, s8, s9, s10, s11⟩
         go_simp
         with_reducible rfl
        rotate_left
        ·
         simp only [Act.put, List.setIfInBounds_toArray, List.set_cons_zero, List.set_cons_succ, i64_w, i32_w]
         rfl
        refine take_ (i := 7) (N := some 24) (v := ?_) (a' := ?_) #[true, true, true, true, true, true, true, true, false, false] rfl rfl (take_ofW HT_.out HW_.out (by kernel_rfl)) (fun _ _ _ h => h) (Or.inl ⟨by rfl, ?_⟩) hHeld ?_ ?_
        rotate_left
        ·
         rintro w' ⟨s0, s1, s2, s3, s4, s5, s6, s7, s8, s9, s10, s11⟩
         go_simp
         with_reducible rfl
        rotate_left
        ·
         simp only [Act.put, List.setIfInBounds_toArray, List.set_cons_zero, List.set_cons_succ, i64_w, i32_w]
         rfl
        refine one_ (i := 8) (N := some 25) #[true, true, true, true, true, true, true, true, true, false] rfl rfl (one_of HT_.out (by kernel_rfl)) (by decide) (fun K hK => ?_)
        refine goes_ Try.func48 (by kernel_rfl) rfl #[.agg #[.int .i64 ((rd_T77 l0 x5_1).f0), .int .i64 ((rd_T77 l0 x5_1).f1.f0), .int .i64 ((rd_T77 l0 x5_1).f1.f1), .int .i64 ((rd_T77 l0 x5_1).f1.f2), .int .i64 ((rd_T77 l0 x5_1).f1.f3), .int .i64 ((rd_T77 l0 x5_1).f1.f4)], .agg #[.int .i64 ((rd_T77 l1 x5_1).f0), .int .i64 ((rd_T77 l1 x5_1).f1.f0), .int .i64 ((rd_T77 l1 x5_1).f1.f1), .int .i64 ((rd_T77 l1 x5_1).f1.f2), .int .i64 ((rd_T77 l1 x5_1).f1.f3), .int .i64 ((rd_T77 l1 x5_1).f1.f4)]] (by rfl) rfl rfl mT ?_
        with_reducible refine (laws_eqRollupRow.calls ((rd_T77 l0 x5_1).f0) ((rd_T77 l0 x5_1).f1.f0) ((rd_T77 l0 x5_1).f1.f1) ((rd_T77 l0 x5_1).f1.f2) ((rd_T77 l0 x5_1).f1.f3) ((rd_T77 l0 x5_1).f1.f4) ((rd_T77 l1 x5_1).f0) ((rd_T77 l1 x5_1).f1.f0) ((rd_T77 l1 x5_1).f1.f1) ((rd_T77 l1 x5_1).f1.f2) ((rd_T77 l1 x5_1).f1.f3) ((rd_T77 l1 x5_1).f1.f4) true _ A7.out).mono ?_
        rintro e w10 ⟨rfl, hb⟩
        refine ⟨_, rfl, ?_⟩
        replace HB := mA (below_step (bT HB) hb)
        (try clear hb)
        (try clear hb2)
        (try clear hk)
        (try clear hi)
        refine hK.out _ _ ⟨((HB.out.cell (World.block_lt_of_cell? w _ hw185_0)).trans hw185_0), ((HB.out.cell (World.block_lt_of_cell? w _ hw185_1)).trans hw185_1), ((HB.out.cell (World.block_lt_of_cell? w _ hw185_2)).trans hw185_2), ((HB.out.cell (World.block_lt_of_cell? w _ hw185_3)).trans hw185_3), ((HB.out.cell (World.block_lt_of_cell? w _ hw185_4)).trans hw185_4), ((HB.out.cell (World.block_lt_of_cell? w _ hw185_5)).trans hw185_5), ((HB.out.cell (World.block_lt_of_cell? w _ hw186_0)).trans hw186_0), ((HB.out.cell (World.block_lt_of_cell? w _ hw186_1)).trans hw186_1), ((HB.out.cell (World.block_lt_of_cell? w _ hw186_2)).trans hw186_2), ((HB.out.cell (World.block_lt_of_cell? w _ hw186_3)).trans hw186_3), ((HB.out.cell (World.block_lt_of_cell? w _ hw186_4)).trans hw186_4), ((HB.out.cell (World.block_lt_of_cell? w _ hw186_5)).trans hw186_5)⟩ (fun hHeld => ?_)
        clear hK K
        refine norm_ (a' := ?_) ?_ ?_
        rotate_left
        ·
         show Act.put _ (some 25) _ = _
         simp only [Act.put, List.setIfInBounds_toArray, List.set_cons_zero, List.set_cons_succ, i64_w, i32_w]
         rfl
        refine pureT (i := 9) (N := some 26) #[true, true, true, true, true, true, true, true, true, true] (any_of HT_.out (by kernel_rfl)) ?_
        refine done_ (done_of HT_.out (by kernel_rfl)) ?_
        try go_wp2
        go_roundg k1
        case measure => have := HK1.out; omega
        case rel => exact ⟨(wrap64 (x5_1 + 1)), sT, H', ⟨by have := HK1.out; omega⟩, ⟨bT HB⟩⟩
       ·
        replace c8 := Bool.eq_false_iff.mpr c8
        subst c8
        rw [if_neg (show ¬ (false = true) by decide)] at H
        obtain rfl := Option.some.inj H
        try go_wp2
        replace HB := mA (below_drew1 HB.out)
        have p185 : 0 ≤ (x5_1 : Int) := of_decide_eq_true aT
        have q185 : x5_1 < (l0.length : Int) := of_decide_eq_true aT
        obtain ⟨ad185, e185, hx185_0, hx185_1, hx185_2, hx185_3, hx185_4, hx185_5⟩ := at_T77 HR0.out x5_1 p185 q185
        have hw185_5 := hx185_5
        have hw185_4 := hx185_4
        have hw185_3 := hx185_3
        have hw185_2 := hx185_2
        have hw185_1 := hx185_1
        have hw185_0 := hx185_0
        cases e185
        replace hx185_0 := (HB.out.cell (World.block_lt_of_cell? w _ hx185_0)).trans hx185_0
        replace hx185_1 := (HB.out.cell (World.block_lt_of_cell? w _ hx185_1)).trans hx185_1
        replace hx185_2 := (HB.out.cell (World.block_lt_of_cell? w _ hx185_2)).trans hx185_2
        replace hx185_3 := (HB.out.cell (World.block_lt_of_cell? w _ hx185_3)).trans hx185_3
        replace hx185_4 := (HB.out.cell (World.block_lt_of_cell? w _ hx185_4)).trans hx185_4
        replace hx185_5 := (HB.out.cell (World.block_lt_of_cell? w _ hx185_5)).trans hx185_5
        replace p185 := eq_true p185
        replace q185 := eq_true q185
        have p186 : 0 ≤ (x5_1 : Int) := of_decide_eq_true aT
        have q186 : x5_1 < (l1.length : Int) := of_decide_eq_true aT
        obtain ⟨ad186, e186, hx186_0, hx186_1, hx186_2, hx186_3, hx186_4, hx186_5⟩ := at_T77 HR1.out x5_1 p186 q186
        have hw186_5 := hx186_5
        have hw186_4 := hx186_4
        have hw186_3 := hx186_3
        have hw186_2 := hx186_2
        have hw186_1 := hx186_1
        have hw186_0 := hx186_0
        cases e186
        replace hx186_0 := (HB.out.cell (World.block_lt_of_cell? w _ hx186_0)).trans hx186_0
        replace hx186_1 := (HB.out.cell (World.block_lt_of_cell? w _ hx186_1)).trans hx186_1
        replace hx186_2 := (HB.out.cell (World.block_lt_of_cell? w _ hx186_2)).trans hx186_2
        replace hx186_3 := (HB.out.cell (World.block_lt_of_cell? w _ hx186_3)).trans hx186_3
        replace hx186_4 := (HB.out.cell (World.block_lt_of_cell? w _ hx186_4)).trans hx186_4
        replace hx186_5 := (HB.out.cell (World.block_lt_of_cell? w _ hx186_5)).trans hx186_5
        replace p186 := eq_true p186
        replace q186 := eq_true q186
        refine start_ (n := 10) (S := fun w' => w'.cell? (ad185.add ((x5_1).toNat * 6)) = some (.int .i64 ((rd_T77 l0 x5_1).f0)) ∧ w'.cell? ⟨(ad185.add ((x5_1).toNat * 6)).block, (ad185.add ((x5_1).toNat * 6)).off + 1, none⟩ = some (.int .i64 ((rd_T77 l0 x5_1).f1.f0)) ∧ w'.cell? ⟨(ad185.add ((x5_1).toNat * 6)).block, (ad185.add ((x5_1).toNat * 6)).off + 2, none⟩ = some (.int .i64 ((rd_T77 l0 x5_1).f1.f1)) ∧ w'.cell? ⟨(ad185.add ((x5_1).toNat * 6)).block, (ad185.add ((x5_1).toNat * 6)).off + 3, none⟩ = some (.int .i64 ((rd_T77 l0 x5_1).f1.f2)) ∧ w'.cell? ⟨(ad185.add ((x5_1).toNat * 6)).block, (ad185.add ((x5_1).toNat * 6)).off + 4, none⟩ = some (.int .i64 ((rd_T77 l0 x5_1).f1.f3)) ∧ w'.cell? ⟨(ad185.add ((x5_1).toNat * 6)).block, (ad185.add ((x5_1).toNat * 6)).off + 5, none⟩ = some (.int .i64 ((rd_T77 l0 x5_1).f1.f4)) ∧ w'.cell? (ad186.add ((x5_1).toNat * 6)) = some (.int .i64 ((rd_T77 l1 x5_1).f0)) ∧ w'.cell? ⟨(ad186.add ((x5_1).toNat * 6)).block, (ad186.add ((x5_1).toNat * 6)).off + 1, none⟩ = some (.int .i64 ((rd_T77 l1 x5_1).f1.f0)) ∧ w'.cell? ⟨(ad186.add ((x5_1).toNat * 6)).block, (ad186.add ((x5_1).toNat * 6)).off + 2, none⟩ = some (.int .i64 ((rd_T77 l1 x5_1).f1.f1)) ∧ w'.cell? ⟨(ad186.add ((x5_1).toNat * 6)).block, (ad186.add ((x5_1).toNat * 6)).off + 3, none⟩ = some (.int .i64 ((rd_T77 l1 x5_1).f1.f2)) ∧ w'.cell? ⟨(ad186.add ((x5_1).toNat * 6)).block, (ad186.add ((x5_1).toNat * 6)).off + 4, none⟩ = some (.int .i64 ((rd_T77 l1 x5_1).f1.f3)) ∧ w'.cell? ⟨(ad186.add ((x5_1).toNat * 6)).block, (ad186.add ((x5_1).toNat * 6)).off + 5, none⟩ = some (.int .i64 ((rd_T77 l1 x5_1).f1.f4))) (ds := []) #[false, false, false, false, false, false, false, false, false, false] (by kernel_rfl) rfl rfl ⟨((HB.out.cell (World.block_lt_of_cell? w _ hw185_0)).trans hw185_0), ((HB.out.cell (World.block_lt_of_cell? w _ hw185_1)).trans hw185_1), ((HB.out.cell (World.block_lt_of_cell? w _ hw185_2)).trans hw185_2), ((HB.out.cell (World.block_lt_of_cell? w _ hw185_3)).trans hw185_3), ((HB.out.cell (World.block_lt_of_cell? w _ hw185_4)).trans hw185_4), ((HB.out.cell (World.block_lt_of_cell? w _ hw185_5)).trans hw185_5), ((HB.out.cell (World.block_lt_of_cell? w _ hw186_0)).trans hw186_0), ((HB.out.cell (World.block_lt_of_cell? w _ hw186_1)).trans hw186_1), ((HB.out.cell (World.block_lt_of_cell? w _ hw186_2)).trans hw186_2), ((HB.out.cell (World.block_lt_of_cell? w _ hw186_3)).trans hw186_3), ((HB.out.cell (World.block_lt_of_cell? w _ hw186_4)).trans hw186_4), ((HB.out.cell (World.block_lt_of_cell? w _ hw186_5)).trans hw186_5)⟩ (fun hHeld => ?_); refine with_tabW laws_eqRollupRowS.tab6 laws_eqRollupRowS.bits6 (fun HT_ HW_ => ?_)
        generalize wr.drew = w11 at HB hx185_0 hx185_1 hx185_2 hx185_3 hx185_4 hx185_5 hx186_0 hx186_1 hx186_2 hx186_3 hx186_4 hx186_5 hHeld ⊢
        refine pureT (i := 0) (N := some 17) #[true, false, false, false, false, false, false, false, false, false] (any_of HT_.out (by kernel_rfl)) ?_
        refine pureT (i := 1) (N := some 18) #[true, true, false, false, false, false, false, false, false, false] (any_of HT_.out (by kernel_rfl)) ?_
        refine pureT (i := 2) (N := some 19) #[true, true, true, false, false, false, false, false, false, false] (any_of HT_.out (by kernel_rfl)) ?_
        refine pureT (i := 4) (N := some 21) #[true, true, true, false, true, false, false, false, false, false] (any_of HT_.out (by kernel_rfl)) ?_
        refine pureT (i := 5) (N := some 22) #[true, true, true, false, true, true, false, false, false, false] (any_of HT_.out (by kernel_rfl)) ?_
        refine pureT (i := 6) (N := some 23) #[true, true, true, false, true, true, true, false, false, false] (any_of HT_.out (by kernel_rfl)) ?_
        refine take_ (i := 3) (N := some 20) (v := ?_) (a' := ?_) #[true, true, true, true, true, true, true, false, false, false] rfl rfl (take_ofW HT_.out HW_.out (by kernel_rfl)) (fun _ _ _ h => h) (Or.inl ⟨by rfl, ?_⟩) hHeld ?_ ?_
        rotate_left
        ·
         rintro w' ⟨s0, s1, s2, s3, s4, s5, s6, s7, s8, s9, s10, s11⟩
         go_simp
         with_reducible rfl
        rotate_left
        ·
         simp only [Act.put, List.setIfInBounds_toArray, List.set_cons_zero, List.set_cons_succ, i64_w, i32_w]
         rfl
        refine take_ (i := 7) (N := some 24) (v := ?_) (a' := ?_) #[true, true, true, true, true, true, true, true, false, false] rfl rfl (take_ofW HT_.out HW_.out (by kernel_rfl)) (fun _ _ _ h => h) (Or.inl ⟨by rfl, ?_⟩) hHeld ?_ ?_
        rotate_left
        ·
         rintro w' ⟨s0, s1, s2, s3, s4, s5, s6, s7, s8, s9, s10, s11⟩
         go_simp
         with_reducible rfl
        rotate_left
        ·
         simp only [Act.put, List.setIfInBounds_toArray, List.set_cons_zero, List.set_cons_succ, i64_w, i32_w]
         rfl
        refine one_ (i := 8) (N := some 25) #[true, true, true, true, true, true, true, true, true, false] rfl rfl (one_of HT_.out (by kernel_rfl)) (by decide) (fun K hK => ?_)
        refine goes_ Try.func48 (by kernel_rfl) rfl #[.agg #[.int .i64 ((rd_T77 l0 x5_1).f0), .int .i64 ((rd_T77 l0 x5_1).f1.f0), .int .i64 ((rd_T77 l0 x5_1).f1.f1), .int .i64 ((rd_T77 l0 x5_1).f1.f2), .int .i64 ((rd_T77 l0 x5_1).f1.f3), .int .i64 ((rd_T77 l0 x5_1).f1.f4)], .agg #[.int .i64 ((rd_T77 l1 x5_1).f0), .int .i64 ((rd_T77 l1 x5_1).f1.f0), .int .i64 ((rd_T77 l1 x5_1).f1.f1), .int .i64 ((rd_T77 l1 x5_1).f1.f2), .int .i64 ((rd_T77 l1 x5_1).f1.f3), .int .i64 ((rd_T77 l1 x5_1).f1.f4)]] (by rfl) rfl rfl mT ?_
        with_reducible refine (laws_eqRollupRow.calls ((rd_T77 l0 x5_1).f0) ((rd_T77 l0 x5_1).f1.f0) ((rd_T77 l0 x5_1).f1.f1) ((rd_T77 l0 x5_1).f1.f2) ((rd_T77 l0 x5_1).f1.f3) ((rd_T77 l0 x5_1).f1.f4) ((rd_T77 l1 x5_1).f0) ((rd_T77 l1 x5_1).f1.f0) ((rd_T77 l1 x5_1).f1.f1) ((rd_T77 l1 x5_1).f1.f2) ((rd_T77 l1 x5_1).f1.f3) ((rd_T77 l1 x5_1).f1.f4) false _ A7.out).mono ?_
        rintro e w12 ⟨rfl, hb⟩
        refine ⟨_, rfl, ?_⟩
        replace HB := mA (below_step (bT HB) hb)
        (try clear hb)
        (try clear hb2)
        (try clear hk)
        (try clear hi)
        refine hK.out _ _ ⟨((HB.out.cell (World.block_lt_of_cell? w _ hw185_0)).trans hw185_0), ((HB.out.cell (World.block_lt_of_cell? w _ hw185_1)).trans hw185_1), ((HB.out.cell (World.block_lt_of_cell? w _ hw185_2)).trans hw185_2), ((HB.out.cell (World.block_lt_of_cell? w _ hw185_3)).trans hw185_3), ((HB.out.cell (World.block_lt_of_cell? w _ hw185_4)).trans hw185_4), ((HB.out.cell (World.block_lt_of_cell? w _ hw185_5)).trans hw185_5), ((HB.out.cell (World.block_lt_of_cell? w _ hw186_0)).trans hw186_0), ((HB.out.cell (World.block_lt_of_cell? w _ hw186_1)).trans hw186_1), ((HB.out.cell (World.block_lt_of_cell? w _ hw186_2)).trans hw186_2), ((HB.out.cell (World.block_lt_of_cell? w _ hw186_3)).trans hw186_3), ((HB.out.cell (World.block_lt_of_cell? w _ hw186_4)).trans hw186_4), ((HB.out.cell (World.block_lt_of_cell? w _ hw186_5)).trans hw186_5)⟩ (fun hHeld => ?_)
        clear hK K
        refine norm_ (a' := ?_) ?_ ?_
        rotate_left
        ·
         show Act.put _ (some 25) _ = _
         simp only [Act.put, List.setIfInBounds_toArray, List.set_cons_zero, List.set_cons_succ, i64_w, i32_w]
         rfl
        refine pureT (i := 9) (N := some 26) #[true, true, true, true, true, true, true, true, true, true] (any_of HT_.out (by kernel_rfl)) ?_
        refine done_ (done_of HT_.out (by kernel_rfl)) ?_
        try go_wp2
        go_ret
        exact ⟨eT, bT HB⟩
      ·
       rw [if_neg c6] at H
       exact absurd H (by simp)
     ·
      rw [if_neg c5] at H
      exact absurd H (by simp)
    ·
     rw [if_neg c4] at H
     have c4b0 : decide (x5_1 < (l0.length : Int)) = false := decide_eq_false c4
     clear c4
     obtain rfl := Option.some.inj H
     go_wp2
     go_ret
     exact ⟨eT, bT HB⟩
 ·
  rw [if_neg c3] at H
  have c3b0 : ((l0.length : Int) == (l1.length : Int)) = false := beq_eq_false_iff_ne.mpr c3
  have c3b1 : ((l0.length : Int) != (l1.length : Int)) = true := bne_iff_ne.mpr c3
  have c3b2 : (l0.length == l1.length) = false := by first | simpa using c3 | (simp at c3 ⊢; omega)
  obtain rfl := Option.some.inj H
  go_enter Try.func14, Try.ntmps14
  go_wp2
  go_ret
  exact ⟨eT, bT HB⟩

/-! ### laws_FnExactFormatRollup: function 3 -/
def laws_FnExactFormatRollup.f (k : Nat) (l0 : List (S83)) : Option (Bool) := (laws_szRollupRowS.f l0 1048576).bind fun t188 => (if t188 < 0 then (some true) else ((laws_toRollupRowS.f k l0).bind fun t189 => ((spec_FormatRollup.f k t189).bind fun t192 => ((laws_toRollupRowS.f k l0).bind fun t193 => ((impl_FormatRollup.f k t193).bind fun t196 => (if t196.toList = t192.toList then ((laws_toRollupRowS.f k l0).bind fun t197 => ((laws_eqRollupRowS.f k t193 t197).bind fun t200 => (if t200 = true then (some true) else (some false)))) else (some false)))))))
theorem laws_FnExactFormatRollup.mono : ∀ a0 k, LeO (laws_FnExactFormatRollup.f k a0) (laws_FnExactFormatRollup.f (k + 1) a0) := by
 intro a0 k
 unfold laws_FnExactFormatRollup.f
 repeat' first
   | (with_reducible exact impl_FormatRollup.mono _ _)
   | (with_reducible exact laws_eqRollupRowS.mono _ _ _)
   | (with_reducible exact laws_toRollupRowS.mono _ _)
   | (with_reducible exact spec_FormatRollup.mono _ _)
   | (with_reducible exact LeO.refl _)
   | (with_reducible exact LeO.none _)
   | (with_reducible refine LeO.ite ?_ ?_)
   | (with_reducible refine LeO.bind ?_ (fun _ => ?_))
   | exact impl_FormatRollup.mono _ _
   | exact laws_eqRollupRowS.mono _ _ _
   | exact laws_toRollupRowS.mono _ _
   | exact spec_FormatRollup.mono _ _
   | exact LeO.none _
   | refine LeO.ite ?_ ?_
   | refine LeO.bind ?_ (fun _ => ?_)
set_option maxHeartbeats 8000000 in
set_option maxRecDepth 100000 in
theorem laws_FnExactFormatRollup.calls (k : Nat) (A0 : Option Addr) (c0 : Nat) (l0 : List (S83)) (r : Bool) (w : World) (hr0 : Kd.C k83 w A0 l0.length l0) (hc0 : l0.length ≤ c0) (ht : r = true) (h : laws_FnExactFormatRollup.f k l0 = some r) :
  Calls Try.prog 3 #[.slice A0 l0.length c0] w fun e w' => e = .returned (.bool r) ∧ Below w.heap.size w w' := by
 have HR0 := mA hr0
 have HC0 := mA hc0
 clear hr0 hc0
 have HB := mA (Below.refl w.heap.size w)
 have HT := mA ht
 clear ht
 have H : ((laws_szRollupRowS.f l0 1048576).bind fun t188 => (if t188 < 0 then (some true) else ((laws_toRollupRowS.f k l0).bind fun t189 => ((spec_FormatRollup.f k t189).bind fun t192 => ((laws_toRollupRowS.f k l0).bind fun t193 => ((impl_FormatRollup.f k t193).bind fun t196 => (if t196.toList = t192.toList then ((laws_toRollupRowS.f k l0).bind fun t197 => ((laws_eqRollupRowS.f k t193 t197).bind fun t200 => (if t200 = true then (some true) else (some false)))) else (some false)))))))) = some r := h
 clear h
 obtain ⟨t188, A2, H⟩ := Option.bind_eq_some_iff.mp H
 replace A2 := mA A2
 try dsimp only at H
 by_cases c3 : t188 < 0
 ·
  rw [if_pos c3] at H
  have c3b0 : decide (t188 < 0) = true := decide_eq_true c3
  clear c3
  obtain rfl := Option.some.inj H
  go_enter Try.func3, Try.ntmps3
  go_wp2_with (first | ((with_reducible refine gate_callee (f := 10) rfl ?_); refine goesT (some 9) Try.func10 #[.slice A0 l0.length c0, .int .i64 1048576] ?_; (with_reducible refine (laws_szRollupRowS.calls _ _ l0 1048576 t188 _ ?side1 ?side2 A2.out).mono ?_); (case side1 => exact cT HR0.out); (case side2 => exact HC0.out); rintro e w' ⟨rfl, ⟨nd, rfl⟩⟩; refine ⟨_, rfl, ?_⟩))
  go_ret
  exact ⟨eT, bT HB⟩
 ·
  rw [if_neg c3] at H
  have c3b0 : decide (t188 < 0) = false := decide_eq_false c3
  clear c3
  obtain ⟨t189, A4, H⟩ := Option.bind_eq_some_iff.mp H
  replace A4 := mA A4
  try dsimp only at H
  obtain ⟨t192, A5, H⟩ := Option.bind_eq_some_iff.mp H
  replace A5 := mA A5
  try dsimp only at H
  obtain ⟨t193, A6, H⟩ := Option.bind_eq_some_iff.mp H
  replace A6 := mA A6
  try dsimp only at H
  obtain ⟨t196, A7, H⟩ := Option.bind_eq_some_iff.mp H
  replace A7 := mA A7
  try dsimp only at H
  by_cases c8 : t196.toList = t192.toList
  ·
   rw [if_pos c8] at H
   have c8b0 : (t196.toList == t192.toList) = true := beq_iff_eq.mpr c8
   have c8b1 : (t196.toList != t192.toList) = false := bne_eq_false_iff_eq.mpr c8
   clear c8
   obtain ⟨t197, A9, H⟩ := Option.bind_eq_some_iff.mp H
   replace A9 := mA A9
   try dsimp only at H
   obtain ⟨t200, A10, H⟩ := Option.bind_eq_some_iff.mp H
   replace A10 := mA A10
   replace H : (if t200 = true then (some true) else (some false)) = some r := H
   by_cases c11 : t200 = true
   ·
    subst c11
    rw [if_pos rfl] at H
    obtain rfl := Option.some.inj H
    go_enter Try.func3, Try.ntmps3
    go_wp2_with (first | ((with_reducible refine gate_callee (f := 10) rfl ?_); refine goesT (some 9) Try.func10 #[.slice A0 l0.length c0, .int .i64 1048576] ?_; (with_reducible refine (laws_szRollupRowS.calls _ _ l0 1048576 t188 _ ?side1 ?side2 A2.out).mono ?_); (case side1 => exact cT HR0.out); (case side2 => exact HC0.out); rintro e w' ⟨rfl, ⟨nd, rfl⟩⟩; refine ⟨_, rfl, ?_⟩) | ((with_reducible refine gate_callee (f := 12) rfl ?_); refine goesT (some 13) Try.func12 #[.slice A0 l0.length c0] ?_; (with_reducible refine (laws_toRollupRowS.calls k _ _ l0 t189 _ ?side1 ?side2 A4.out).mono ?_); (case side1 => exact cT HR0.out); (case side2 => exact HC0.out); rintro e w12 ⟨v190, rfl, ho0, hb⟩; refine ⟨_, rfl, ?_⟩; have HO191 := mA (Kd.R_lower ho0 (below_size (bT HB))); replace HB := mA (below_step (bT HB) hb); (try clear hb); (try clear ho0); obtain ⟨Ao13, co13, eo13⟩ := Kd.R_slice HO191.out; subst eo13) | ((with_reducible refine gate_callee (f := 11) rfl ?_); refine goesT (some 14) Try.func11 #[.slice Ao13 t189.length co13] ?_; (with_reducible refine (spec_FormatRollup.calls k _ _ t189 t192 _ ?side1 ?side2 A5.out).mono ?_); (case side1 => exact cT ((Kd.R_reads' HO191.out).2.2)); (case side2 => exact (Kd.R_reads' HO191.out).2.1); rintro e w14 ⟨rfl, hb⟩; refine ⟨_, rfl, ?_⟩; replace HO191 := rBR HO191 hb; replace HB := mA (below_step (bT HB) hb); (try clear hb)) | ((with_reducible refine gate_callee (f := 12) rfl ?_); refine goesT (some 16) Try.func12 #[.slice A0 l0.length c0] ?_; (with_reducible refine (laws_toRollupRowS.calls k _ _ l0 t193 _ ?side1 ?side2 A6.out).mono ?_); (case side1 => exact cT (Kd.C_below HR0.out HB.out)); (case side2 => exact HC0.out); rintro e w15 ⟨v194, rfl, ho0, hb⟩; refine ⟨_, rfl, ?_⟩; have HO195 := mA (Kd.R_lower (Kd.R_new' ho0 (Kd.R_lt (rTR HO191))) (below_size (bT HB))); replace HO191 := mA (Kd.R_elder' (rTR HO191) (Kd.R_base ho0) hb); replace HB := mA (below_step (bT HB) hb); (try clear hb); (try clear ho0); obtain ⟨Ao16, co16, eo16⟩ := Kd.R_slice HO195.out; subst eo16) | ((with_reducible refine gate_callee (f := 13) rfl ?_); refine goesT (some 18) Try.func13 #[.slice Ao16 t193.length co16] ?_; (with_reducible refine (impl_FormatRollup.calls k _ _ t193 t196 _ ?side1 ?side2 A7.out).mono ?_); (case side1 => exact cT ((Kd.R_reads' HO195.out).2.2)); (case side2 => exact (Kd.R_reads' HO195.out).2.1); rintro e w17 ⟨rfl, hb⟩; refine ⟨_, rfl, ?_⟩; replace HO191 := rBR HO191 hb; replace HO195 := rBR HO195 hb; replace HB := mA (below_step (bT HB) hb); (try clear hb)) | ((with_reducible refine gate_callee (f := 12) rfl ?_); refine goesT (some 24) Try.func12 #[.slice A0 l0.length c0] ?_; (with_reducible refine (laws_toRollupRowS.calls k _ _ l0 t197 _ ?side1 ?side2 A9.out).mono ?_); (case side1 => exact cT (Kd.C_below HR0.out HB.out)); (case side2 => exact HC0.out); rintro e w18 ⟨v198, rfl, ho0, hb⟩; refine ⟨_, rfl, ?_⟩; have HO199 := mA (Kd.R_lower (Kd.R_new' (Kd.R_new' ho0 (Kd.R_lt (rTR HO191))) (Kd.R_lt (rTR HO195))) (below_size (bT HB))); replace HO195 := mA (Kd.R_elder' (rTR HO195) (Kd.R_base ho0) hb); replace HB := mA (below_step (bT HB) hb); (try clear hb); (try clear ho0); obtain ⟨Ao19, co19, eo19⟩ := Kd.R_slice HO199.out; subst eo19) | ((with_reducible refine gate_callee (f := 14) rfl ?_); refine goesT (some 25) Try.func14 #[.slice Ao16 t193.length co16, .slice Ao19 t197.length co19] ?_; (with_reducible refine (laws_eqRollupRowS.calls k _ _ t193 _ _ t197 true _ ?side1 ?side2 ?side3 ?side4 A10.out).mono ?_); (case side1 => exact cT ((Kd.R_reads' HO195.out).2.2)); (case side2 => exact (Kd.R_reads' HO195.out).2.1); (case side3 => exact cT ((Kd.R_reads' HO199.out).2.2)); (case side4 => exact (Kd.R_reads' HO199.out).2.1); rintro e w20 ⟨rfl, hb⟩; refine ⟨_, rfl, ?_⟩; replace HB := mA (below_step (bT HB) hb); (try clear hb)))
    go_ret
    exact ⟨eT, bT HB⟩
   ·
    replace c11 := Bool.eq_false_iff.mpr c11
    subst c11
    rw [if_neg (show ¬ (false = true) by decide)] at H
    exact absurd ((Option.some.inj H).trans HT.out) (by simp)
  ·
   rw [if_neg c8] at H
   have c8b0 : (t196.toList == t192.toList) = false := beq_eq_false_iff_ne.mpr c8
   have c8b1 : (t196.toList != t192.toList) = true := bne_iff_ne.mpr c8
   exact absurd ((Option.some.inj H).trans HT.out) (by simp)

end Go.Proofs.Ytnllplklggoabaa.P
