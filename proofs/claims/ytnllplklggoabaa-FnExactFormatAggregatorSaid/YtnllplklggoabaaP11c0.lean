/- Written by tools/seatprint.py over the translation. Lean checks it. -/
import Derived.Test.YtnllplklggoabaaP0
import Derived.Test.YtnllplklggoabaaP7bc0
import Derived.Test.YtnllplklggoabaaP7fc0
namespace Go.Proofs.Ytnllplklggoabaa.P
open Go.RowKit Go.Proofs.YtnllplklggoabaaW.PrintWords Go.Proofs.YtnllplklggoabaaW.PrintLast Go.Proofs.YtnllplklggoabaaW.PrintMore
attribute [local go_sem] max2_int min2_int max_two min_two max_three min_three max_four min_four
set_option linter.unusedVariables false
set_option linter.unusedSimpArgs false

/-! ### spec_IsValidAggregator: function 60 -/
def spec_IsValidAggregator.l0 : Nat → Int → Int → List (S99) → Int → Bool → Option (Bool)
 | 0, _, _, _, _, _ => none
 | k + 1, x3, x4, x362000, x362001, x362002 => if x4 < (x362000.length : Int) then (if 0 ≤ x4 then ((spec_AreValidRows.f k ((rd_T99 x362000 x4).f0)).bind fun t364 => (if t364 = true then ((spec_l1In.f ((rd_T99 x362000 x4).f1) 0 4).bind fun t366 => (if t366 = true then (spec_IsValidAggregator.l0 k (wrap64 (x3 + (((rd_T99 x362000 x4).f0).length : Int))) (wrap64 (x4 + 1)) x362000 x362001 x362002) else (some false))) else (some false))) else (none)) else (if x3 ≤ 24 then (if (x362000.length : Int) ≤ 40 then ((spec_l1In.f x362001 0 100000).bind fun t362 => (some t362)) else (some false)) else (some false))
def spec_IsValidAggregator.f (k : Nat) (l0_0 : List (S99)) (a0_1 : Int) (a0_2 : Bool) : Option (Bool) := spec_IsValidAggregator.l0 k 0 0 l0_0 a0_1 a0_2
theorem spec_IsValidAggregator.mono_l : ∀ k, (∀ y0 y1 y2 y3 y4, LeO (spec_IsValidAggregator.l0 k y0 y1 y2 y3 y4) (spec_IsValidAggregator.l0 (k + 1) y0 y1 y2 y3 y4))
 | 0 => fun _ _ _ _ _ r h => by simp [spec_IsValidAggregator.l0] at h
 | k + 1 => by
  have ih0 := spec_IsValidAggregator.mono_l k
  ·
   intro y0 y1 y2 y3 y4
   unfold spec_IsValidAggregator.l0
   repeat' first
   | (with_reducible exact ih0 _ _ _ _ _)
   | (with_reducible exact spec_AreValidRows.mono _ _)
   | (with_reducible exact LeO.refl _)
   | (with_reducible exact LeO.none _)
   | (with_reducible refine LeO.ite ?_ ?_)
   | (with_reducible refine LeO.bind ?_ (fun _ => ?_))
   | exact ih0 _ _ _ _ _
   | exact spec_AreValidRows.mono _ _
   | exact LeO.none _
   | refine LeO.ite ?_ ?_
   | refine LeO.bind ?_ (fun _ => ?_)
theorem spec_IsValidAggregator.mono : ∀ a0 a1 a2 k, LeO (spec_IsValidAggregator.f k a0 a1 a2) (spec_IsValidAggregator.f (k + 1) a0 a1 a2) := by
 intro a0 a1 a2 k
 have ih0 := spec_IsValidAggregator.mono_l k
 unfold spec_IsValidAggregator.f
 repeat' first
   | (with_reducible exact ih0 _ _ _ _ _)
   | (with_reducible exact spec_AreValidRows.mono _ _)
   | (with_reducible exact LeO.refl _)
   | (with_reducible exact LeO.none _)
   | (with_reducible refine LeO.ite ?_ ?_)
   | (with_reducible refine LeO.bind ?_ (fun _ => ?_))
   | exact ih0 _ _ _ _ _
   | exact spec_AreValidRows.mono _ _
   | exact LeO.none _
   | refine LeO.ite ?_ ?_
   | refine LeO.bind ?_ (fun _ => ?_)
set_option maxHeartbeats 8000000 in
set_option maxRecDepth 100000 in
theorem spec_IsValidAggregator.calls (k : Nat) (A0_0 : Option Addr) (c0_0 : Nat) (l0_0 : List (S99)) (a0_1 : Int) (a0_2 : Bool) (r : Bool) (w : World) (hr0_0 : Kd.C k99 w A0_0 l0_0.length l0_0) (hc0_0 : l0_0.length ≤ c0_0) (h : spec_IsValidAggregator.f k l0_0 a0_1 a0_2 = some r) :
  Calls Try.prog 60 #[.agg #[.slice A0_0 l0_0.length c0_0, .int .i64 a0_1, .bool a0_2]] w fun e w' => e = .returned (.bool r) ∧ Below w.heap.size w w' := by
 have hu48 := Try.underlying48
 have HR0_0 := mA hr0_0
 have HC0_0 := mA hc0_0
 clear hr0_0 hc0_0
 have HB := mA (Below.refl w.heap.size w)
 have H : (spec_IsValidAggregator.l0 k 0 0 l0_0 a0_1 a0_2) = some r := h
 clear h
 have H' := mA H
 clear H
 go_enter Try.func60, Try.ntmps60
 go_wp2_with (first | ((with_reducible refine gate_dst (N := 1) rfl ?_); (try (refine gate_guard (by rfl) ?_; dsimp only)); refine boxT 1 #[.slice A0_0 l0_0.length c0_0, .int .i64 a0_1, .bool a0_2] 48 ?_; intro gb361 hg w2 hbox hb; have BK361 := mA (hbox); have GW361 := mA ((by rw [hg]; exact (below_size (bT HB)) : w.heap.size ≤ gb361)); have GE361 := GW361; replace HB := mA (below_step (bT HB) hb); clear hb hbox hg))
 go_loopg [3, 4] k (fun kq v3 v4 w' => ∃ (x3_1 : Int) (x4_1 : Int), v3 = .int .i64 x3_1 ∧ v4 = .int .i64 x4_1 ∧ Aside0 (spec_IsValidAggregator.l0 kq x3_1 x4_1 l0_0 a0_1 a0_2 = some r) ∧ Aside0 (kq ≤ k) ∧ Aside0 (w'.heap[gb361]? = some (.cells #[(.slice A0_0 l0_0.length c0_0), .int .i64 a0_1, .bool a0_2] 48 (0, 0))) ∧ Aside0 (Below w.heap.size w w'))
 case atStart => exact ⟨(0), (0), sT, sT, H', ⟨Nat.le_refl _⟩, ⟨kT BK361⟩, ⟨bT1 HB GE361⟩⟩
 case round =>
  clear H'
  try clear p2
  obtain ⟨x3_1, x4_1, rfl, rfl, HA, HK1, BK361, HB⟩ := hrel
  cases gk with
  | zero => exact absurd HA.out (by simp [spec_IsValidAggregator.l0])
  | succ k1 =>
   have H := HA.out
   clear HA
   simp only [spec_IsValidAggregator.l0] at H
   by_cases c3 : x4_1 < (l0_0.length : Int)
   ·
    rw [if_pos c3] at H
    have c3b0 : decide (x4_1 < (l0_0.length : Int)) = true := decide_eq_true c3
    clear c3
    by_cases c4 : 0 ≤ x4_1
    ·
     rw [if_pos c4] at H
     have c4b0 : decide (0 ≤ x4_1) = true := decide_eq_true c4
     clear c4
     obtain ⟨t364, A5, H⟩ := Option.bind_eq_some_iff.mp H
     replace A5 := mA A5
     try dsimp only at H
     by_cases c6 : t364 = true
     ·
      subst c6
      rw [if_pos rfl] at H
      obtain ⟨t366, A7, H⟩ := Option.bind_eq_some_iff.mp H
      replace A7 := mA A7
      try dsimp only at H
      by_cases c8 : t366 = true
      ·
       subst c8
       rw [if_pos rfl] at H
       have H' := mA H
       clear H
       have hcz9_0 : wr.cell? ⟨gb361, 0, none⟩ = some (.slice A0_0 l0_0.length c0_0) := (blk_cell BK361.out 0).trans rfl
       have hcz9_1 : wr.cell? ⟨gb361, 1, none⟩ = some (.int .i64 a0_1) := (blk_cell BK361.out 1).trans rfl
       have hcz9_2 : wr.cell? ⟨gb361, 2, none⟩ = some (.bool a0_2) := (blk_cell BK361.out 2).trans rfl
       have hfz9_0 := blk_frozen BK361.out 0
       have hfz9_1 := blk_frozen BK361.out 1
       have hfz9_2 := blk_frozen BK361.out 2
       have p363 : 0 ≤ (x4_1 : Int) := of_decide_eq_true aT
       have q363 : x4_1 < (l0_0.length : Int) := of_decide_eq_true aT
       obtain ⟨ad363, A363_0, c363_0, e363, hx363_0, hx363_1, hl363_0, hi363_0⟩ := at_T99 HR0_0.out x4_1 p363 q363
       cases e363
       replace hx363_0 := (HB.out.cell (World.block_lt_of_cell? w _ hx363_0)).trans hx363_0
       replace hx363_1 := (HB.out.cell (World.block_lt_of_cell? w _ hx363_1)).trans hx363_1
       have HR363_0 := mA hi363_0
       have HC363_0 := mA hl363_0
       clear hi363_0 hl363_0
       replace p363 := eq_true p363
       replace q363 := eq_true q363
       go_wp2_with (first | ((with_reducible refine gate_callee (f := 87) rfl ?_); refine goesT (some 18) Try.func87 #[.slice A363_0 ((rd_T99 l0_0 x4_1).f0).length c363_0] ?_; (with_reducible refine (spec_AreValidRows.calls k1 _ _ ((rd_T99 l0_0 x4_1).f0) true _ ?side1 ?side2 A5.out).mono ?_); (case side1 => exact cT (Kd.C_below HR363_0.out HB.out)); (case side2 => exact HC363_0.out); rintro e w10 ⟨rfl, hb⟩; refine ⟨_, rfl, ?_⟩; replace BK361 := kB BK361 hb; replace HB := mA (below_step (bT1 HB GE361) hb); (try clear hb); obtain ⟨hcz11_0, hcz11_1, hcz11_2, hfz11_0, hfz11_1, hfz11_2⟩ := blk3 BK361.out; have p365 : 0 ≤ (x4_1 : Int) := of_decide_eq_true aT; have q365 : x4_1 < (l0_0.length : Int) := of_decide_eq_true aT; obtain ⟨ad365, A365_0, c365_0, e365, hx365_0, hx365_1, hl365_0, hi365_0⟩ := at_T99 HR0_0.out x4_1 p365 q365; obtain rfl : ad363 = ad365 := (by injection e365); replace hx365_0 := (HB.out.cell (World.block_lt_of_cell? w _ hx365_0)).trans hx365_0; replace hx365_1 := (HB.out.cell (World.block_lt_of_cell? w _ hx365_1)).trans hx365_1; have HR365_0 := mA hi365_0; have HC365_0 := mA hl365_0; clear hi365_0 hl365_0; replace p365 := eq_true p365; replace q365 := eq_true q365) | (go_at_call 88; (with_reducible refine (spec_l1In.calls ((rd_T99 l0_0 x4_1).f1) 0 4 true _ A7.out).mono ?_); rintro e w' ⟨rfl, ⟨nd, rfl⟩⟩; have p367 : 0 ≤ (x4_1 : Int) := of_decide_eq_true aT; have q367 : x4_1 < (l0_0.length : Int) := of_decide_eq_true aT; obtain ⟨ad367, A367_0, c367_0, e367, hx367_0, hx367_1, hl367_0, hi367_0⟩ := at_T99 HR0_0.out x4_1 p367 q367; obtain rfl : ad363 = ad367 := (by injection e367); replace hx367_0 := (HB.out.cell (World.block_lt_of_cell? w _ hx367_0)).trans hx367_0; replace hx367_1 := (HB.out.cell (World.block_lt_of_cell? w _ hx367_1)).trans hx367_1; have HR367_0 := mA hi367_0; have HC367_0 := mA hl367_0; clear hi367_0 hl367_0; replace p367 := eq_true p367; replace q367 := eq_true q367; first | (have ea_ := Option.some.inj (hx365_0.symm.trans hx367_0)) | (have ea_ := Option.some.inj (((HB.out.cell (World.block_lt_of_cell? w _ hw365_0)).trans hw365_0).symm.trans hx367_0)); injection ea_ with ea_ en_ ec_; subst ea_; subst ec_; clear en_))
       go_roundg k1
       case measure => have := HK1.out; omega
       case rel => exact ⟨(wrap64 (x3_1 + (((rd_T99 l0_0 x4_1).f0).length : Int))), (wrap64 (x4_1 + 1)), sT, sT, H', ⟨by have := HK1.out; omega⟩, ⟨kT BK361⟩, ⟨bT1 HB GE361⟩⟩
      ·
       replace c8 := Bool.eq_false_iff.mpr c8
       subst c8
       rw [if_neg (show ¬ (false = true) by decide)] at H
       obtain rfl := Option.some.inj H
       have hcz12_0 : wr.cell? ⟨gb361, 0, none⟩ = some (.slice A0_0 l0_0.length c0_0) := (blk_cell BK361.out 0).trans rfl
       have hcz12_1 : wr.cell? ⟨gb361, 1, none⟩ = some (.int .i64 a0_1) := (blk_cell BK361.out 1).trans rfl
       have hcz12_2 : wr.cell? ⟨gb361, 2, none⟩ = some (.bool a0_2) := (blk_cell BK361.out 2).trans rfl
       have hfz12_0 := blk_frozen BK361.out 0
       have hfz12_1 := blk_frozen BK361.out 1
       have hfz12_2 := blk_frozen BK361.out 2
       have p363 : 0 ≤ (x4_1 : Int) := of_decide_eq_true aT
       have q363 : x4_1 < (l0_0.length : Int) := of_decide_eq_true aT
       obtain ⟨ad363, A363_0, c363_0, e363, hx363_0, hx363_1, hl363_0, hi363_0⟩ := at_T99 HR0_0.out x4_1 p363 q363
       cases e363
       replace hx363_0 := (HB.out.cell (World.block_lt_of_cell? w _ hx363_0)).trans hx363_0
       replace hx363_1 := (HB.out.cell (World.block_lt_of_cell? w _ hx363_1)).trans hx363_1
       have HR363_0 := mA hi363_0
       have HC363_0 := mA hl363_0
       clear hi363_0 hl363_0
       replace p363 := eq_true p363
       replace q363 := eq_true q363
       go_wp2_with (first | ((with_reducible refine gate_callee (f := 87) rfl ?_); refine goesT (some 18) Try.func87 #[.slice A363_0 ((rd_T99 l0_0 x4_1).f0).length c363_0] ?_; (with_reducible refine (spec_AreValidRows.calls k1 _ _ ((rd_T99 l0_0 x4_1).f0) true _ ?side1 ?side2 A5.out).mono ?_); (case side1 => exact cT (Kd.C_below HR363_0.out HB.out)); (case side2 => exact HC363_0.out); rintro e w13 ⟨rfl, hb⟩; refine ⟨_, rfl, ?_⟩; replace BK361 := kB BK361 hb; replace HB := mA (below_step (bT1 HB GE361) hb); (try clear hb); obtain ⟨hcz14_0, hcz14_1, hcz14_2, hfz14_0, hfz14_1, hfz14_2⟩ := blk3 BK361.out; have p365 : 0 ≤ (x4_1 : Int) := of_decide_eq_true aT; have q365 : x4_1 < (l0_0.length : Int) := of_decide_eq_true aT; obtain ⟨ad365, A365_0, c365_0, e365, hx365_0, hx365_1, hl365_0, hi365_0⟩ := at_T99 HR0_0.out x4_1 p365 q365; obtain rfl : ad363 = ad365 := (by injection e365); replace hx365_0 := (HB.out.cell (World.block_lt_of_cell? w _ hx365_0)).trans hx365_0; replace hx365_1 := (HB.out.cell (World.block_lt_of_cell? w _ hx365_1)).trans hx365_1; have HR365_0 := mA hi365_0; have HC365_0 := mA hl365_0; clear hi365_0 hl365_0; replace p365 := eq_true p365; replace q365 := eq_true q365) | (go_at_call 88; (with_reducible refine (spec_l1In.calls ((rd_T99 l0_0 x4_1).f1) 0 4 false _ A7.out).mono ?_); rintro e w' ⟨rfl, ⟨nd, rfl⟩⟩))
       go_ret
       exact ⟨eT, bT1 HB GE361⟩
     ·
      replace c6 := Bool.eq_false_iff.mpr c6
      subst c6
      rw [if_neg (show ¬ (false = true) by decide)] at H
      obtain rfl := Option.some.inj H
      have hcz15_0 : wr.cell? ⟨gb361, 0, none⟩ = some (.slice A0_0 l0_0.length c0_0) := (blk_cell BK361.out 0).trans rfl
      have hcz15_1 : wr.cell? ⟨gb361, 1, none⟩ = some (.int .i64 a0_1) := (blk_cell BK361.out 1).trans rfl
      have hcz15_2 : wr.cell? ⟨gb361, 2, none⟩ = some (.bool a0_2) := (blk_cell BK361.out 2).trans rfl
      have hfz15_0 := blk_frozen BK361.out 0
      have hfz15_1 := blk_frozen BK361.out 1
      have hfz15_2 := blk_frozen BK361.out 2
      have p363 : 0 ≤ (x4_1 : Int) := of_decide_eq_true aT
      have q363 : x4_1 < (l0_0.length : Int) := of_decide_eq_true aT
      obtain ⟨ad363, A363_0, c363_0, e363, hx363_0, hx363_1, hl363_0, hi363_0⟩ := at_T99 HR0_0.out x4_1 p363 q363
      cases e363
      replace hx363_0 := (HB.out.cell (World.block_lt_of_cell? w _ hx363_0)).trans hx363_0
      replace hx363_1 := (HB.out.cell (World.block_lt_of_cell? w _ hx363_1)).trans hx363_1
      have HR363_0 := mA hi363_0
      have HC363_0 := mA hl363_0
      clear hi363_0 hl363_0
      replace p363 := eq_true p363
      replace q363 := eq_true q363
      go_wp2_with (first | ((with_reducible refine gate_callee (f := 87) rfl ?_); refine goesT (some 18) Try.func87 #[.slice A363_0 ((rd_T99 l0_0 x4_1).f0).length c363_0] ?_; (with_reducible refine (spec_AreValidRows.calls k1 _ _ ((rd_T99 l0_0 x4_1).f0) false _ ?side1 ?side2 A5.out).mono ?_); (case side1 => exact cT (Kd.C_below HR363_0.out HB.out)); (case side2 => exact HC363_0.out); rintro e w16 ⟨rfl, hb⟩; refine ⟨_, rfl, ?_⟩; replace BK361 := kB BK361 hb; replace HB := mA (below_step (bT1 HB GE361) hb); (try clear hb)))
      go_ret
      exact ⟨eT, bT1 HB GE361⟩
    ·
     rw [if_neg c4] at H
     exact absurd H (by simp)
   ·
    rw [if_neg c3] at H
    have c3b0 : decide (x4_1 < (l0_0.length : Int)) = false := decide_eq_false c3
    clear c3
    by_cases c17 : x3_1 ≤ 24
    ·
     rw [if_pos c17] at H
     have c17b0 : decide (x3_1 ≤ 24) = true := decide_eq_true c17
     clear c17
     by_cases c18 : (l0_0.length : Int) ≤ 40
     ·
      rw [if_pos c18] at H
      have c18b0 : decide ((l0_0.length : Int) ≤ 40) = true := decide_eq_true c18
      have c18b1 : decide (l0_0.length ≤ 40) = true := decide_eq_true (by omega)
      clear c18
      obtain ⟨t362, A19, H⟩ := Option.bind_eq_some_iff.mp H
      replace A19 := mA A19
      replace H : (some t362) = some r := H
      obtain rfl := Option.some.inj H
      have hcz20_0 : wr.cell? ⟨gb361, 0, none⟩ = some (.slice A0_0 l0_0.length c0_0) := (blk_cell BK361.out 0).trans rfl
      have hcz20_1 : wr.cell? ⟨gb361, 1, none⟩ = some (.int .i64 a0_1) := (blk_cell BK361.out 1).trans rfl
      have hcz20_2 : wr.cell? ⟨gb361, 2, none⟩ = some (.bool a0_2) := (blk_cell BK361.out 2).trans rfl
      have hfz20_0 := blk_frozen BK361.out 0
      have hfz20_1 := blk_frozen BK361.out 1
      have hfz20_2 := blk_frozen BK361.out 2
      go_wp2_with (first | (go_at_call 88; (with_reducible refine (spec_l1In.calls a0_1 0 100000 t362 _ A19.out).mono ?_); rintro e w' ⟨rfl, ⟨nd, rfl⟩⟩))
      go_ret
      exact ⟨eT, bT1 HB GE361⟩
     ·
      rw [if_neg c18] at H
      have c18b0 : decide ((l0_0.length : Int) ≤ 40) = false := decide_eq_false c18
      have c18b1 : decide (l0_0.length ≤ 40) = false := decide_eq_false (by omega)
      clear c18
      obtain rfl := Option.some.inj H
      have hcz21_0 : wr.cell? ⟨gb361, 0, none⟩ = some (.slice A0_0 l0_0.length c0_0) := (blk_cell BK361.out 0).trans rfl
      have hcz21_1 : wr.cell? ⟨gb361, 1, none⟩ = some (.int .i64 a0_1) := (blk_cell BK361.out 1).trans rfl
      have hcz21_2 : wr.cell? ⟨gb361, 2, none⟩ = some (.bool a0_2) := (blk_cell BK361.out 2).trans rfl
      have hfz21_0 := blk_frozen BK361.out 0
      have hfz21_1 := blk_frozen BK361.out 1
      have hfz21_2 := blk_frozen BK361.out 2
      go_wp2
      go_ret
      exact ⟨eT, bT1 HB GE361⟩
    ·
     rw [if_neg c17] at H
     have c17b0 : decide (x3_1 ≤ 24) = false := decide_eq_false c17
     clear c17
     obtain rfl := Option.some.inj H
     have hcz22_0 : wr.cell? ⟨gb361, 0, none⟩ = some (.slice A0_0 l0_0.length c0_0) := (blk_cell BK361.out 0).trans rfl
     have hcz22_1 : wr.cell? ⟨gb361, 1, none⟩ = some (.int .i64 a0_1) := (blk_cell BK361.out 1).trans rfl
     have hcz22_2 : wr.cell? ⟨gb361, 2, none⟩ = some (.bool a0_2) := (blk_cell BK361.out 2).trans rfl
     have hfz22_0 := blk_frozen BK361.out 0
     have hfz22_1 := blk_frozen BK361.out 1
     have hfz22_2 := blk_frozen BK361.out 2
     go_wp2
     go_ret
     exact ⟨eT, bT1 HB GE361⟩

/-! ### spec_FormatAggregator: function 21 -/
mutual
def spec_FormatAggregator.j0 : Nat → ByteArray → List (S99) → Int → Bool → Option (ByteArray)
 | 0, _, _, _, _ => none
 | k + 1, x3, x369000, x369001, x369002 => spec_FormatAggregator.l0 k x3 0 x369000 x369001 x369002
def spec_FormatAggregator.l0 : Nat → ByteArray → Int → List (S99) → Int → Bool → Option (ByteArray)
 | 0, _, _, _, _, _ => none
 | k + 1, x3, x4, x369000, x369001, x369002 => if x4 < (x369000.length : Int) then (if x3.size + 1 ≤ 9223372036854775807 then (if 0 ≤ x4 then ((spec_FormatInt.f k ((rd_T99 x369000 x4).f1)).bind fun t373 => (if (x3 ++ (⟨#[47]⟩ : ByteArray)).size + t373.size ≤ 9223372036854775807 then (if ((x3 ++ (⟨#[47]⟩ : ByteArray)) ++ t373).size + 1 ≤ 9223372036854775807 then ((spec_FormatRows.f k ((rd_T99 x369000 x4).f0)).bind fun t375 => (if (((x3 ++ (⟨#[47]⟩ : ByteArray)) ++ t373) ++ (⟨#[59]⟩ : ByteArray)).size + t375.size ≤ 9223372036854775807 then (spec_FormatAggregator.l0 k ((((x3 ++ (⟨#[47]⟩ : ByteArray)) ++ t373) ++ (⟨#[59]⟩ : ByteArray)) ++ t375) (wrap64 (x4 + 1)) x369000 x369001 x369002) else (none))) else (none)) else (none))) else (none)) else (none)) else (some x3)
end
def spec_FormatAggregator.f (k : Nat) (l0_0 : List (S99)) (a0_1 : Int) (a0_2 : Bool) : Option (ByteArray) := (spec_IsValidAggregator.f k l0_0 a0_1 a0_2).bind fun t369 => (if t369 = true then ((spec_FormatInt.f k a0_1).bind fun t370 => (if t370.size + 2 ≤ 9223372036854775807 then (if a0_2 = true then ((spec_FormatInt.f k a0_1).bind fun t371 => (if t371.size + 2 ≤ 9223372036854775807 then (spec_FormatAggregator.j0 k (t371 ++ (⟨#[47, 49]⟩ : ByteArray)) l0_0 a0_1 a0_2) else (none))) else (spec_FormatAggregator.j0 k (t370 ++ (⟨#[47, 48]⟩ : ByteArray)) l0_0 a0_1 a0_2)) else (none))) else (some (⟨#[]⟩ : ByteArray)))
theorem spec_FormatAggregator.mono_l : ∀ k, (∀ y0 y1 y2 y3, LeO (spec_FormatAggregator.j0 k y0 y1 y2 y3) (spec_FormatAggregator.j0 (k + 1) y0 y1 y2 y3)) ∧ (∀ y0 y1 y2 y3 y4, LeO (spec_FormatAggregator.l0 k y0 y1 y2 y3 y4) (spec_FormatAggregator.l0 (k + 1) y0 y1 y2 y3 y4))
 | 0 => ⟨fun _ _ _ _ r h => by simp [spec_FormatAggregator.j0] at h, fun _ _ _ _ _ r h => by simp [spec_FormatAggregator.l0] at h⟩
 | k + 1 => by
  obtain ⟨ih0, ih1⟩ := spec_FormatAggregator.mono_l k
  refine ⟨?_, ?_⟩
  ·
   intro y0 y1 y2 y3
   unfold spec_FormatAggregator.j0
   repeat' first
   | (with_reducible exact ih0 _ _ _ _)
   | (with_reducible exact ih1 _ _ _ _ _)
   | (with_reducible exact spec_FormatInt.mono _ _)
   | (with_reducible exact spec_FormatRows.mono _ _)
   | (with_reducible exact spec_IsValidAggregator.mono _ _ _ _)
   | (with_reducible exact LeO.refl _)
   | (with_reducible exact LeO.none _)
   | (with_reducible refine LeO.ite ?_ ?_)
   | (with_reducible refine LeO.bind ?_ (fun _ => ?_))
   | exact ih0 _ _ _ _
   | exact ih1 _ _ _ _ _
   | exact spec_FormatInt.mono _ _
   | exact spec_FormatRows.mono _ _
   | exact spec_IsValidAggregator.mono _ _ _ _
   | exact LeO.none _
   | refine LeO.ite ?_ ?_
   | refine LeO.bind ?_ (fun _ => ?_)
  ·
   intro y0 y1 y2 y3 y4
   unfold spec_FormatAggregator.l0
   repeat' first
   | (with_reducible exact ih0 _ _ _ _)
   | (with_reducible exact ih1 _ _ _ _ _)
   | (with_reducible exact spec_FormatInt.mono _ _)
   | (with_reducible exact spec_FormatRows.mono _ _)
   | (with_reducible exact spec_IsValidAggregator.mono _ _ _ _)
   | (with_reducible exact LeO.refl _)
   | (with_reducible exact LeO.none _)
   | (with_reducible refine LeO.ite ?_ ?_)
   | (with_reducible refine LeO.bind ?_ (fun _ => ?_))
   | exact ih0 _ _ _ _
   | exact ih1 _ _ _ _ _
   | exact spec_FormatInt.mono _ _
   | exact spec_FormatRows.mono _ _
   | exact spec_IsValidAggregator.mono _ _ _ _
   | exact LeO.none _
   | refine LeO.ite ?_ ?_
   | refine LeO.bind ?_ (fun _ => ?_)
theorem spec_FormatAggregator.mono : ∀ a0 a1 a2 k, LeO (spec_FormatAggregator.f k a0 a1 a2) (spec_FormatAggregator.f (k + 1) a0 a1 a2) := by
 intro a0 a1 a2 k
 obtain ⟨ih0, ih1⟩ := spec_FormatAggregator.mono_l k
 unfold spec_FormatAggregator.f
 repeat' first
   | (with_reducible exact ih0 _ _ _ _)
   | (with_reducible exact ih1 _ _ _ _ _)
   | (with_reducible exact spec_FormatInt.mono _ _)
   | (with_reducible exact spec_FormatRows.mono _ _)
   | (with_reducible exact spec_IsValidAggregator.mono _ _ _ _)
   | (with_reducible exact LeO.refl _)
   | (with_reducible exact LeO.none _)
   | (with_reducible refine LeO.ite ?_ ?_)
   | (with_reducible refine LeO.bind ?_ (fun _ => ?_))
   | exact ih0 _ _ _ _
   | exact ih1 _ _ _ _ _
   | exact spec_FormatInt.mono _ _
   | exact spec_FormatRows.mono _ _
   | exact spec_IsValidAggregator.mono _ _ _ _
   | exact LeO.none _
   | refine LeO.ite ?_ ?_
   | refine LeO.bind ?_ (fun _ => ?_)
def spec_FormatAggregator.T9 : Bool × List (List Nat × List Nat) := (true, [([], []), ([0], [0]), ([], []), ([2], [2]), ([], []), ([3, 4], [3, 4]), ([5], [5]), ([6], [6]), ([7], [7]), ([1, 8], [1, 8]), ([9], [9]), ([], []), ([11], [11]), ([], []), ([12, 13], [12, 13]), ([14], [14]), ([15], [15]), ([16, 8], [16]), ([10, 17], [10, 17]), ([18, 17, 0, 1, 2, 3, 4, 5, 6, 7, 8, 9, 10, 11, 12, 13, 14, 15, 16, 17, 18], [0, 18])])
def spec_FormatAggregator.B9 : List Nat := [0, 1, 0, 4, 0, 28, 60, 124, 252, 511, 1023, 0, 2048, 0, 14336, 30720, 63488, 129532, 262143, 524287]
theorem spec_FormatAggregator.tab9 : rtab .any (opsOf Try.f21 9) = spec_FormatAggregator.T9 := by kernel_rfl
theorem spec_FormatAggregator.bits9 : waitsOk spec_FormatAggregator.T9.2 spec_FormatAggregator.B9 = true := by kernel_rfl
set_option maxHeartbeats 8000000 in
set_option maxRecDepth 100000 in
theorem spec_FormatAggregator.calls (k : Nat) (A0_0 : Option Addr) (c0_0 : Nat) (l0_0 : List (S99)) (a0_1 : Int) (a0_2 : Bool) (r : ByteArray) (w : World) (hr0_0 : Kd.C k99 w A0_0 l0_0.length l0_0) (hc0_0 : l0_0.length ≤ c0_0) (h : spec_FormatAggregator.f k l0_0 a0_1 a0_2 = some r) :
  Calls Try.prog 21 #[.agg #[.slice A0_0 l0_0.length c0_0, .int .i64 a0_1, .bool a0_2]] w fun e w' => e = .returned (.string r) ∧ Below w.heap.size w w' := by
 have hu48 := Try.underlying48
 have HR0_0 := mA hr0_0
 have HC0_0 := mA hc0_0
 clear hr0_0 hc0_0
 have HB := mA (Below.refl w.heap.size w)
 have H : ((spec_IsValidAggregator.f k l0_0 a0_1 a0_2).bind fun t369 => (if t369 = true then ((spec_FormatInt.f k a0_1).bind fun t370 => (if t370.size + 2 ≤ 9223372036854775807 then (if a0_2 = true then ((spec_FormatInt.f k a0_1).bind fun t371 => (if t371.size + 2 ≤ 9223372036854775807 then (spec_FormatAggregator.j0 k (t371 ++ (⟨#[47, 49]⟩ : ByteArray)) l0_0 a0_1 a0_2) else (none))) else (spec_FormatAggregator.j0 k (t370 ++ (⟨#[47, 48]⟩ : ByteArray)) l0_0 a0_1 a0_2)) else (none))) else (some (⟨#[]⟩ : ByteArray)))) = some r := h
 clear h
 obtain ⟨t369, A2, H⟩ := Option.bind_eq_some_iff.mp H
 replace A2 := mA A2
 try dsimp only at H
 by_cases c3 : t369 = true
 ·
  subst c3
  rw [if_pos rfl] at H
  obtain ⟨t370, A4, H⟩ := Option.bind_eq_some_iff.mp H
  replace A4 := mA A4
  try dsimp only at H
  by_cases c5 : t370.size + 2 ≤ 9223372036854775807
  ·
   rw [if_pos c5] at H
   have c5b0 := eq_true c5
   have c5b1 : decide (t370.size + 2 ≤ 9223372036854775807) = true := decide_eq_true c5
   try have c5b2 : (9223372036854775807 < t370.size + 2) = False := eq_false (Nat.not_lt.2 c5)
   have HC6 := mA H
   clear H
   go_enter Try.func21, Try.ntmps21
   go_upto_if 13 with (first | ((with_reducible refine gate_dst (N := 1) rfl ?_); refine boxT 1 #[.slice A0_0 l0_0.length c0_0, .int .i64 a0_1, .bool a0_2] 48 ?_; intro gb368 hg w7 hbox hb; have BK368 := mA (hbox); have GW368 := mA ((by rw [hg]; exact (below_size (bT HB)) : w.heap.size ≤ gb368)); have GE368 := GW368; replace HB := mA (below_step (bT HB) hb); clear hb hbox hg; obtain ⟨hcz8_0, hcz8_1, hcz8_2, hfz8_0, hfz8_1, hfz8_2⟩ := blk3 BK368.out) | ((with_reducible refine gate_callee (f := 60) rfl ?_); refine goesT (some 6) Try.func60 #[.agg #[.slice A0_0 l0_0.length c0_0, .int .i64 a0_1, .bool a0_2]] ?_; (with_reducible refine (spec_IsValidAggregator.calls k _ _ l0_0 a0_1 a0_2 true _ ?side1 ?side2 A2.out).mono ?_); (case side1 => exact cT (Kd.C_below HR0_0.out HB.out)); (case side2 => exact HC0_0.out); rintro e w9 ⟨rfl, hb⟩; refine ⟨_, rfl, ?_⟩; replace BK368 := kB BK368 hb; replace HB := mA (below_step (bT1 HB GE368) hb); (try clear hb); obtain ⟨hcz10_0, hcz10_1, hcz10_2, hfz10_0, hfz10_1, hfz10_2⟩ := blk3 BK368.out) | ((with_reducible refine gate_callee (f := 42) rfl ?_); refine goesT (some 10) Try.func42 #[.int .i64 a0_1] ?_; (with_reducible refine (spec_FormatInt.calls k a0_1 t370 _ A4.out).mono ?_); rintro e w11 ⟨rfl, hb⟩; refine ⟨_, rfl, ?_⟩; replace BK368 := kB BK368 hb; replace HB := mA (below_step (bT1 HB GE368) hb); (try clear hb); obtain ⟨hcz12_0, hcz12_1, hcz12_2, hfz12_0, hfz12_1, hfz12_2⟩ := blk3 BK368.out))
   (try simp only [Act.put, List.setIfInBounds_toArray, List.set_cons_zero, List.set_cons_succ])
   go_cut [3] (fun v3 wc => ∃ (kq : Nat) (x3_5 : ByteArray), v3 = .string x3_5 ∧ Aside0 (spec_FormatAggregator.j0 kq x3_5 l0_0 a0_1 a0_2 = some r) ∧ Aside0 (kq ≤ k) ∧ Aside0 (wc.heap[gb368]? = some (.cells #[(.slice A0_0 l0_0.length c0_0), .int .i64 a0_1, .bool a0_2] 48 (0, 0))) ∧ Aside0 (Below w.heap.size w wc))
   case first =>
    have H := HC6.out
    clear HC6
    by_cases c13 : a0_2 = true
    ·
     subst c13
     rw [if_pos rfl] at H
     obtain ⟨t371, A14, H⟩ := Option.bind_eq_some_iff.mp H
     replace A14 := mA A14
     try dsimp only at H
     by_cases c15 : t371.size + 2 ≤ 9223372036854775807
     ·
      rw [if_pos c15] at H
      have c15b0 := eq_true c15
      have c15b1 : decide (t371.size + 2 ≤ 9223372036854775807) = true := decide_eq_true c15
      try have c15b2 : (9223372036854775807 < t371.size + 2) = False := eq_false (Nat.not_lt.2 c15)
      have H' := mA H
      clear H
      have hcz16_0 : w11.cell? ⟨gb368, 0, none⟩ = some (.slice A0_0 l0_0.length c0_0) := (blk_cell BK368.out 0).trans rfl
      have hcz16_1 : w11.cell? ⟨gb368, 1, none⟩ = some (.int .i64 a0_1) := (blk_cell BK368.out 1).trans rfl
      have hcz16_2 : w11.cell? ⟨gb368, 2, none⟩ = some (.bool true) := (blk_cell BK368.out 2).trans rfl
      have hfz16_0 := blk_frozen BK368.out 0
      have hfz16_1 := blk_frozen BK368.out 1
      have hfz16_2 := blk_frozen BK368.out 2
      go_wp2_with (first | ((with_reducible refine gate_callee (f := 42) rfl ?_); refine goesT (some 16) Try.func42 #[.int .i64 a0_1] ?_; (with_reducible refine (spec_FormatInt.calls k a0_1 t371 _ A14.out).mono ?_); rintro e w17 ⟨rfl, hb⟩; refine ⟨_, rfl, ?_⟩; replace BK368 := kB BK368 hb; replace HB := mA (below_step (bT1 HB GE368) hb); (try clear hb)))
      go_meet
      case rel => exact ⟨_, (t371 ++ (⟨#[47, 49]⟩ : ByteArray)), sT, H', ⟨by first | omega | exact Nat.le_refl _⟩, ⟨kT BK368⟩, ⟨bT1 HB GE368⟩⟩
     ·
      rw [if_neg c15] at H
      exact absurd H (by simp)
    ·
     replace c13 := Bool.eq_false_iff.mpr c13
     subst c13
     rw [if_neg (show ¬ (false = true) by decide)] at H
     have H' := mA H
     clear H
     go_wp2
     go_meet
     case rel => exact ⟨_, (t370 ++ (⟨#[47, 48]⟩ : ByteArray)), sT, H', ⟨by first | omega | exact Nat.le_refl _⟩, ⟨kT BK368⟩, ⟨bT1 HB GE368⟩⟩
   case rest =>
    clear HC6
    try clear c1
    try clear c2
    try clear p2
    try clear c3
    try clear c4
    try clear c5
    try clear c5b0
    try clear c5b1
    try clear c5b2
    try clear c6
    try clear c13
    try clear c15
    try clear c15b0
    try clear c15b1
    try clear c15b2
    try clear hcz10_0
    try clear hcz10_1
    try clear hcz10_2
    try clear hcz12_0
    try clear hcz12_1
    try clear hcz12_2
    try clear hcz16_0
    try clear hcz16_1
    try clear hcz16_2
    try clear hcz8_0
    try clear hcz8_1
    try clear hcz8_2
    try clear hfz10_0
    try clear hfz10_1
    try clear hfz10_2
    try clear hfz12_0
    try clear hfz12_1
    try clear hfz12_2
    try clear hfz16_0
    try clear hfz16_1
    try clear hfz16_2
    try clear hfz8_0
    try clear hfz8_1
    try clear hfz8_2
    obtain ⟨kq, x3_5, rfl, HA, HJ5, BK368, HB⟩ := hcut
    cases kq with
    | zero => exact absurd HA.out (by simp [spec_FormatAggregator.j0])
    | succ kj5 =>
     have H := HA.out
     clear HA
     simp only [spec_FormatAggregator.j0] at H
     have H' := mA H
     clear H
     go_wp2
     go_loopg [3, 4] kj5 (fun kq v3 v4 w' => ∃ (x3_2 : ByteArray) (x4_2 : Int), v3 = .string x3_2 ∧ v4 = .int .i64 x4_2 ∧ Aside0 (spec_FormatAggregator.l0 kq x3_2 x4_2 l0_0 a0_1 a0_2 = some r) ∧ Aside0 (kq ≤ kj5) ∧ Aside0 (w'.heap[gb368]? = some (.cells #[(.slice A0_0 l0_0.length c0_0), .int .i64 a0_1, .bool a0_2] 48 (0, 0))) ∧ Aside0 (Below w.heap.size w w'))
     case atStart => exact ⟨(x3_5), (0), sT, sT, H', ⟨Nat.le_refl _⟩, ⟨kT BK368⟩, ⟨bT1 HB GE368⟩⟩
     case round =>
      clear H'
      try clear c1
      try clear c2
      try clear p2
      try clear c3
      try clear c4
      try clear c5
      try clear c5b0
      try clear c5b1
      try clear c5b2
      try clear c6
      try clear c13
      try clear c15
      try clear c15b0
      try clear c15b1
      try clear c15b2
      try clear hcz10_0
      try clear hcz10_1
      try clear hcz10_2
      try clear hcz12_0
      try clear hcz12_1
      try clear hcz12_2
      try clear hcz16_0
      try clear hcz16_1
      try clear hcz16_2
      try clear hcz8_0
      try clear hcz8_1
      try clear hcz8_2
      try clear hfz10_0
      try clear hfz10_1
      try clear hfz10_2
      try clear hfz12_0
      try clear hfz12_1
      try clear hfz12_2
      try clear hfz16_0
      try clear hfz16_1
      try clear hfz16_2
      try clear hfz8_0
      try clear hfz8_1
      try clear hfz8_2
      try clear p2
      obtain ⟨x3_2, x4_2, rfl, rfl, HA, HK2, BK368, HB⟩ := hrel
      cases gk with
      | zero => exact absurd HA.out (by simp [spec_FormatAggregator.l0])
      | succ k2 =>
       have H := HA.out
       clear HA
       simp only [spec_FormatAggregator.l0] at H
       by_cases c18 : x4_2 < (l0_0.length : Int)
       ·
        rw [if_pos c18] at H
        have c18b0 : decide (x4_2 < (l0_0.length : Int)) = true := decide_eq_true c18
        clear c18
        by_cases c19 : x3_2.size + 1 ≤ 9223372036854775807
        ·
         rw [if_pos c19] at H
         have c19b0 := eq_true c19
         have c19b1 : decide (x3_2.size + 1 ≤ 9223372036854775807) = true := decide_eq_true c19
         try have c19b2 : (9223372036854775807 < x3_2.size + 1) = False := eq_false (Nat.not_lt.2 c19)
         by_cases c20 : 0 ≤ x4_2
         ·
          rw [if_pos c20] at H
          have c20b0 : decide (0 ≤ x4_2) = true := decide_eq_true c20
          clear c20
          obtain ⟨t373, A21, H⟩ := Option.bind_eq_some_iff.mp H
          replace A21 := mA A21
          try dsimp only at H
          by_cases c22 : (x3_2 ++ (⟨#[47]⟩ : ByteArray)).size + t373.size ≤ 9223372036854775807
          ·
           rw [if_pos c22] at H
           have c22b0 := eq_true c22
           have c22b1 : decide ((x3_2 ++ (⟨#[47]⟩ : ByteArray)).size + t373.size ≤ 9223372036854775807) = true := decide_eq_true c22
           try have c22b2 : (9223372036854775807 < (x3_2 ++ (⟨#[47]⟩ : ByteArray)).size + t373.size) = False := eq_false (Nat.not_lt.2 c22)
           try have c22b3 : (9223372036854775807 < x3_2.size + 1 + t373.size) = False := szF c22
           by_cases c23 : ((x3_2 ++ (⟨#[47]⟩ : ByteArray)) ++ t373).size + 1 ≤ 9223372036854775807
           ·
            rw [if_pos c23] at H
            have c23b0 := eq_true c23
            have c23b1 : decide (((x3_2 ++ (⟨#[47]⟩ : ByteArray)) ++ t373).size + 1 ≤ 9223372036854775807) = true := decide_eq_true c23
            try have c23b2 : (9223372036854775807 < ((x3_2 ++ (⟨#[47]⟩ : ByteArray)) ++ t373).size + 1) = False := eq_false (Nat.not_lt.2 c23)
            try have c23b3 : (9223372036854775807 < x3_2.size + 1 + t373.size + 1) = False := szF c23
            obtain ⟨t375, A24, H⟩ := Option.bind_eq_some_iff.mp H
            replace A24 := mA A24
            try dsimp only at H
            by_cases c25 : (((x3_2 ++ (⟨#[47]⟩ : ByteArray)) ++ t373) ++ (⟨#[59]⟩ : ByteArray)).size + t375.size ≤ 9223372036854775807
            ·
             rw [if_pos c25] at H
             have c25b0 := eq_true c25
             have c25b1 : decide ((((x3_2 ++ (⟨#[47]⟩ : ByteArray)) ++ t373) ++ (⟨#[59]⟩ : ByteArray)).size + t375.size ≤ 9223372036854775807) = true := decide_eq_true c25
             try have c25b2 : (9223372036854775807 < (((x3_2 ++ (⟨#[47]⟩ : ByteArray)) ++ t373) ++ (⟨#[59]⟩ : ByteArray)).size + t375.size) = False := eq_false (Nat.not_lt.2 c25)
             try have c25b3 : (9223372036854775807 < x3_2.size + 1 + t373.size + 1 + t375.size) = False := szF c25
             have H' := mA H
             clear H
             have hcz26_0 : wr.cell? ⟨gb368, 0, none⟩ = some (.slice A0_0 l0_0.length c0_0) := (blk_cell BK368.out 0).trans rfl
             have hcz26_1 : wr.cell? ⟨gb368, 1, none⟩ = some (.int .i64 a0_1) := (blk_cell BK368.out 1).trans rfl
             have hcz26_2 : wr.cell? ⟨gb368, 2, none⟩ = some (.bool a0_2) := (blk_cell BK368.out 2).trans rfl
             have hfz26_0 := blk_frozen BK368.out 0
             have hfz26_1 := blk_frozen BK368.out 1
             have hfz26_2 := blk_frozen BK368.out 2
             try go_wp2
             replace BK368 := mA (blk_drew BK368.out)
             replace HB := mA (below_drew1 HB.out)
             have p372 : 0 ≤ (x4_2 : Int) := of_decide_eq_true aT
             have q372 : x4_2 < (l0_0.length : Int) := of_decide_eq_true aT
             obtain ⟨ad372, A372_0, c372_0, e372, hx372_0, hx372_1, hl372_0, hi372_0⟩ := at_T99 HR0_0.out x4_2 p372 q372
             have hw372_1 := hx372_1
             have hw372_0 := hx372_0
             cases e372
             replace hx372_0 := (HB.out.cell (World.block_lt_of_cell? w _ hx372_0)).trans hx372_0
             replace hx372_1 := (HB.out.cell (World.block_lt_of_cell? w _ hx372_1)).trans hx372_1
             have HR372_0 := mA hi372_0
             have HC372_0 := mA hl372_0
             clear hi372_0 hl372_0
             replace p372 := eq_true p372
             replace q372 := eq_true q372
             have p374 : 0 ≤ (x4_2 : Int) := of_decide_eq_true aT
             have q374 : x4_2 < (l0_0.length : Int) := of_decide_eq_true aT
             obtain ⟨ad374, A374_0, c374_0, e374, hx374_0, hx374_1, hl374_0, hi374_0⟩ := at_T99 HR0_0.out x4_2 p374 q374
             have hw374_1 := hx374_1
             have hw374_0 := hx374_0
             obtain rfl : ad372 = ad374 := (by injection e374)
             replace hx374_0 := (HB.out.cell (World.block_lt_of_cell? w _ hx374_0)).trans hx374_0
             replace hx374_1 := (HB.out.cell (World.block_lt_of_cell? w _ hx374_1)).trans hx374_1
             have HR374_0 := mA hi374_0
             have HC374_0 := mA hl374_0
             clear hi374_0 hl374_0
             replace p374 := eq_true p374
             replace q374 := eq_true q374
             first | (have ea_ := Option.some.inj (hx372_0.symm.trans hx374_0)) | (have ea_ := Option.some.inj (((HB.out.cell (World.block_lt_of_cell? w _ hw372_0)).trans hw372_0).symm.trans hx374_0))
             injection ea_ with ea_ en_ ec_
             subst ea_
             subst ec_
             clear en_
             refine start_ (n := 20) (S := fun w' => w'.cell? ⟨gb368, 0, none⟩ = some (.slice (some ad372) l0_0.length c0_0) ∧ w'.cell? ⟨gb368, 1, none⟩ = some (.int .i64 a0_1) ∧ w'.cell? ⟨gb368, 2, none⟩ = some (.bool a0_2) ∧ w'.cell? (ad372.add ((x4_2).toNat * 2)) = some (.slice A372_0 ((rd_T99 l0_0 x4_2).f0).length c372_0) ∧ w'.cell? ⟨(ad372.add ((x4_2).toNat * 2)).block, (ad372.add ((x4_2).toNat * 2)).off + 1, none⟩ = some (.int .i64 ((rd_T99 l0_0 x4_2).f1)) ∧ w'.cell? (ad372.add ((x4_2).toNat * 2)) = some (.slice A372_0 ((rd_T99 l0_0 x4_2).f0).length c372_0) ∧ w'.cell? ⟨(ad372.add ((x4_2).toNat * 2)).block, (ad372.add ((x4_2).toNat * 2)).off + 1, none⟩ = some (.int .i64 ((rd_T99 l0_0 x4_2).f1))) (ds := []) #[false, false, false, false, false, false, false, false, false, false, false, false, false, false, false, false, false, false, false, false] (by kernel_rfl) rfl rfl ⟨(blk_cell BK368.out 0).trans rfl, (blk_cell BK368.out 1).trans rfl, (blk_cell BK368.out 2).trans rfl, ((HB.out.cell (World.block_lt_of_cell? w _ hw372_0)).trans hw372_0), ((HB.out.cell (World.block_lt_of_cell? w _ hw372_1)).trans hw372_1), ((HB.out.cell (World.block_lt_of_cell? w _ hw374_0)).trans hw374_0), ((HB.out.cell (World.block_lt_of_cell? w _ hw374_1)).trans hw374_1)⟩ (fun hHeld => ?_); refine with_tabW spec_FormatAggregator.tab9 spec_FormatAggregator.bits9 (fun HT_ HW_ => ?_)
             generalize wr.drew = w27 at BK368 HB HR372_0 HR374_0 hx372_0 hx372_1 hx374_0 hx374_1 hHeld ⊢
             refine pureT (i := 0) (N := some 25) #[true, false, false, false, false, false, false, false, false, false, false, false, false, false, false, false, false, false, false, false] (any_of HT_.out (by kernel_rfl)) ?_
             refine pureT (i := 1) (N := some 26) #[true, true, false, false, false, false, false, false, false, false, false, false, false, false, false, false, false, false, false, false] (any_of HT_.out (by kernel_rfl)) ?_
             refine pureT (i := 2) (N := some 27) #[true, true, true, false, false, false, false, false, false, false, false, false, false, false, false, false, false, false, false, false] (any_of HT_.out (by kernel_rfl)) ?_
             refine pureT (i := 4) (N := some 29) #[true, true, true, false, true, false, false, false, false, false, false, false, false, false, false, false, false, false, false, false] (any_of HT_.out (by kernel_rfl)) ?_
             refine pureT (i := 11) (N := some 36) #[true, true, true, false, true, false, false, false, false, false, false, true, false, false, false, false, false, false, false, false] (any_of HT_.out (by kernel_rfl)) ?_
             refine pureT (i := 13) (N := some 38) #[true, true, true, false, true, false, false, false, false, false, false, true, false, true, false, false, false, false, false, false] (any_of HT_.out (by kernel_rfl)) ?_
             refine take_ (i := 3) (N := some 28) (v := ?_) (a' := ?_) #[true, true, true, true, true, false, false, false, false, false, false, true, false, true, false, false, false, false, false, false] rfl rfl (take_ofW HT_.out HW_.out (by kernel_rfl)) (fun _ _ _ h => h) (Or.inl ⟨by rfl, ?_⟩) hHeld ?_ ?_
             rotate_left
             ·
              rintro w' ⟨s0, s1, s2, s3, s4, s5, s6⟩
              go_simp
              with_reducible rfl
             rotate_left
             ·
              simp only [Act.put, List.setIfInBounds_toArray, List.set_cons_zero, List.set_cons_succ, i64_w, i32_w]
              rfl
             refine pureT (i := 5) (N := some 30) #[true, true, true, true, true, true, false, false, false, false, false, true, false, true, false, false, false, false, false, false] (any_of HT_.out (by kernel_rfl)) ?_
             refine pureT (i := 6) (N := some 31) #[true, true, true, true, true, true, true, false, false, false, false, true, false, true, false, false, false, false, false, false] (any_of HT_.out (by kernel_rfl)) ?_
             refine take_ (i := 7) (N := some 32) (v := ?_) (a' := ?_) #[true, true, true, true, true, true, true, true, false, false, false, true, false, true, false, false, false, false, false, false] rfl rfl (take_ofW HT_.out HW_.out (by kernel_rfl)) (fun _ _ _ h => h) (Or.inl ⟨by rfl, ?_⟩) hHeld ?_ ?_
             rotate_left
             ·
              rintro w' ⟨s0, s1, s2, s3, s4, s5, s6⟩
              go_simp
              with_reducible rfl
             rotate_left
             ·
              simp only [Act.put, List.setIfInBounds_toArray, List.set_cons_zero, List.set_cons_succ, i64_w, i32_w]
              rfl
             refine take_ (i := 12) (N := some 37) (v := ?_) (a' := ?_) #[true, true, true, true, true, true, true, true, false, false, false, true, true, true, false, false, false, false, false, false] rfl rfl (take_ofW HT_.out HW_.out (by kernel_rfl)) (fun _ _ _ h => h) (Or.inl ⟨by rfl, ?_⟩) hHeld ?_ ?_
             rotate_left
             ·
              rintro w' ⟨s0, s1, s2, s3, s4, s5, s6⟩
              go_simp
              with_reducible rfl
             rotate_left
             ·
              simp only [Act.put, List.setIfInBounds_toArray, List.set_cons_zero, List.set_cons_succ, i64_w, i32_w]
              rfl
             refine pureT (i := 14) (N := some 39) #[true, true, true, true, true, true, true, true, false, false, false, true, true, true, true, false, false, false, false, false] (any_of HT_.out (by kernel_rfl)) ?_
             refine pureT (i := 15) (N := some 40) #[true, true, true, true, true, true, true, true, false, false, false, true, true, true, true, true, false, false, false, false] (any_of HT_.out (by kernel_rfl)) ?_
             refine take_ (i := 16) (N := some 41) (v := ?_) (a' := ?_) #[true, true, true, true, true, true, true, true, false, false, false, true, true, true, true, true, true, false, false, false] rfl rfl (take_ofW HT_.out HW_.out (by kernel_rfl)) (fun _ _ _ h => h) (Or.inl ⟨by rfl, ?_⟩) hHeld ?_ ?_
             rotate_left
             ·
              rintro w' ⟨s0, s1, s2, s3, s4, s5, s6⟩
              go_simp
              with_reducible rfl
             rotate_left
             ·
              simp only [Act.put, List.setIfInBounds_toArray, List.set_cons_zero, List.set_cons_succ, i64_w, i32_w]
              rfl
             refine one_ (i := 8) (N := some 33) #[true, true, true, true, true, true, true, true, true, false, false, true, true, true, true, true, true, false, false, false] rfl rfl (one_of HT_.out (by kernel_rfl)) (by decide) (fun K hK => ?_)
             refine goes_ Try.func42 (by kernel_rfl) rfl #[.int .i64 ((rd_T99 l0_0 x4_2).f1)] (by rfl) rfl rfl mT ?_
             with_reducible refine (spec_FormatInt.calls k2 ((rd_T99 l0_0 x4_2).f1) t373 _ A21.out).mono ?_
             rintro e w28 ⟨rfl, hb⟩
             refine ⟨_, rfl, ?_⟩
             replace BK368 := kB BK368 hb
             replace HB := mA (below_step (bT1 HB GE368) hb)
             (try clear hb)
             (try clear hb2)
             (try clear hk)
             (try clear hi)
             refine hK.out _ _ ⟨(blk_cell BK368.out 0).trans rfl, (blk_cell BK368.out 1).trans rfl, (blk_cell BK368.out 2).trans rfl, ((HB.out.cell (World.block_lt_of_cell? w _ hw372_0)).trans hw372_0), ((HB.out.cell (World.block_lt_of_cell? w _ hw372_1)).trans hw372_1), ((HB.out.cell (World.block_lt_of_cell? w _ hw374_0)).trans hw374_0), ((HB.out.cell (World.block_lt_of_cell? w _ hw374_1)).trans hw374_1)⟩ (fun hHeld => ?_)
             clear hK K
             refine norm_ (a' := ?_) ?_ ?_
             rotate_left
             ·
              show Act.put _ (some 33) _ = _
              simp only [Act.put, List.setIfInBounds_toArray, List.set_cons_zero, List.set_cons_succ, i64_w, i32_w]
              rfl
             refine pureT (i := 9) (N := some 34) #[true, true, true, true, true, true, true, true, true, true, false, true, true, true, true, true, true, false, false, false] (any_of HT_.out (by kernel_rfl)) ?_
             refine pureT (i := 10) (N := some 35) #[true, true, true, true, true, true, true, true, true, true, true, true, true, true, true, true, true, false, false, false] (any_of HT_.out (by kernel_rfl)) ?_
             refine one_ (i := 17) (N := some 42) #[true, true, true, true, true, true, true, true, true, true, true, true, true, true, true, true, true, true, false, false] rfl rfl (one_of HT_.out (by kernel_rfl)) (by decide) (fun K hK => ?_)
             refine goes_ Try.func52 (by kernel_rfl) rfl #[.slice A372_0 ((rd_T99 l0_0 x4_2).f0).length c372_0] (by rfl) rfl rfl mT ?_
             with_reducible refine (spec_FormatRows.calls k2 _ _ ((rd_T99 l0_0 x4_2).f0) t375 _ ?side1 ?side2 A24.out).mono ?_
             (case side1 => exact cT (Kd.C_below HR374_0.out HB.out))
             (case side2 => exact HC374_0.out)
             rintro e w29 ⟨rfl, hb⟩
             refine ⟨_, rfl, ?_⟩
             replace BK368 := kB BK368 hb
             replace HB := mA (below_step (bT1 HB GE368) hb)
             (try clear hb)
             (try clear hb2)
             (try clear hk)
             (try clear hi)
             refine hK.out _ _ ⟨(blk_cell BK368.out 0).trans rfl, (blk_cell BK368.out 1).trans rfl, (blk_cell BK368.out 2).trans rfl, ((HB.out.cell (World.block_lt_of_cell? w _ hw372_0)).trans hw372_0), ((HB.out.cell (World.block_lt_of_cell? w _ hw372_1)).trans hw372_1), ((HB.out.cell (World.block_lt_of_cell? w _ hw374_0)).trans hw374_0), ((HB.out.cell (World.block_lt_of_cell? w _ hw374_1)).trans hw374_1)⟩ (fun hHeld => ?_)
             clear hK K
             refine norm_ (a' := ?_) ?_ ?_
             rotate_left
             ·
              show Act.put _ (some 42) _ = _
              simp only [Act.put, List.setIfInBounds_toArray, List.set_cons_zero, List.set_cons_succ, i64_w, i32_w]
              rfl
             refine pureT (i := 18) (N := some 43) #[true, true, true, true, true, true, true, true, true, true, true, true, true, true, true, true, true, true, true, false] (any_of HT_.out (by kernel_rfl)) ?_
             refine pureT (i := 19) (N := some 3) #[true, true, true, true, true, true, true, true, true, true, true, true, true, true, true, true, true, true, true, true] (any_of HT_.out (by kernel_rfl)) ?_
             refine done_ (done_of HT_.out (by kernel_rfl)) ?_
             try go_wp2
             go_roundg k2
             case measure => have := HJ5.out; have := HK2.out; omega
             case rel => exact ⟨((((x3_2 ++ (⟨#[47]⟩ : ByteArray)) ++ t373) ++ (⟨#[59]⟩ : ByteArray)) ++ t375), (wrap64 (x4_2 + 1)), sT, sT, H', ⟨by have := HJ5.out; have := HK2.out; omega⟩, ⟨kT BK368⟩, ⟨bT1 HB GE368⟩⟩
            ·
             rw [if_neg c25] at H
             exact absurd H (by simp)
           ·
            rw [if_neg c23] at H
            exact absurd H (by simp)
          ·
           rw [if_neg c22] at H
           exact absurd H (by simp)
         ·
          rw [if_neg c20] at H
          exact absurd H (by simp)
        ·
         rw [if_neg c19] at H
         exact absurd H (by simp)
       ·
        rw [if_neg c18] at H
        have c18b0 : decide (x4_2 < (l0_0.length : Int)) = false := decide_eq_false c18
        clear c18
        obtain rfl := Option.some.inj H
        have hcz30_0 : wr.cell? ⟨gb368, 0, none⟩ = some (.slice A0_0 l0_0.length c0_0) := (blk_cell BK368.out 0).trans rfl
        have hcz30_1 : wr.cell? ⟨gb368, 1, none⟩ = some (.int .i64 a0_1) := (blk_cell BK368.out 1).trans rfl
        have hcz30_2 : wr.cell? ⟨gb368, 2, none⟩ = some (.bool a0_2) := (blk_cell BK368.out 2).trans rfl
        have hfz30_0 := blk_frozen BK368.out 0
        have hfz30_1 := blk_frozen BK368.out 1
        have hfz30_2 := blk_frozen BK368.out 2
        go_wp2
        go_ret
        exact ⟨eT, bT1 HB GE368⟩
  ·
   rw [if_neg c5] at H
   exact absurd H (by simp)
 ·
  replace c3 := Bool.eq_false_iff.mpr c3
  subst c3
  rw [if_neg (show ¬ (false = true) by decide)] at H
  obtain rfl := Option.some.inj H
  go_enter Try.func21, Try.ntmps21
  go_wp2_with (first | ((with_reducible refine gate_dst (N := 1) rfl ?_); refine boxT 1 #[.slice A0_0 l0_0.length c0_0, .int .i64 a0_1, .bool a0_2] 48 ?_; intro gb368 hg w31 hbox hb; have BK368 := mA (hbox); have GW368 := mA ((by rw [hg]; exact (below_size (bT HB)) : w.heap.size ≤ gb368)); have GE368 := GW368; replace HB := mA (below_step (bT HB) hb); clear hb hbox hg; obtain ⟨hcz32_0, hcz32_1, hcz32_2, hfz32_0, hfz32_1, hfz32_2⟩ := blk3 BK368.out) | ((with_reducible refine gate_callee (f := 60) rfl ?_); refine goesT (some 6) Try.func60 #[.agg #[.slice A0_0 l0_0.length c0_0, .int .i64 a0_1, .bool a0_2]] ?_; (with_reducible refine (spec_IsValidAggregator.calls k _ _ l0_0 a0_1 a0_2 false _ ?side1 ?side2 A2.out).mono ?_); (case side1 => exact cT (Kd.C_below HR0_0.out HB.out)); (case side2 => exact HC0_0.out); rintro e w33 ⟨rfl, hb⟩; refine ⟨_, rfl, ?_⟩; replace HB := mA (below_step (bT1 HB GE368) hb); (try clear hb)))
  go_ret
  exact ⟨eT, bT1 HB GE368⟩

/-! ### impl_IsValidAggregator: function 62 -/
def impl_IsValidAggregator.l0 : Nat → Int → List (S99) → Int → Int → List (S99) → Int → Bool → Option (Bool)
 | 0, _, _, _, _, _, _, _ => none
 | k + 1, x3, x7, x8, x9, x398000, x398001, x398002 => if x9 < x8 then (if 0 ≤ x9 then (if x9 < (x7.length : Int) then ((impl_AreValidRows.f k ((rd_T99 x7 x9).f0)).bind fun t401 => (if t401 = true then ((impl_within.f ((rd_T99 x7 x9).f1) 0 4).bind fun t402 => (if t402 = true then (impl_IsValidAggregator.l0 k (wrap64 (x3 + (((rd_T99 x7 x9).f0).length : Int))) x7 x8 (wrap64 (x9 + 1)) x398000 x398001 x398002) else (some false))) else (some false))) else (none)) else (none)) else (if (x398000.length : Int) ≤ 40 then (if x3 ≤ 24 then ((impl_within.f x398001 0 100000).bind fun t398 => (some t398)) else (some false)) else (some false))
def impl_IsValidAggregator.f (k : Nat) (l0_0 : List (S99)) (a0_1 : Int) (a0_2 : Bool) : Option (Bool) := impl_IsValidAggregator.l0 k 0 l0_0 (l0_0.length : Int) 0 l0_0 a0_1 a0_2
theorem impl_IsValidAggregator.mono_l : ∀ k, (∀ y0 y1 y2 y3 y4 y5 y6, LeO (impl_IsValidAggregator.l0 k y0 y1 y2 y3 y4 y5 y6) (impl_IsValidAggregator.l0 (k + 1) y0 y1 y2 y3 y4 y5 y6))
 | 0 => fun _ _ _ _ _ _ _ r h => by simp [impl_IsValidAggregator.l0] at h
 | k + 1 => by
  have ih0 := impl_IsValidAggregator.mono_l k
  ·
   intro y0 y1 y2 y3 y4 y5 y6
   unfold impl_IsValidAggregator.l0
   repeat' first
   | (with_reducible exact ih0 _ _ _ _ _ _ _)
   | (with_reducible exact impl_AreValidRows.mono _ _)
   | (with_reducible exact LeO.refl _)
   | (with_reducible exact LeO.none _)
   | (with_reducible refine LeO.ite ?_ ?_)
   | (with_reducible refine LeO.bind ?_ (fun _ => ?_))
   | exact ih0 _ _ _ _ _ _ _
   | exact impl_AreValidRows.mono _ _
   | exact LeO.none _
   | refine LeO.ite ?_ ?_
   | refine LeO.bind ?_ (fun _ => ?_)
theorem impl_IsValidAggregator.mono : ∀ a0 a1 a2 k, LeO (impl_IsValidAggregator.f k a0 a1 a2) (impl_IsValidAggregator.f (k + 1) a0 a1 a2) := by
 intro a0 a1 a2 k
 have ih0 := impl_IsValidAggregator.mono_l k
 unfold impl_IsValidAggregator.f
 repeat' first
   | (with_reducible exact ih0 _ _ _ _ _ _ _)
   | (with_reducible exact impl_AreValidRows.mono _ _)
   | (with_reducible exact LeO.refl _)
   | (with_reducible exact LeO.none _)
   | (with_reducible refine LeO.ite ?_ ?_)
   | (with_reducible refine LeO.bind ?_ (fun _ => ?_))
   | exact ih0 _ _ _ _ _ _ _
   | exact impl_AreValidRows.mono _ _
   | exact LeO.none _
   | refine LeO.ite ?_ ?_
   | refine LeO.bind ?_ (fun _ => ?_)
set_option maxHeartbeats 8000000 in
set_option maxRecDepth 100000 in
theorem impl_IsValidAggregator.calls (k : Nat) (A0_0 : Option Addr) (c0_0 : Nat) (l0_0 : List (S99)) (a0_1 : Int) (a0_2 : Bool) (r : Bool) (w : World) (hr0_0 : Kd.C k99 w A0_0 l0_0.length l0_0) (hc0_0 : l0_0.length ≤ c0_0) (h : impl_IsValidAggregator.f k l0_0 a0_1 a0_2 = some r) :
  Calls Try.prog 62 #[.agg #[.slice A0_0 l0_0.length c0_0, .int .i64 a0_1, .bool a0_2]] w fun e w' => e = .returned (.bool r) ∧ Below w.heap.size w w' := by
 have hu48 := Try.underlying48
 have hu99 := Try.underlying99
 have HR0_0 := mA hr0_0
 have HC0_0 := mA hc0_0
 clear hr0_0 hc0_0
 have HB := mA (Below.refl w.heap.size w)
 have H : (impl_IsValidAggregator.l0 k 0 l0_0 (l0_0.length : Int) 0 l0_0 a0_1 a0_2) = some r := h
 clear h
 have H' := mA H
 clear H
 go_enter Try.func62, Try.ntmps62
 go_wp2_with (first | ((with_reducible refine gate_dst (N := 1) rfl ?_); refine boxT 1 #[.slice A0_0 l0_0.length c0_0, .int .i64 a0_1, .bool a0_2] 48 ?_; intro gb397 hg w2 hbox hb; have BK397 := mA (hbox); have GW397 := mA ((by rw [hg]; exact (below_size (bT HB)) : w.heap.size ≤ gb397)); have GE397 := GW397; replace HB := mA (below_step (bT HB) hb); clear hb hbox hg; obtain ⟨hcz3_0, hcz3_1, hcz3_2, hfz3_0, hfz3_1, hfz3_2⟩ := blk3 BK397.out))
 go_loopg [3, 9] k (fun kq v3 v9 w' => ∃ (x3_1 : Int) (x9_1 : Int), v3 = .int .i64 x3_1 ∧ v9 = .int .i64 x9_1 ∧ Aside0 (impl_IsValidAggregator.l0 kq x3_1 l0_0 (l0_0.length : Int) x9_1 l0_0 a0_1 a0_2 = some r) ∧ Aside0 (kq ≤ k) ∧ Aside0 (w'.heap[gb397]? = some (.cells #[(.slice A0_0 l0_0.length c0_0), .int .i64 a0_1, .bool a0_2] 48 (0, 0))) ∧ Aside0 (Below w.heap.size w w'))
 case atStart => exact ⟨(0), (0), sT, sT, H', ⟨Nat.le_refl _⟩, ⟨kT BK397⟩, ⟨bT1 HB GE397⟩⟩
 case round =>
  clear H'
  try clear p2
  try clear hcz3_0
  try clear hcz3_1
  try clear hcz3_2
  try clear hfz3_0
  try clear hfz3_1
  try clear hfz3_2
  obtain ⟨x3_1, x9_1, rfl, rfl, HA, HK1, BK397, HB⟩ := hrel
  cases gk with
  | zero => exact absurd HA.out (by simp [impl_IsValidAggregator.l0])
  | succ k1 =>
   have H := HA.out
   clear HA
   simp only [impl_IsValidAggregator.l0] at H
   by_cases c4 : x9_1 < (l0_0.length : Int)
   ·
    rw [if_pos c4] at H
    have c4b0 : decide (x9_1 < (l0_0.length : Int)) = true := decide_eq_true c4
    clear c4
    by_cases c5 : 0 ≤ x9_1
    ·
     rw [if_pos c5] at H
     have c5b0 : decide (0 ≤ x9_1) = true := decide_eq_true c5
     clear c5
     by_cases c6 : x9_1 < (l0_0.length : Int)
     ·
      rw [if_pos c6] at H
      have c6b0 : decide (x9_1 < (l0_0.length : Int)) = true := decide_eq_true c6
      clear c6
      obtain ⟨t401, A7, H⟩ := Option.bind_eq_some_iff.mp H
      replace A7 := mA A7
      try dsimp only at H
      by_cases c8 : t401 = true
      ·
       subst c8
       rw [if_pos rfl] at H
       obtain ⟨t402, A9, H⟩ := Option.bind_eq_some_iff.mp H
       replace A9 := mA A9
       try dsimp only at H
       by_cases c10 : t402 = true
       ·
        subst c10
        rw [if_pos rfl] at H
        have H' := mA H
        clear H
        have p399 : 0 ≤ (x9_1 : Int) := of_decide_eq_true aT
        have q399 : x9_1 < (l0_0.length : Int) := of_decide_eq_true aT
        obtain ⟨ad399, A399_0, c399_0, e399, hx399_0, hx399_1, hl399_0, hi399_0⟩ := at_T99 HR0_0.out x9_1 p399 q399
        cases e399
        replace hx399_0 := (HB.out.cell (World.block_lt_of_cell? w _ hx399_0)).trans hx399_0
        replace hx399_1 := (HB.out.cell (World.block_lt_of_cell? w _ hx399_1)).trans hx399_1
        have HR399_0 := mA hi399_0
        have HC399_0 := mA hl399_0
        clear hi399_0 hl399_0
        replace p399 := eq_true p399
        replace q399 := eq_true q399
        go_wp2_with (first | ((with_reducible refine gate_dst (N := 5) rfl ?_); refine boxT 5 #[.slice none 0 0, .int .i64 0] 99 ?_; intro gb400 hg w11 hbox hb; have BK400 := mA (hbox); have GW400 := mA ((by rw [hg]; exact (below_size (bT1 HB GE397)) : w.heap.size ≤ gb400)); have GE400 := GW400; replace HB := mA (below_step (bT1 HB GE397) hb); have NB397_400 : Aside0 (gb397 ≠ gb400) := nL BK397 hg; have NB400_397 : Aside0 (gb400 ≠ gb397) := nG BK397 hg; replace BK397 := kB BK397 hb; clear hb hbox hg; have hnb12 := NB400_397.out; have hnc12 := NB397_400.out; obtain ⟨hcz13_0, hcz13_1, hfz13_0, hfz13_1⟩ := blk2 BK400.out) | ((with_reducible refine gate_callee (f := 92) rfl ?_); refine goesT (some 15) Try.func92 #[.slice A399_0 ((rd_T99 l0_0 x9_1).f0).length c399_0] ?_; (with_reducible refine (impl_AreValidRows.calls k1 _ _ ((rd_T99 l0_0 x9_1).f0) true _ ?side1 ?side2 A7.out).mono ?_); (case side1 => exact Kd.C_below HR399_0.out (bT2 HB GE397 GE400)); (case side2 => exact HC399_0.out); rintro e w14 ⟨rfl, hb⟩; refine ⟨_, rfl, ?_⟩; replace BK397 := mA (blk_below (g := gb397) (o := .cells #[.slice (some ad399) l0_0.length c0_0, .int .i64 a0_1, .bool a0_2] 48 (0, 0)) (by (with_reducible repeat (first | refine blk_drewN ?_ _ | refine blk_drew ?_ | refine blk_alloc ?_ _)); refine blk_far ?_ NB397_400.out _; (with_reducible repeat (first | refine blk_drewN ?_ _ | refine blk_drew ?_ | refine blk_alloc ?_ _)); refine blk_far ?_ NB397_400.out _; (with_reducible repeat (first | refine blk_drewN ?_ _ | refine blk_drew ?_ | refine blk_alloc ?_ _)); exact BK397.out) hb); replace BK400 := mA (blk_below (g := gb400) (o := .cells #[.slice A399_0 ((rd_T99 l0_0 x9_1).f0).length c399_0, .int .i64 ((rd_T99 l0_0 x9_1).f1)] 99 (0, 0)) (by (with_reducible repeat (first | refine blk_drewN ?_ _ | refine blk_drew ?_ | refine blk_alloc ?_ _)); refine blk_put (cs := #[.slice A399_0 ((rd_T99 l0_0 x9_1).f0).length c399_0, .int .i64 0]) ?_ 1 _ rfl; (with_reducible repeat (first | refine blk_drewN ?_ _ | refine blk_drew ?_ | refine blk_alloc ?_ _)); refine blk_put (cs := #[.slice none 0 0, .int .i64 0]) ?_ 0 _ rfl; (with_reducible repeat (first | refine blk_drewN ?_ _ | refine blk_drew ?_ | refine blk_alloc ?_ _)); exact BK400.out) hb); replace HB := mA (below_step (bT2 HB GE397 GE400) hb); (try clear hb); obtain ⟨hcz15_0, hcz15_1, hfz15_0, hfz15_1⟩ := blk2 BK400.out) | (go_at_call 93; (with_reducible refine (impl_within.calls ((rd_T99 l0_0 x9_1).f1) 0 4 true _ A9.out).mono ?_); rintro e w' ⟨rfl, ⟨nd, rfl⟩⟩))
        go_roundg k1
        case measure => have := HK1.out; omega
        case rel => exact ⟨(wrap64 (x3_1 + (((rd_T99 l0_0 x9_1).f0).length : Int))), (wrap64 (x9_1 + 1)), sT, sT, H', ⟨by have := HK1.out; omega⟩, ⟨kT BK397⟩, ⟨bT2 HB GE397 GE400⟩⟩
       ·
        replace c10 := Bool.eq_false_iff.mpr c10
        subst c10
        rw [if_neg (show ¬ (false = true) by decide)] at H
        obtain rfl := Option.some.inj H
        have p399 : 0 ≤ (x9_1 : Int) := of_decide_eq_true aT
        have q399 : x9_1 < (l0_0.length : Int) := of_decide_eq_true aT
        obtain ⟨ad399, A399_0, c399_0, e399, hx399_0, hx399_1, hl399_0, hi399_0⟩ := at_T99 HR0_0.out x9_1 p399 q399
        cases e399
        replace hx399_0 := (HB.out.cell (World.block_lt_of_cell? w _ hx399_0)).trans hx399_0
        replace hx399_1 := (HB.out.cell (World.block_lt_of_cell? w _ hx399_1)).trans hx399_1
        have HR399_0 := mA hi399_0
        have HC399_0 := mA hl399_0
        clear hi399_0 hl399_0
        replace p399 := eq_true p399
        replace q399 := eq_true q399
        go_wp2_with (first | ((with_reducible refine gate_dst (N := 5) rfl ?_); refine boxT 5 #[.slice none 0 0, .int .i64 0] 99 ?_; intro gb400 hg w16 hbox hb; have BK400 := mA (hbox); have GW400 := mA ((by rw [hg]; exact (below_size (bT1 HB GE397)) : w.heap.size ≤ gb400)); have GE400 := GW400; replace HB := mA (below_step (bT1 HB GE397) hb); have NB397_400 : Aside0 (gb397 ≠ gb400) := nL BK397 hg; have NB400_397 : Aside0 (gb400 ≠ gb397) := nG BK397 hg; replace BK397 := kB BK397 hb; clear hb hbox hg; have hnb17 := NB400_397.out; have hnc17 := NB397_400.out; obtain ⟨hcz18_0, hcz18_1, hfz18_0, hfz18_1⟩ := blk2 BK400.out) | ((with_reducible refine gate_callee (f := 92) rfl ?_); refine goesT (some 15) Try.func92 #[.slice A399_0 ((rd_T99 l0_0 x9_1).f0).length c399_0] ?_; (with_reducible refine (impl_AreValidRows.calls k1 _ _ ((rd_T99 l0_0 x9_1).f0) true _ ?side1 ?side2 A7.out).mono ?_); (case side1 => exact Kd.C_below HR399_0.out (bT2 HB GE397 GE400)); (case side2 => exact HC399_0.out); rintro e w19 ⟨rfl, hb⟩; refine ⟨_, rfl, ?_⟩; replace BK397 := mA (blk_below (g := gb397) (o := .cells #[.slice (some ad399) l0_0.length c0_0, .int .i64 a0_1, .bool a0_2] 48 (0, 0)) (by (with_reducible repeat (first | refine blk_drewN ?_ _ | refine blk_drew ?_ | refine blk_alloc ?_ _)); refine blk_far ?_ NB397_400.out _; (with_reducible repeat (first | refine blk_drewN ?_ _ | refine blk_drew ?_ | refine blk_alloc ?_ _)); refine blk_far ?_ NB397_400.out _; (with_reducible repeat (first | refine blk_drewN ?_ _ | refine blk_drew ?_ | refine blk_alloc ?_ _)); exact BK397.out) hb); replace BK400 := mA (blk_below (g := gb400) (o := .cells #[.slice A399_0 ((rd_T99 l0_0 x9_1).f0).length c399_0, .int .i64 ((rd_T99 l0_0 x9_1).f1)] 99 (0, 0)) (by (with_reducible repeat (first | refine blk_drewN ?_ _ | refine blk_drew ?_ | refine blk_alloc ?_ _)); refine blk_put (cs := #[.slice A399_0 ((rd_T99 l0_0 x9_1).f0).length c399_0, .int .i64 0]) ?_ 1 _ rfl; (with_reducible repeat (first | refine blk_drewN ?_ _ | refine blk_drew ?_ | refine blk_alloc ?_ _)); refine blk_put (cs := #[.slice none 0 0, .int .i64 0]) ?_ 0 _ rfl; (with_reducible repeat (first | refine blk_drewN ?_ _ | refine blk_drew ?_ | refine blk_alloc ?_ _)); exact BK400.out) hb); replace HB := mA (below_step (bT2 HB GE397 GE400) hb); (try clear hb); obtain ⟨hcz20_0, hcz20_1, hfz20_0, hfz20_1⟩ := blk2 BK400.out) | (go_at_call 93; (with_reducible refine (impl_within.calls ((rd_T99 l0_0 x9_1).f1) 0 4 false _ A9.out).mono ?_); rintro e w' ⟨rfl, ⟨nd, rfl⟩⟩))
        go_ret
        exact ⟨eT, bT2 HB GE397 GE400⟩
      ·
       replace c8 := Bool.eq_false_iff.mpr c8
       subst c8
       rw [if_neg (show ¬ (false = true) by decide)] at H
       obtain rfl := Option.some.inj H
       have p399 : 0 ≤ (x9_1 : Int) := of_decide_eq_true aT
       have q399 : x9_1 < (l0_0.length : Int) := of_decide_eq_true aT
       obtain ⟨ad399, A399_0, c399_0, e399, hx399_0, hx399_1, hl399_0, hi399_0⟩ := at_T99 HR0_0.out x9_1 p399 q399
       cases e399
       replace hx399_0 := (HB.out.cell (World.block_lt_of_cell? w _ hx399_0)).trans hx399_0
       replace hx399_1 := (HB.out.cell (World.block_lt_of_cell? w _ hx399_1)).trans hx399_1
       have HR399_0 := mA hi399_0
       have HC399_0 := mA hl399_0
       clear hi399_0 hl399_0
       replace p399 := eq_true p399
       replace q399 := eq_true q399
       go_wp2_with (first | ((with_reducible refine gate_dst (N := 5) rfl ?_); refine boxT 5 #[.slice none 0 0, .int .i64 0] 99 ?_; intro gb400 hg w21 hbox hb; have BK400 := mA (hbox); have GW400 := mA ((by rw [hg]; exact (below_size (bT1 HB GE397)) : w.heap.size ≤ gb400)); have GE400 := GW400; replace HB := mA (below_step (bT1 HB GE397) hb); have NB397_400 : Aside0 (gb397 ≠ gb400) := nL BK397 hg; have NB400_397 : Aside0 (gb400 ≠ gb397) := nG BK397 hg; replace BK397 := kB BK397 hb; clear hb hbox hg; have hnb22 := NB400_397.out; have hnc22 := NB397_400.out; obtain ⟨hcz23_0, hcz23_1, hfz23_0, hfz23_1⟩ := blk2 BK400.out) | ((with_reducible refine gate_callee (f := 92) rfl ?_); refine goesT (some 15) Try.func92 #[.slice A399_0 ((rd_T99 l0_0 x9_1).f0).length c399_0] ?_; (with_reducible refine (impl_AreValidRows.calls k1 _ _ ((rd_T99 l0_0 x9_1).f0) false _ ?side1 ?side2 A7.out).mono ?_); (case side1 => exact Kd.C_below HR399_0.out (bT2 HB GE397 GE400)); (case side2 => exact HC399_0.out); rintro e w24 ⟨rfl, hb⟩; refine ⟨_, rfl, ?_⟩; replace BK397 := mA (blk_below (g := gb397) (o := .cells #[.slice (some ad399) l0_0.length c0_0, .int .i64 a0_1, .bool a0_2] 48 (0, 0)) (by (with_reducible repeat (first | refine blk_drewN ?_ _ | refine blk_drew ?_ | refine blk_alloc ?_ _)); refine blk_far ?_ NB397_400.out _; (with_reducible repeat (first | refine blk_drewN ?_ _ | refine blk_drew ?_ | refine blk_alloc ?_ _)); refine blk_far ?_ NB397_400.out _; (with_reducible repeat (first | refine blk_drewN ?_ _ | refine blk_drew ?_ | refine blk_alloc ?_ _)); exact BK397.out) hb); replace HB := mA (below_step (bT2 HB GE397 GE400) hb); (try clear hb)))
       go_ret
       exact ⟨eT, bT2 HB GE397 GE400⟩
     ·
      rw [if_neg c6] at H
      exact absurd H (by simp)
    ·
     rw [if_neg c5] at H
     exact absurd H (by simp)
   ·
    rw [if_neg c4] at H
    have c4b0 : decide (x9_1 < (l0_0.length : Int)) = false := decide_eq_false c4
    clear c4
    by_cases c25 : (l0_0.length : Int) ≤ 40
    ·
     rw [if_pos c25] at H
     have c25b0 : decide ((l0_0.length : Int) ≤ 40) = true := decide_eq_true c25
     have c25b1 : decide (l0_0.length ≤ 40) = true := decide_eq_true (by omega)
     clear c25
     by_cases c26 : x3_1 ≤ 24
     ·
      rw [if_pos c26] at H
      have c26b0 : decide (x3_1 ≤ 24) = true := decide_eq_true c26
      clear c26
      obtain ⟨t398, A27, H⟩ := Option.bind_eq_some_iff.mp H
      replace A27 := mA A27
      replace H : (some t398) = some r := H
      obtain rfl := Option.some.inj H
      have hcz28_0 : wr.cell? ⟨gb397, 0, none⟩ = some (.slice A0_0 l0_0.length c0_0) := (blk_cell BK397.out 0).trans rfl
      have hcz28_1 : wr.cell? ⟨gb397, 1, none⟩ = some (.int .i64 a0_1) := (blk_cell BK397.out 1).trans rfl
      have hcz28_2 : wr.cell? ⟨gb397, 2, none⟩ = some (.bool a0_2) := (blk_cell BK397.out 2).trans rfl
      have hfz28_0 := blk_frozen BK397.out 0
      have hfz28_1 := blk_frozen BK397.out 1
      have hfz28_2 := blk_frozen BK397.out 2
      go_wp2_with (first | (go_at_call 93; (with_reducible refine (impl_within.calls a0_1 0 100000 t398 _ A27.out).mono ?_); rintro e w' ⟨rfl, ⟨nd, rfl⟩⟩))
      go_ret
      exact ⟨eT, bT1 HB GE397⟩
     ·
      rw [if_neg c26] at H
      have c26b0 : decide (x3_1 ≤ 24) = false := decide_eq_false c26
      clear c26
      obtain rfl := Option.some.inj H
      have hcz29_0 : wr.cell? ⟨gb397, 0, none⟩ = some (.slice A0_0 l0_0.length c0_0) := (blk_cell BK397.out 0).trans rfl
      have hcz29_1 : wr.cell? ⟨gb397, 1, none⟩ = some (.int .i64 a0_1) := (blk_cell BK397.out 1).trans rfl
      have hcz29_2 : wr.cell? ⟨gb397, 2, none⟩ = some (.bool a0_2) := (blk_cell BK397.out 2).trans rfl
      have hfz29_0 := blk_frozen BK397.out 0
      have hfz29_1 := blk_frozen BK397.out 1
      have hfz29_2 := blk_frozen BK397.out 2
      go_wp2
      go_ret
      exact ⟨eT, bT1 HB GE397⟩
    ·
     rw [if_neg c25] at H
     have c25b0 : decide ((l0_0.length : Int) ≤ 40) = false := decide_eq_false c25
     have c25b1 : decide (l0_0.length ≤ 40) = false := decide_eq_false (by omega)
     clear c25
     obtain rfl := Option.some.inj H
     have hcz30_0 : wr.cell? ⟨gb397, 0, none⟩ = some (.slice A0_0 l0_0.length c0_0) := (blk_cell BK397.out 0).trans rfl
     have hcz30_1 : wr.cell? ⟨gb397, 1, none⟩ = some (.int .i64 a0_1) := (blk_cell BK397.out 1).trans rfl
     have hcz30_2 : wr.cell? ⟨gb397, 2, none⟩ = some (.bool a0_2) := (blk_cell BK397.out 2).trans rfl
     have hfz30_0 := blk_frozen BK397.out 0
     have hfz30_1 := blk_frozen BK397.out 1
     have hfz30_2 := blk_frozen BK397.out 2
     go_wp2
     go_ret
     exact ⟨eT, bT1 HB GE397⟩

/-! ### laws_eqGroupTask: function 98 -/
def laws_eqGroupTask.f (k : Nat) (l0_0 : List (S124)) (a0_1 : Int) (l1_0 : List (S124)) (a1_1 : Int) : Option (Bool) := (laws_eqRowS.f k l0_0 l1_0).bind fun t412 => (if t412 = true then (if a0_1 = a1_1 then (some true) else (some false)) else (some false))
theorem laws_eqGroupTask.mono : ∀ a0 a1 a2 a3 k, LeO (laws_eqGroupTask.f k a0 a1 a2 a3) (laws_eqGroupTask.f (k + 1) a0 a1 a2 a3) := by
 intro a0 a1 a2 a3 k
 unfold laws_eqGroupTask.f
 repeat' first
   | (with_reducible exact laws_eqRowS.mono _ _ _)
   | (with_reducible exact LeO.refl _)
   | (with_reducible exact LeO.none _)
   | (with_reducible refine LeO.ite ?_ ?_)
   | (with_reducible refine LeO.bind ?_ (fun _ => ?_))
   | exact laws_eqRowS.mono _ _ _
   | exact LeO.none _
   | refine LeO.ite ?_ ?_
   | refine LeO.bind ?_ (fun _ => ?_)
set_option maxHeartbeats 8000000 in
set_option maxRecDepth 100000 in
theorem laws_eqGroupTask.calls (k : Nat) (A0_0 : Option Addr) (c0_0 : Nat) (l0_0 : List (S124)) (a0_1 : Int) (A1_0 : Option Addr) (c1_0 : Nat) (l1_0 : List (S124)) (a1_1 : Int) (r : Bool) (w : World) (hr0_0 : Kd.C k124 w A0_0 l0_0.length l0_0) (hc0_0 : l0_0.length ≤ c0_0) (hr1_0 : Kd.C k124 w A1_0 l1_0.length l1_0) (hc1_0 : l1_0.length ≤ c1_0) (h : laws_eqGroupTask.f k l0_0 a0_1 l1_0 a1_1 = some r) :
  Calls Try.prog 98 #[.agg #[.slice A0_0 l0_0.length c0_0, .int .i64 a0_1], .agg #[.slice A1_0 l1_0.length c1_0, .int .i64 a1_1]] w fun e w' => e = .returned (.bool r) ∧ Below w.heap.size w w' := by
 have hu99 := Try.underlying99
 have HR0_0 := mA hr0_0
 have HC0_0 := mA hc0_0
 clear hr0_0 hc0_0
 have HR1_0 := mA hr1_0
 have HC1_0 := mA hc1_0
 clear hr1_0 hc1_0
 have HB := mA (Below.refl w.heap.size w)
 have H : ((laws_eqRowS.f k l0_0 l1_0).bind fun t412 => (if t412 = true then (if a0_1 = a1_1 then (some true) else (some false)) else (some false))) = some r := h
 clear h
 obtain ⟨t412, A3, H⟩ := Option.bind_eq_some_iff.mp H
 replace A3 := mA A3
 try dsimp only at H
 by_cases c4 : t412 = true
 ·
  subst c4
  rw [if_pos rfl] at H
  by_cases c5 : a0_1 = a1_1
  ·
   rw [if_pos c5] at H
   have c5b0 : (a0_1 == a1_1) = true := beq_iff_eq.mpr c5
   have c5b1 : (a0_1 != a1_1) = false := bne_eq_false_iff_eq.mpr c5
   clear c5
   obtain rfl := Option.some.inj H
   go_enter Try.func98, Try.ntmps98
   go_wp2_with (first | ((with_reducible refine gate_dst (N := 2) rfl ?_); refine boxT 2 #[.slice A0_0 l0_0.length c0_0, .int .i64 a0_1] 99 ?_; intro gb410 hg w6 hbox hb; have BK410 := mA (hbox); have GW410 := mA ((by rw [hg]; exact (below_size (bT HB)) : w.heap.size ≤ gb410)); have GE410 := GW410; replace HB := mA (below_step (bT HB) hb); clear hb hbox hg) | ((with_reducible refine gate_dst (N := 3) rfl ?_); refine boxT 3 #[.slice A1_0 l1_0.length c1_0, .int .i64 a1_1] 99 ?_; intro gb411 hg w7 hbox hb; have BK411 := mA (hbox); have GW411 := mA ((by rw [hg]; exact (below_size (bT1 HB GE410)) : w.heap.size ≤ gb411)); have GE411 := GW411; replace HB := mA (below_step (bT1 HB GE410) hb); have NB410_411 : Aside0 (gb410 ≠ gb411) := nL BK410 hg; have NB411_410 : Aside0 (gb411 ≠ gb410) := nG BK410 hg; replace BK410 := kB BK410 hb; clear hb hbox hg; have hnb8 := NB410_411.out; have hnc8 := NB411_410.out; obtain ⟨hcz9_0, hcz9_1, hfz9_0, hfz9_1⟩ := blk2 BK410.out; obtain ⟨hcz10_0, hcz10_1, hfz10_0, hfz10_1⟩ := blk2 BK411.out) | ((with_reducible refine gate_callee (f := 57) rfl ?_); refine goesT (some 9) Try.func57 #[.slice A0_0 l0_0.length c0_0, .slice A1_0 l1_0.length c1_0] ?_; (with_reducible refine (laws_eqRowS.calls k _ _ l0_0 _ _ l1_0 true _ ?side1 ?side2 ?side3 ?side4 A3.out).mono ?_); (case side1 => exact cT (Kd.C_below HR0_0.out HB.out)); (case side2 => exact HC0_0.out); (case side3 => exact cT (Kd.C_below HR1_0.out HB.out)); (case side4 => exact HC1_0.out); rintro e w11 ⟨rfl, hb⟩; refine ⟨_, rfl, ?_⟩; replace BK410 := kB BK410 hb; replace BK411 := kB BK411 hb; replace HB := mA (below_step (bT2 HB GE410 GE411) hb); (try clear hb); obtain ⟨hcz12_0, hcz12_1, hfz12_0, hfz12_1⟩ := blk2 BK410.out; obtain ⟨hcz13_0, hcz13_1, hfz13_0, hfz13_1⟩ := blk2 BK411.out))
   go_ret
   exact ⟨eT, bT2 HB GE410 GE411⟩
  ·
   rw [if_neg c5] at H
   have c5b0 : (a0_1 == a1_1) = false := beq_eq_false_iff_ne.mpr c5
   have c5b1 : (a0_1 != a1_1) = true := bne_iff_ne.mpr c5
   obtain rfl := Option.some.inj H
   go_enter Try.func98, Try.ntmps98
   go_wp2_with (first | ((with_reducible refine gate_dst (N := 2) rfl ?_); refine boxT 2 #[.slice A0_0 l0_0.length c0_0, .int .i64 a0_1] 99 ?_; intro gb410 hg w14 hbox hb; have BK410 := mA (hbox); have GW410 := mA ((by rw [hg]; exact (below_size (bT HB)) : w.heap.size ≤ gb410)); have GE410 := GW410; replace HB := mA (below_step (bT HB) hb); clear hb hbox hg) | ((with_reducible refine gate_dst (N := 3) rfl ?_); refine boxT 3 #[.slice A1_0 l1_0.length c1_0, .int .i64 a1_1] 99 ?_; intro gb411 hg w15 hbox hb; have BK411 := mA (hbox); have GW411 := mA ((by rw [hg]; exact (below_size (bT1 HB GE410)) : w.heap.size ≤ gb411)); have GE411 := GW411; replace HB := mA (below_step (bT1 HB GE410) hb); have NB410_411 : Aside0 (gb410 ≠ gb411) := nL BK410 hg; have NB411_410 : Aside0 (gb411 ≠ gb410) := nG BK410 hg; replace BK410 := kB BK410 hb; clear hb hbox hg; have hnb16 := NB410_411.out; have hnc16 := NB411_410.out; obtain ⟨hcz17_0, hcz17_1, hfz17_0, hfz17_1⟩ := blk2 BK410.out; obtain ⟨hcz18_0, hcz18_1, hfz18_0, hfz18_1⟩ := blk2 BK411.out) | ((with_reducible refine gate_callee (f := 57) rfl ?_); refine goesT (some 9) Try.func57 #[.slice A0_0 l0_0.length c0_0, .slice A1_0 l1_0.length c1_0] ?_; (with_reducible refine (laws_eqRowS.calls k _ _ l0_0 _ _ l1_0 true _ ?side1 ?side2 ?side3 ?side4 A3.out).mono ?_); (case side1 => exact cT (Kd.C_below HR0_0.out HB.out)); (case side2 => exact HC0_0.out); (case side3 => exact cT (Kd.C_below HR1_0.out HB.out)); (case side4 => exact HC1_0.out); rintro e w19 ⟨rfl, hb⟩; refine ⟨_, rfl, ?_⟩; replace BK410 := kB BK410 hb; replace BK411 := kB BK411 hb; replace HB := mA (below_step (bT2 HB GE410 GE411) hb); (try clear hb); obtain ⟨hcz20_0, hcz20_1, hfz20_0, hfz20_1⟩ := blk2 BK410.out; obtain ⟨hcz21_0, hcz21_1, hfz21_0, hfz21_1⟩ := blk2 BK411.out))
   go_ret
   exact ⟨eT, bT2 HB GE410 GE411⟩
 ·
  replace c4 := Bool.eq_false_iff.mpr c4
  subst c4
  rw [if_neg (show ¬ (false = true) by decide)] at H
  obtain rfl := Option.some.inj H
  go_enter Try.func98, Try.ntmps98
  go_wp2_with (first | ((with_reducible refine gate_dst (N := 2) rfl ?_); refine boxT 2 #[.slice A0_0 l0_0.length c0_0, .int .i64 a0_1] 99 ?_; intro gb410 hg w22 hbox hb; have BK410 := mA (hbox); have GW410 := mA ((by rw [hg]; exact (below_size (bT HB)) : w.heap.size ≤ gb410)); have GE410 := GW410; replace HB := mA (below_step (bT HB) hb); clear hb hbox hg) | ((with_reducible refine gate_dst (N := 3) rfl ?_); refine boxT 3 #[.slice A1_0 l1_0.length c1_0, .int .i64 a1_1] 99 ?_; intro gb411 hg w23 hbox hb; have BK411 := mA (hbox); have GW411 := mA ((by rw [hg]; exact (below_size (bT1 HB GE410)) : w.heap.size ≤ gb411)); have GE411 := GW411; replace HB := mA (below_step (bT1 HB GE410) hb); have NB410_411 : Aside0 (gb410 ≠ gb411) := nL BK410 hg; have NB411_410 : Aside0 (gb411 ≠ gb410) := nG BK410 hg; replace BK410 := kB BK410 hb; clear hb hbox hg; have hnb24 := NB410_411.out; have hnc24 := NB411_410.out; obtain ⟨hcz25_0, hcz25_1, hfz25_0, hfz25_1⟩ := blk2 BK410.out; obtain ⟨hcz26_0, hcz26_1, hfz26_0, hfz26_1⟩ := blk2 BK411.out) | ((with_reducible refine gate_callee (f := 57) rfl ?_); refine goesT (some 9) Try.func57 #[.slice A0_0 l0_0.length c0_0, .slice A1_0 l1_0.length c1_0] ?_; (with_reducible refine (laws_eqRowS.calls k _ _ l0_0 _ _ l1_0 false _ ?side1 ?side2 ?side3 ?side4 A3.out).mono ?_); (case side1 => exact cT (Kd.C_below HR0_0.out HB.out)); (case side2 => exact HC0_0.out); (case side3 => exact cT (Kd.C_below HR1_0.out HB.out)); (case side4 => exact HC1_0.out); rintro e w27 ⟨rfl, hb⟩; refine ⟨_, rfl, ?_⟩; replace HB := mA (below_step (bT2 HB GE410 GE411) hb); (try clear hb)))
  go_ret
  exact ⟨eT, bT2 HB GE410 GE411⟩

/-! ### laws_eqGroupTaskS: function 63 -/
def laws_eqGroupTaskS.l0 : Nat → List (S99) → List (S99) → Int → Option (Bool)
 | 0, _, _, _ => none
 | k + 1, x0, x1, x5 => if x5 < (x0.length : Int) then (if 0 ≤ x5 then (if x5 < (x1.length : Int) then ((laws_eqGroupTask.f k ((rd_T99 x0 x5).f0) ((rd_T99 x0 x5).f1) ((rd_T99 x1 x5).f0) ((rd_T99 x1 x5).f1)).bind fun t415 => (if t415 = true then (laws_eqGroupTaskS.l0 k x0 x1 (wrap64 (x5 + 1))) else (some false))) else (none)) else (none)) else (some true)
def laws_eqGroupTaskS.f (k : Nat) (l0 : List (S99)) (l1 : List (S99)) : Option (Bool) := if (l0.length : Int) = (l1.length : Int) then (laws_eqGroupTaskS.l0 k l0 l1 0) else (some false)
theorem laws_eqGroupTaskS.mono_l : ∀ k, (∀ y0 y1 y2, LeO (laws_eqGroupTaskS.l0 k y0 y1 y2) (laws_eqGroupTaskS.l0 (k + 1) y0 y1 y2))
 | 0 => fun _ _ _ r h => by simp [laws_eqGroupTaskS.l0] at h
 | k + 1 => by
  have ih0 := laws_eqGroupTaskS.mono_l k
  ·
   intro y0 y1 y2
   unfold laws_eqGroupTaskS.l0
   repeat' first
   | (with_reducible exact ih0 _ _ _)
   | (with_reducible exact laws_eqGroupTask.mono _ _ _ _ _)
   | (with_reducible exact LeO.refl _)
   | (with_reducible exact LeO.none _)
   | (with_reducible refine LeO.ite ?_ ?_)
   | (with_reducible refine LeO.bind ?_ (fun _ => ?_))
   | exact ih0 _ _ _
   | exact laws_eqGroupTask.mono _ _ _ _ _
   | exact LeO.none _
   | refine LeO.ite ?_ ?_
   | refine LeO.bind ?_ (fun _ => ?_)
theorem laws_eqGroupTaskS.mono : ∀ a0 a1 k, LeO (laws_eqGroupTaskS.f k a0 a1) (laws_eqGroupTaskS.f (k + 1) a0 a1) := by
 intro a0 a1 k
 have ih0 := laws_eqGroupTaskS.mono_l k
 unfold laws_eqGroupTaskS.f
 repeat' first
   | (with_reducible exact ih0 _ _ _)
   | (with_reducible exact laws_eqGroupTask.mono _ _ _ _ _)
   | (with_reducible exact LeO.refl _)
   | (with_reducible exact LeO.none _)
   | (with_reducible refine LeO.ite ?_ ?_)
   | (with_reducible refine LeO.bind ?_ (fun _ => ?_))
   | exact ih0 _ _ _
   | exact laws_eqGroupTask.mono _ _ _ _ _
   | exact LeO.none _
   | refine LeO.ite ?_ ?_
   | refine LeO.bind ?_ (fun _ => ?_)
def laws_eqGroupTaskS.T6 : Bool × List (List Nat × List Nat) := (true, [([], []), ([], []), ([0, 1], [0, 1]), ([2], [2]), ([], []), ([], []), ([4, 5], [4, 5]), ([6], [6]), ([3, 7], [3, 7]), ([8], [8])])
def laws_eqGroupTaskS.B6 : List Nat := [0, 0, 3, 7, 0, 0, 48, 112, 255, 511]
theorem laws_eqGroupTaskS.tab6 : rtab .any (opsOf Try.f63 6) = laws_eqGroupTaskS.T6 := by kernel_rfl
theorem laws_eqGroupTaskS.bits6 : waitsOk laws_eqGroupTaskS.T6.2 laws_eqGroupTaskS.B6 = true := by kernel_rfl
set_option maxHeartbeats 8000000 in
set_option maxRecDepth 100000 in
theorem laws_eqGroupTaskS.calls (k : Nat) (A0 : Option Addr) (c0 : Nat) (l0 : List (S99)) (A1 : Option Addr) (c1 : Nat) (l1 : List (S99)) (r : Bool) (w : World) (hr0 : Kd.C k99 w A0 l0.length l0) (hc0 : l0.length ≤ c0) (hr1 : Kd.C k99 w A1 l1.length l1) (hc1 : l1.length ≤ c1) (h : laws_eqGroupTaskS.f k l0 l1 = some r) :
  Calls Try.prog 63 #[.slice A0 l0.length c0, .slice A1 l1.length c1] w fun e w' => e = .returned (.bool r) ∧ Below w.heap.size w w' := by
 have hu99 := Try.underlying99
 have HR0 := mA hr0
 have HC0 := mA hc0
 clear hr0 hc0
 have HR1 := mA hr1
 have HC1 := mA hc1
 clear hr1 hc1
 have HB := mA (Below.refl w.heap.size w)
 have H : (if (l0.length : Int) = (l1.length : Int) then (laws_eqGroupTaskS.l0 k l0 l1 0) else (some false)) = some r := h
 clear h
 by_cases c3 : (l0.length : Int) = (l1.length : Int)
 ·
  rw [if_pos c3] at H
  have c3b0 : ((l0.length : Int) == (l1.length : Int)) = true := beq_iff_eq.mpr c3
  have c3b1 : ((l0.length : Int) != (l1.length : Int)) = false := bne_eq_false_iff_eq.mpr c3
  have c3b2 : (l0.length == l1.length) = true := by first | simpa using c3 | (simp at c3 ⊢; omega)
  clear c3
  have H' := mA H
  clear H
  go_enter Try.func63, Try.ntmps63
  go_wp2
  go_loopg [5] k (fun kq v5 w' => ∃ (x5_1 : Int), v5 = .int .i64 x5_1 ∧ Aside0 (laws_eqGroupTaskS.l0 kq l0 l1 x5_1 = some r) ∧ Aside0 (kq ≤ k) ∧ Aside0 (Below w.heap.size w w'))
  case atStart => exact ⟨(0), sT, H', ⟨Nat.le_refl _⟩, ⟨bT HB⟩⟩
  case round =>
   clear H'
   try clear c1
   try clear p2
   try clear c3
   try clear c3b0
   try clear c3b1
   try clear c3b2
   obtain ⟨x5_1, rfl, HA, HK1, HB⟩ := hrel
   cases gk with
   | zero => exact absurd HA.out (by simp [laws_eqGroupTaskS.l0])
   | succ k1 =>
    have H := HA.out
    clear HA
    simp only [laws_eqGroupTaskS.l0] at H
    by_cases c4 : x5_1 < (l0.length : Int)
    ·
     rw [if_pos c4] at H
     have c4b0 : decide (x5_1 < (l0.length : Int)) = true := decide_eq_true c4
     clear c4
     by_cases c5 : 0 ≤ x5_1
     ·
      rw [if_pos c5] at H
      have c5b0 : decide (0 ≤ x5_1) = true := decide_eq_true c5
      clear c5
      by_cases c6 : x5_1 < (l1.length : Int)
      ·
       rw [if_pos c6] at H
       have c6b0 : decide (x5_1 < (l1.length : Int)) = true := decide_eq_true c6
       clear c6
       obtain ⟨t415, A7, H⟩ := Option.bind_eq_some_iff.mp H
       replace A7 := mA A7
       try dsimp only at H
       by_cases c8 : t415 = true
       ·
        subst c8
        rw [if_pos rfl] at H
        have H' := mA H
        clear H
        try go_wp2
        replace HB := mA (below_drew1 HB.out)
        have p413 : 0 ≤ (x5_1 : Int) := of_decide_eq_true aT
        have q413 : x5_1 < (l0.length : Int) := of_decide_eq_true aT
        obtain ⟨ad413, A413_0, c413_0, e413, hx413_0, hx413_1, hl413_0, hi413_0⟩ := at_T99 HR0.out x5_1 p413 q413
        have hw413_1 := hx413_1
        have hw413_0 := hx413_0
        cases e413
        replace hx413_0 := (HB.out.cell (World.block_lt_of_cell? w _ hx413_0)).trans hx413_0
        replace hx413_1 := (HB.out.cell (World.block_lt_of_cell? w _ hx413_1)).trans hx413_1
        have HR413_0 := mA hi413_0
        have HC413_0 := mA hl413_0
        clear hi413_0 hl413_0
        replace p413 := eq_true p413
        replace q413 := eq_true q413
        have p414 : 0 ≤ (x5_1 : Int) := of_decide_eq_true aT
        have q414 : x5_1 < (l1.length : Int) := of_decide_eq_true aT
        obtain ⟨ad414, A414_0, c414_0, e414, hx414_0, hx414_1, hl414_0, hi414_0⟩ := at_T99 HR1.out x5_1 p414 q414
        have hw414_1 := hx414_1
        have hw414_0 := hx414_0
        cases e414
        replace hx414_0 := (HB.out.cell (World.block_lt_of_cell? w _ hx414_0)).trans hx414_0
        replace hx414_1 := (HB.out.cell (World.block_lt_of_cell? w _ hx414_1)).trans hx414_1
        have HR414_0 := mA hi414_0
        have HC414_0 := mA hl414_0
        clear hi414_0 hl414_0
        replace p414 := eq_true p414
        replace q414 := eq_true q414
        refine start_ (n := 10) (S := fun w' => w'.cell? (ad413.add ((x5_1).toNat * 2)) = some (.slice A413_0 ((rd_T99 l0 x5_1).f0).length c413_0) ∧ w'.cell? ⟨(ad413.add ((x5_1).toNat * 2)).block, (ad413.add ((x5_1).toNat * 2)).off + 1, none⟩ = some (.int .i64 ((rd_T99 l0 x5_1).f1)) ∧ w'.cell? (ad414.add ((x5_1).toNat * 2)) = some (.slice A414_0 ((rd_T99 l1 x5_1).f0).length c414_0) ∧ w'.cell? ⟨(ad414.add ((x5_1).toNat * 2)).block, (ad414.add ((x5_1).toNat * 2)).off + 1, none⟩ = some (.int .i64 ((rd_T99 l1 x5_1).f1))) (ds := []) #[false, false, false, false, false, false, false, false, false, false] (by kernel_rfl) rfl rfl ⟨((HB.out.cell (World.block_lt_of_cell? w _ hw413_0)).trans hw413_0), ((HB.out.cell (World.block_lt_of_cell? w _ hw413_1)).trans hw413_1), ((HB.out.cell (World.block_lt_of_cell? w _ hw414_0)).trans hw414_0), ((HB.out.cell (World.block_lt_of_cell? w _ hw414_1)).trans hw414_1)⟩ (fun hHeld => ?_); refine with_tabW laws_eqGroupTaskS.tab6 laws_eqGroupTaskS.bits6 (fun HT_ HW_ => ?_)
        generalize wr.drew = w9 at HB HR413_0 HR414_0 hx413_0 hx413_1 hx414_0 hx414_1 hHeld ⊢
        refine pureT (i := 0) (N := some 17) #[true, false, false, false, false, false, false, false, false, false] (any_of HT_.out (by kernel_rfl)) ?_
        refine pureT (i := 1) (N := some 18) #[true, true, false, false, false, false, false, false, false, false] (any_of HT_.out (by kernel_rfl)) ?_
        refine pureT (i := 2) (N := some 19) #[true, true, true, false, false, false, false, false, false, false] (any_of HT_.out (by kernel_rfl)) ?_
        refine pureT (i := 4) (N := some 21) #[true, true, true, false, true, false, false, false, false, false] (any_of HT_.out (by kernel_rfl)) ?_
        refine pureT (i := 5) (N := some 22) #[true, true, true, false, true, true, false, false, false, false] (any_of HT_.out (by kernel_rfl)) ?_
        refine pureT (i := 6) (N := some 23) #[true, true, true, false, true, true, true, false, false, false] (any_of HT_.out (by kernel_rfl)) ?_
        refine take_ (i := 3) (N := some 20) (v := ?_) (a' := ?_) #[true, true, true, true, true, true, true, false, false, false] rfl rfl (take_ofW HT_.out HW_.out (by kernel_rfl)) (fun _ _ _ h => h) (Or.inl ⟨by rfl, ?_⟩) hHeld ?_ ?_
        rotate_left
        ·
         rintro w' ⟨s0, s1, s2, s3⟩
         go_simp
         with_reducible rfl
        rotate_left
        ·
         simp only [Act.put, List.setIfInBounds_toArray, List.set_cons_zero, List.set_cons_succ, i64_w, i32_w]
         rfl
        refine take_ (i := 7) (N := some 24) (v := ?_) (a' := ?_) #[true, true, true, true, true, true, true, true, false, false] rfl rfl (take_ofW HT_.out HW_.out (by kernel_rfl)) (fun _ _ _ h => h) (Or.inl ⟨by rfl, ?_⟩) hHeld ?_ ?_
        rotate_left
        ·
         rintro w' ⟨s0, s1, s2, s3⟩
         go_simp
         with_reducible rfl
        rotate_left
        ·
         simp only [Act.put, List.setIfInBounds_toArray, List.set_cons_zero, List.set_cons_succ, i64_w, i32_w]
         rfl
        refine one_ (i := 8) (N := some 25) #[true, true, true, true, true, true, true, true, true, false] rfl rfl (one_of HT_.out (by kernel_rfl)) (by decide) (fun K hK => ?_)
        refine goes_ Try.func98 (by kernel_rfl) rfl #[.agg #[.slice A413_0 ((rd_T99 l0 x5_1).f0).length c413_0, .int .i64 ((rd_T99 l0 x5_1).f1)], .agg #[.slice A414_0 ((rd_T99 l1 x5_1).f0).length c414_0, .int .i64 ((rd_T99 l1 x5_1).f1)]] (by rfl) rfl rfl mT ?_
        with_reducible refine (laws_eqGroupTask.calls k1 _ _ ((rd_T99 l0 x5_1).f0) ((rd_T99 l0 x5_1).f1) _ _ ((rd_T99 l1 x5_1).f0) ((rd_T99 l1 x5_1).f1) true _ ?side1 ?side2 ?side3 ?side4 A7.out).mono ?_
        (case side1 => exact cT (Kd.C_below HR413_0.out HB.out))
        (case side2 => exact HC413_0.out)
        (case side3 => exact cT (Kd.C_below HR414_0.out HB.out))
        (case side4 => exact HC414_0.out)
        rintro e w10 ⟨rfl, hb⟩
        refine ⟨_, rfl, ?_⟩
        replace HB := mA (below_step (bT HB) hb)
        (try clear hb)
        (try clear hb2)
        (try clear hk)
        (try clear hi)
        refine hK.out _ _ ⟨((HB.out.cell (World.block_lt_of_cell? w _ hw413_0)).trans hw413_0), ((HB.out.cell (World.block_lt_of_cell? w _ hw413_1)).trans hw413_1), ((HB.out.cell (World.block_lt_of_cell? w _ hw414_0)).trans hw414_0), ((HB.out.cell (World.block_lt_of_cell? w _ hw414_1)).trans hw414_1)⟩ (fun hHeld => ?_)
        clear hK K
        refine norm_ (a' := ?_) ?_ ?_
        rotate_left
        ·
         show Act.put _ (some 25) _ = _
         simp only [Act.put, List.setIfInBounds_toArray, List.set_cons_zero, List.set_cons_succ, i64_w, i32_w]
         rfl
        refine pureT (i := 9) (N := some 26) #[true, true, true, true, true, true, true, true, true, true] (any_of HT_.out (by kernel_rfl)) ?_
        refine done_ (done_of HT_.out (by kernel_rfl)) ?_
        try go_wp2
        go_roundg k1
        case measure => have := HK1.out; omega
        case rel => exact ⟨(wrap64 (x5_1 + 1)), sT, H', ⟨by have := HK1.out; omega⟩, ⟨bT HB⟩⟩
       ·
        replace c8 := Bool.eq_false_iff.mpr c8
        subst c8
        rw [if_neg (show ¬ (false = true) by decide)] at H
        obtain rfl := Option.some.inj H
        try go_wp2
        replace HB := mA (below_drew1 HB.out)
        have p413 : 0 ≤ (x5_1 : Int) := of_decide_eq_true aT
        have q413 : x5_1 < (l0.length : Int) := of_decide_eq_true aT
        obtain ⟨ad413, A413_0, c413_0, e413, hx413_0, hx413_1, hl413_0, hi413_0⟩ := at_T99 HR0.out x5_1 p413 q413
        have hw413_1 := hx413_1
        have hw413_0 := hx413_0
        cases e413
        replace hx413_0 := (HB.out.cell (World.block_lt_of_cell? w _ hx413_0)).trans hx413_0
        replace hx413_1 := (HB.out.cell (World.block_lt_of_cell? w _ hx413_1)).trans hx413_1
        have HR413_0 := mA hi413_0
        have HC413_0 := mA hl413_0
        clear hi413_0 hl413_0
        replace p413 := eq_true p413
        replace q413 := eq_true q413
        have p414 : 0 ≤ (x5_1 : Int) := of_decide_eq_true aT
        have q414 : x5_1 < (l1.length : Int) := of_decide_eq_true aT
        obtain ⟨ad414, A414_0, c414_0, e414, hx414_0, hx414_1, hl414_0, hi414_0⟩ := at_T99 HR1.out x5_1 p414 q414
        have hw414_1 := hx414_1
        have hw414_0 := hx414_0
        cases e414
        replace hx414_0 := (HB.out.cell (World.block_lt_of_cell? w _ hx414_0)).trans hx414_0
        replace hx414_1 := (HB.out.cell (World.block_lt_of_cell? w _ hx414_1)).trans hx414_1
        have HR414_0 := mA hi414_0
        have HC414_0 := mA hl414_0
        clear hi414_0 hl414_0
        replace p414 := eq_true p414
        replace q414 := eq_true q414
        refine start_ (n := 10) (S := fun w' => w'.cell? (ad413.add ((x5_1).toNat * 2)) = some (.slice A413_0 ((rd_T99 l0 x5_1).f0).length c413_0) ∧ w'.cell? ⟨(ad413.add ((x5_1).toNat * 2)).block, (ad413.add ((x5_1).toNat * 2)).off + 1, none⟩ = some (.int .i64 ((rd_T99 l0 x5_1).f1)) ∧ w'.cell? (ad414.add ((x5_1).toNat * 2)) = some (.slice A414_0 ((rd_T99 l1 x5_1).f0).length c414_0) ∧ w'.cell? ⟨(ad414.add ((x5_1).toNat * 2)).block, (ad414.add ((x5_1).toNat * 2)).off + 1, none⟩ = some (.int .i64 ((rd_T99 l1 x5_1).f1))) (ds := []) #[false, false, false, false, false, false, false, false, false, false] (by kernel_rfl) rfl rfl ⟨((HB.out.cell (World.block_lt_of_cell? w _ hw413_0)).trans hw413_0), ((HB.out.cell (World.block_lt_of_cell? w _ hw413_1)).trans hw413_1), ((HB.out.cell (World.block_lt_of_cell? w _ hw414_0)).trans hw414_0), ((HB.out.cell (World.block_lt_of_cell? w _ hw414_1)).trans hw414_1)⟩ (fun hHeld => ?_); refine with_tabW laws_eqGroupTaskS.tab6 laws_eqGroupTaskS.bits6 (fun HT_ HW_ => ?_)
        generalize wr.drew = w11 at HB HR413_0 HR414_0 hx413_0 hx413_1 hx414_0 hx414_1 hHeld ⊢
        refine pureT (i := 0) (N := some 17) #[true, false, false, false, false, false, false, false, false, false] (any_of HT_.out (by kernel_rfl)) ?_
        refine pureT (i := 1) (N := some 18) #[true, true, false, false, false, false, false, false, false, false] (any_of HT_.out (by kernel_rfl)) ?_
        refine pureT (i := 2) (N := some 19) #[true, true, true, false, false, false, false, false, false, false] (any_of HT_.out (by kernel_rfl)) ?_
        refine pureT (i := 4) (N := some 21) #[true, true, true, false, true, false, false, false, false, false] (any_of HT_.out (by kernel_rfl)) ?_
        refine pureT (i := 5) (N := some 22) #[true, true, true, false, true, true, false, false, false, false] (any_of HT_.out (by kernel_rfl)) ?_
        refine pureT (i := 6) (N := some 23) #[true, true, true, false, true, true, true, false, false, false] (any_of HT_.out (by kernel_rfl)) ?_
        refine take_ (i := 3) (N := some 20) (v := ?_) (a' := ?_) #[true, true, true, true, true, true, true, false, false, false] rfl rfl (take_ofW HT_.out HW_.out (by kernel_rfl)) (fun _ _ _ h => h) (Or.inl ⟨by rfl, ?_⟩) hHeld ?_ ?_
        rotate_left
        ·
         rintro w' ⟨s0, s1, s2, s3⟩
         go_simp
         with_reducible rfl
        rotate_left
        ·
         simp only [Act.put, List.setIfInBounds_toArray, List.set_cons_zero, List.set_cons_succ, i64_w, i32_w]
         rfl
        refine take_ (i := 7) (N := some 24) (v := ?_) (a' := ?_) #[true, true, true, true, true, true, true, true, false, false] rfl rfl (take_ofW HT_.out HW_.out (by kernel_rfl)) (fun _ _ _ h => h) (Or.inl ⟨by rfl, ?_⟩) hHeld ?_ ?_
        rotate_left
        ·
         rintro w' ⟨s0, s1, s2, s3⟩
         go_simp
         with_reducible rfl
        rotate_left
        ·
         simp only [Act.put, List.setIfInBounds_toArray, List.set_cons_zero, List.set_cons_succ, i64_w, i32_w]
         rfl
        refine one_ (i := 8) (N := some 25) #[true, true, true, true, true, true, true, true, true, false] rfl rfl (one_of HT_.out (by kernel_rfl)) (by decide) (fun K hK => ?_)
        refine goes_ Try.func98 (by kernel_rfl) rfl #[.agg #[.slice A413_0 ((rd_T99 l0 x5_1).f0).length c413_0, .int .i64 ((rd_T99 l0 x5_1).f1)], .agg #[.slice A414_0 ((rd_T99 l1 x5_1).f0).length c414_0, .int .i64 ((rd_T99 l1 x5_1).f1)]] (by rfl) rfl rfl mT ?_
        with_reducible refine (laws_eqGroupTask.calls k1 _ _ ((rd_T99 l0 x5_1).f0) ((rd_T99 l0 x5_1).f1) _ _ ((rd_T99 l1 x5_1).f0) ((rd_T99 l1 x5_1).f1) false _ ?side1 ?side2 ?side3 ?side4 A7.out).mono ?_
        (case side1 => exact cT (Kd.C_below HR413_0.out HB.out))
        (case side2 => exact HC413_0.out)
        (case side3 => exact cT (Kd.C_below HR414_0.out HB.out))
        (case side4 => exact HC414_0.out)
        rintro e w12 ⟨rfl, hb⟩
        refine ⟨_, rfl, ?_⟩
        replace HB := mA (below_step (bT HB) hb)
        (try clear hb)
        (try clear hb2)
        (try clear hk)
        (try clear hi)
        refine hK.out _ _ ⟨((HB.out.cell (World.block_lt_of_cell? w _ hw413_0)).trans hw413_0), ((HB.out.cell (World.block_lt_of_cell? w _ hw413_1)).trans hw413_1), ((HB.out.cell (World.block_lt_of_cell? w _ hw414_0)).trans hw414_0), ((HB.out.cell (World.block_lt_of_cell? w _ hw414_1)).trans hw414_1)⟩ (fun hHeld => ?_)
        clear hK K
        refine norm_ (a' := ?_) ?_ ?_
        rotate_left
        ·
         show Act.put _ (some 25) _ = _
         simp only [Act.put, List.setIfInBounds_toArray, List.set_cons_zero, List.set_cons_succ, i64_w, i32_w]
         rfl
        refine pureT (i := 9) (N := some 26) #[true, true, true, true, true, true, true, true, true, true] (any_of HT_.out (by kernel_rfl)) ?_
        refine done_ (done_of HT_.out (by kernel_rfl)) ?_
        try go_wp2
        go_ret
        exact ⟨eT, bT HB⟩
      ·
       rw [if_neg c6] at H
       exact absurd H (by simp)
     ·
      rw [if_neg c5] at H
      exact absurd H (by simp)
    ·
     rw [if_neg c4] at H
     have c4b0 : decide (x5_1 < (l0.length : Int)) = false := decide_eq_false c4
     clear c4
     obtain rfl := Option.some.inj H
     go_wp2
     go_ret
     exact ⟨eT, bT HB⟩
 ·
  rw [if_neg c3] at H
  have c3b0 : ((l0.length : Int) == (l1.length : Int)) = false := beq_eq_false_iff_ne.mpr c3
  have c3b1 : ((l0.length : Int) != (l1.length : Int)) = true := bne_iff_ne.mpr c3
  have c3b2 : (l0.length == l1.length) = false := by first | simpa using c3 | (simp at c3 ⊢; omega)
  obtain rfl := Option.some.inj H
  go_enter Try.func63, Try.ntmps63
  go_wp2
  go_ret
  exact ⟨eT, bT HB⟩

/-! ### laws_eqAggregator: function 24 -/
def laws_eqAggregator.f (k : Nat) (l0_0 : List (S99)) (a0_1 : Int) (a0_2 : Bool) (l1_0 : List (S99)) (a1_1 : Int) (a1_2 : Bool) : Option (Bool) := (laws_eqGroupTaskS.f k l0_0 l1_0).bind fun t418 => (if t418 = true then (if a0_1 = a1_1 then (if (a0_2 != a1_2) = true then (some false) else (some true)) else (some false)) else (some false))
theorem laws_eqAggregator.mono : ∀ a0 a1 a2 a3 a4 a5 k, LeO (laws_eqAggregator.f k a0 a1 a2 a3 a4 a5) (laws_eqAggregator.f (k + 1) a0 a1 a2 a3 a4 a5) := by
 intro a0 a1 a2 a3 a4 a5 k
 unfold laws_eqAggregator.f
 repeat' first
   | (with_reducible exact laws_eqGroupTaskS.mono _ _ _)
   | (with_reducible exact LeO.refl _)
   | (with_reducible exact LeO.none _)
   | (with_reducible refine LeO.ite ?_ ?_)
   | (with_reducible refine LeO.bind ?_ (fun _ => ?_))
   | exact laws_eqGroupTaskS.mono _ _ _
   | exact LeO.none _
   | refine LeO.ite ?_ ?_
   | refine LeO.bind ?_ (fun _ => ?_)
set_option maxHeartbeats 8000000 in
set_option maxRecDepth 100000 in
theorem laws_eqAggregator.calls (k : Nat) (A0_0 : Option Addr) (c0_0 : Nat) (l0_0 : List (S99)) (a0_1 : Int) (a0_2 : Bool) (A1_0 : Option Addr) (c1_0 : Nat) (l1_0 : List (S99)) (a1_1 : Int) (a1_2 : Bool) (r : Bool) (w : World) (hr0_0 : Kd.C k99 w A0_0 l0_0.length l0_0) (hc0_0 : l0_0.length ≤ c0_0) (hr1_0 : Kd.C k99 w A1_0 l1_0.length l1_0) (hc1_0 : l1_0.length ≤ c1_0) (h : laws_eqAggregator.f k l0_0 a0_1 a0_2 l1_0 a1_1 a1_2 = some r) :
  Calls Try.prog 24 #[.agg #[.slice A0_0 l0_0.length c0_0, .int .i64 a0_1, .bool a0_2], .agg #[.slice A1_0 l1_0.length c1_0, .int .i64 a1_1, .bool a1_2]] w fun e w' => e = .returned (.bool r) ∧ Below w.heap.size w w' := by
 have hu48 := Try.underlying48
 have HR0_0 := mA hr0_0
 have HC0_0 := mA hc0_0
 clear hr0_0 hc0_0
 have HR1_0 := mA hr1_0
 have HC1_0 := mA hc1_0
 clear hr1_0 hc1_0
 have HB := mA (Below.refl w.heap.size w)
 have H : ((laws_eqGroupTaskS.f k l0_0 l1_0).bind fun t418 => (if t418 = true then (if a0_1 = a1_1 then (if (a0_2 != a1_2) = true then (some false) else (some true)) else (some false)) else (some false))) = some r := h
 clear h
 obtain ⟨t418, A3, H⟩ := Option.bind_eq_some_iff.mp H
 replace A3 := mA A3
 try dsimp only at H
 by_cases c4 : t418 = true
 ·
  subst c4
  rw [if_pos rfl] at H
  by_cases c5 : a0_1 = a1_1
  ·
   rw [if_pos c5] at H
   have c5b0 : (a0_1 == a1_1) = true := beq_iff_eq.mpr c5
   have c5b1 : (a0_1 != a1_1) = false := bne_eq_false_iff_eq.mpr c5
   clear c5
   by_cases c6 : (a0_2 != a1_2) = true
   ·
    rw [if_pos c6] at H
    have c6b0 : (a0_2 != a1_2) = true := c6
    (try (have c6b1 : decide (a0_2 = a1_2) = false := by simpa using c6))
    (try (have c6b2 : (a0_2 == a1_2) = false := by simpa using c6))
    (try (have c6b3 : ¬ (a0_2 = a1_2) := by simpa using c6))
    clear c6
    obtain rfl := Option.some.inj H
    go_enter Try.func24, Try.ntmps24
    go_wp2_with (first | ((with_reducible refine gate_dst (N := 2) rfl ?_); refine boxT 2 #[.slice A0_0 l0_0.length c0_0, .int .i64 a0_1, .bool a0_2] 48 ?_; intro gb416 hg w7 hbox hb; have BK416 := mA (hbox); have GW416 := mA ((by rw [hg]; exact (below_size (bT HB)) : w.heap.size ≤ gb416)); have GE416 := GW416; replace HB := mA (below_step (bT HB) hb); clear hb hbox hg) | ((with_reducible refine gate_dst (N := 3) rfl ?_); refine boxT 3 #[.slice A1_0 l1_0.length c1_0, .int .i64 a1_1, .bool a1_2] 48 ?_; intro gb417 hg w8 hbox hb; have BK417 := mA (hbox); have GW417 := mA ((by rw [hg]; exact (below_size (bT1 HB GE416)) : w.heap.size ≤ gb417)); have GE417 := GW417; replace HB := mA (below_step (bT1 HB GE416) hb); have NB416_417 : Aside0 (gb416 ≠ gb417) := nL BK416 hg; have NB417_416 : Aside0 (gb417 ≠ gb416) := nG BK416 hg; replace BK416 := kB BK416 hb; clear hb hbox hg; have hnb9 := NB416_417.out; have hnc9 := NB417_416.out; obtain ⟨hcz10_0, hcz10_1, hcz10_2, hfz10_0, hfz10_1, hfz10_2⟩ := blk3 BK416.out; obtain ⟨hcz11_0, hcz11_1, hcz11_2, hfz11_0, hfz11_1, hfz11_2⟩ := blk3 BK417.out) | ((with_reducible refine gate_callee (f := 63) rfl ?_); refine goesT (some 9) Try.func63 #[.slice A0_0 l0_0.length c0_0, .slice A1_0 l1_0.length c1_0] ?_; (with_reducible refine (laws_eqGroupTaskS.calls k _ _ l0_0 _ _ l1_0 true _ ?side1 ?side2 ?side3 ?side4 A3.out).mono ?_); (case side1 => exact cT (Kd.C_below HR0_0.out HB.out)); (case side2 => exact HC0_0.out); (case side3 => exact cT (Kd.C_below HR1_0.out HB.out)); (case side4 => exact HC1_0.out); rintro e w12 ⟨rfl, hb⟩; refine ⟨_, rfl, ?_⟩; replace BK416 := kB BK416 hb; replace BK417 := kB BK417 hb; replace HB := mA (below_step (bT2 HB GE416 GE417) hb); (try clear hb); obtain ⟨hcz13_0, hcz13_1, hcz13_2, hfz13_0, hfz13_1, hfz13_2⟩ := blk3 BK416.out; obtain ⟨hcz14_0, hcz14_1, hcz14_2, hfz14_0, hfz14_1, hfz14_2⟩ := blk3 BK417.out))
    go_ret
    exact ⟨eT, bT2 HB GE416 GE417⟩
   ·
    rw [if_neg c6] at H
    have c6b0 : (a0_2 != a1_2) = false := by simpa using c6
    (try (have c6b1 : decide (a0_2 = a1_2) = true := by simpa using c6))
    (try (have c6b2 : (a0_2 == a1_2) = true := by simpa using c6))
    clear c6
    obtain rfl := Option.some.inj H
    go_enter Try.func24, Try.ntmps24
    go_wp2_with (first | ((with_reducible refine gate_dst (N := 2) rfl ?_); refine boxT 2 #[.slice A0_0 l0_0.length c0_0, .int .i64 a0_1, .bool a0_2] 48 ?_; intro gb416 hg w15 hbox hb; have BK416 := mA (hbox); have GW416 := mA ((by rw [hg]; exact (below_size (bT HB)) : w.heap.size ≤ gb416)); have GE416 := GW416; replace HB := mA (below_step (bT HB) hb); clear hb hbox hg) | ((with_reducible refine gate_dst (N := 3) rfl ?_); refine boxT 3 #[.slice A1_0 l1_0.length c1_0, .int .i64 a1_1, .bool a1_2] 48 ?_; intro gb417 hg w16 hbox hb; have BK417 := mA (hbox); have GW417 := mA ((by rw [hg]; exact (below_size (bT1 HB GE416)) : w.heap.size ≤ gb417)); have GE417 := GW417; replace HB := mA (below_step (bT1 HB GE416) hb); have NB416_417 : Aside0 (gb416 ≠ gb417) := nL BK416 hg; have NB417_416 : Aside0 (gb417 ≠ gb416) := nG BK416 hg; replace BK416 := kB BK416 hb; clear hb hbox hg; have hnb17 := NB416_417.out; have hnc17 := NB417_416.out; obtain ⟨hcz18_0, hcz18_1, hcz18_2, hfz18_0, hfz18_1, hfz18_2⟩ := blk3 BK416.out; obtain ⟨hcz19_0, hcz19_1, hcz19_2, hfz19_0, hfz19_1, hfz19_2⟩ := blk3 BK417.out) | ((with_reducible refine gate_callee (f := 63) rfl ?_); refine goesT (some 9) Try.func63 #[.slice A0_0 l0_0.length c0_0, .slice A1_0 l1_0.length c1_0] ?_; (with_reducible refine (laws_eqGroupTaskS.calls k _ _ l0_0 _ _ l1_0 true _ ?side1 ?side2 ?side3 ?side4 A3.out).mono ?_); (case side1 => exact cT (Kd.C_below HR0_0.out HB.out)); (case side2 => exact HC0_0.out); (case side3 => exact cT (Kd.C_below HR1_0.out HB.out)); (case side4 => exact HC1_0.out); rintro e w20 ⟨rfl, hb⟩; refine ⟨_, rfl, ?_⟩; replace BK416 := kB BK416 hb; replace BK417 := kB BK417 hb; replace HB := mA (below_step (bT2 HB GE416 GE417) hb); (try clear hb); obtain ⟨hcz21_0, hcz21_1, hcz21_2, hfz21_0, hfz21_1, hfz21_2⟩ := blk3 BK416.out; obtain ⟨hcz22_0, hcz22_1, hcz22_2, hfz22_0, hfz22_1, hfz22_2⟩ := blk3 BK417.out))
    go_ret
    exact ⟨eT, bT2 HB GE416 GE417⟩
  ·
   rw [if_neg c5] at H
   have c5b0 : (a0_1 == a1_1) = false := beq_eq_false_iff_ne.mpr c5
   have c5b1 : (a0_1 != a1_1) = true := bne_iff_ne.mpr c5
   obtain rfl := Option.some.inj H
   go_enter Try.func24, Try.ntmps24
   go_wp2_with (first | ((with_reducible refine gate_dst (N := 2) rfl ?_); refine boxT 2 #[.slice A0_0 l0_0.length c0_0, .int .i64 a0_1, .bool a0_2] 48 ?_; intro gb416 hg w23 hbox hb; have BK416 := mA (hbox); have GW416 := mA ((by rw [hg]; exact (below_size (bT HB)) : w.heap.size ≤ gb416)); have GE416 := GW416; replace HB := mA (below_step (bT HB) hb); clear hb hbox hg) | ((with_reducible refine gate_dst (N := 3) rfl ?_); refine boxT 3 #[.slice A1_0 l1_0.length c1_0, .int .i64 a1_1, .bool a1_2] 48 ?_; intro gb417 hg w24 hbox hb; have BK417 := mA (hbox); have GW417 := mA ((by rw [hg]; exact (below_size (bT1 HB GE416)) : w.heap.size ≤ gb417)); have GE417 := GW417; replace HB := mA (below_step (bT1 HB GE416) hb); have NB416_417 : Aside0 (gb416 ≠ gb417) := nL BK416 hg; have NB417_416 : Aside0 (gb417 ≠ gb416) := nG BK416 hg; replace BK416 := kB BK416 hb; clear hb hbox hg; have hnb25 := NB416_417.out; have hnc25 := NB417_416.out; obtain ⟨hcz26_0, hcz26_1, hcz26_2, hfz26_0, hfz26_1, hfz26_2⟩ := blk3 BK416.out; obtain ⟨hcz27_0, hcz27_1, hcz27_2, hfz27_0, hfz27_1, hfz27_2⟩ := blk3 BK417.out) | ((with_reducible refine gate_callee (f := 63) rfl ?_); refine goesT (some 9) Try.func63 #[.slice A0_0 l0_0.length c0_0, .slice A1_0 l1_0.length c1_0] ?_; (with_reducible refine (laws_eqGroupTaskS.calls k _ _ l0_0 _ _ l1_0 true _ ?side1 ?side2 ?side3 ?side4 A3.out).mono ?_); (case side1 => exact cT (Kd.C_below HR0_0.out HB.out)); (case side2 => exact HC0_0.out); (case side3 => exact cT (Kd.C_below HR1_0.out HB.out)); (case side4 => exact HC1_0.out); rintro e w28 ⟨rfl, hb⟩; refine ⟨_, rfl, ?_⟩; replace BK416 := kB BK416 hb; replace BK417 := kB BK417 hb; replace HB := mA (below_step (bT2 HB GE416 GE417) hb); (try clear hb); obtain ⟨hcz29_0, hcz29_1, hcz29_2, hfz29_0, hfz29_1, hfz29_2⟩ := blk3 BK416.out; obtain ⟨hcz30_0, hcz30_1, hcz30_2, hfz30_0, hfz30_1, hfz30_2⟩ := blk3 BK417.out))
   go_ret
   exact ⟨eT, bT2 HB GE416 GE417⟩
 ·
  replace c4 := Bool.eq_false_iff.mpr c4
  subst c4
  rw [if_neg (show ¬ (false = true) by decide)] at H
  obtain rfl := Option.some.inj H
  go_enter Try.func24, Try.ntmps24
  go_wp2_with (first | ((with_reducible refine gate_dst (N := 2) rfl ?_); refine boxT 2 #[.slice A0_0 l0_0.length c0_0, .int .i64 a0_1, .bool a0_2] 48 ?_; intro gb416 hg w31 hbox hb; have BK416 := mA (hbox); have GW416 := mA ((by rw [hg]; exact (below_size (bT HB)) : w.heap.size ≤ gb416)); have GE416 := GW416; replace HB := mA (below_step (bT HB) hb); clear hb hbox hg) | ((with_reducible refine gate_dst (N := 3) rfl ?_); refine boxT 3 #[.slice A1_0 l1_0.length c1_0, .int .i64 a1_1, .bool a1_2] 48 ?_; intro gb417 hg w32 hbox hb; have BK417 := mA (hbox); have GW417 := mA ((by rw [hg]; exact (below_size (bT1 HB GE416)) : w.heap.size ≤ gb417)); have GE417 := GW417; replace HB := mA (below_step (bT1 HB GE416) hb); have NB416_417 : Aside0 (gb416 ≠ gb417) := nL BK416 hg; have NB417_416 : Aside0 (gb417 ≠ gb416) := nG BK416 hg; replace BK416 := kB BK416 hb; clear hb hbox hg; have hnb33 := NB416_417.out; have hnc33 := NB417_416.out; obtain ⟨hcz34_0, hcz34_1, hcz34_2, hfz34_0, hfz34_1, hfz34_2⟩ := blk3 BK416.out; obtain ⟨hcz35_0, hcz35_1, hcz35_2, hfz35_0, hfz35_1, hfz35_2⟩ := blk3 BK417.out) | ((with_reducible refine gate_callee (f := 63) rfl ?_); refine goesT (some 9) Try.func63 #[.slice A0_0 l0_0.length c0_0, .slice A1_0 l1_0.length c1_0] ?_; (with_reducible refine (laws_eqGroupTaskS.calls k _ _ l0_0 _ _ l1_0 false _ ?side1 ?side2 ?side3 ?side4 A3.out).mono ?_); (case side1 => exact cT (Kd.C_below HR0_0.out HB.out)); (case side2 => exact HC0_0.out); (case side3 => exact cT (Kd.C_below HR1_0.out HB.out)); (case side4 => exact HC1_0.out); rintro e w36 ⟨rfl, hb⟩; refine ⟨_, rfl, ?_⟩; replace HB := mA (below_step (bT2 HB GE416 GE417) hb); (try clear hb)))
  go_ret
  exact ⟨eT, bT2 HB GE416 GE417⟩

end Go.Proofs.Ytnllplklggoabaa.P
