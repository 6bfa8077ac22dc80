/- Written by tools/seatprint.py over the translation. Lean checks it. -/
import Derived.Test.YtoncjohnkiilcaaP0
import Derived.Test.YtoncjohnkiilcaaPccc0
namespace Go.Proofs.Ytoncjohnkiilcaa.P
open Go.RowKit Go.Proofs.YtoncjohnkiilcaaW.PrintWords Go.Proofs.YtoncjohnkiilcaaW.PrintLast Go.Proofs.YtoncjohnkiilcaaW.PrintMore
attribute [local go_sem] max2_int min2_int max_two min_two max_three min_three max_four min_four
set_option linter.unusedVariables false
set_option linter.unusedSimpArgs false

/-! ### spec_IsValidAggregator: function 25 -/
def spec_IsValidAggregator.l0 : Nat → Int → Int → List (S80) → Int → Bool → Option (Bool)
 | 0, _, _, _, _, _ => none
 | k + 1, x3, x4, x247000, x247001, x247002 => if x4 < (x247000.length : Int) then (if 0 ≤ x4 then ((spec_AreValidRows.f k ((rd_T80 x247000 x4).f0)).bind fun t249 => (if t249 = true then ((spec_l1In.f ((rd_T80 x247000 x4).f1) 0 4).bind fun t251 => (if t251 = true then (spec_IsValidAggregator.l0 k (wrap64 (x3 + (((rd_T80 x247000 x4).f0).length : Int))) (wrap64 (x4 + 1)) x247000 x247001 x247002) else (some false))) else (some false))) else (none)) else (if x3 ≤ 24 then (if (x247000.length : Int) ≤ 40 then ((spec_l1In.f x247001 0 100000).bind fun t247 => (some t247)) else (some false)) else (some false))
def spec_IsValidAggregator.f (k : Nat) (l0_0 : List (S80)) (a0_1 : Int) (a0_2 : Bool) : Option (Bool) := spec_IsValidAggregator.l0 k 0 0 l0_0 a0_1 a0_2
theorem spec_IsValidAggregator.mono_l : ∀ k, (∀ y0 y1 y2 y3 y4, LeO (spec_IsValidAggregator.l0 k y0 y1 y2 y3 y4) (spec_IsValidAggregator.l0 (k + 1) y0 y1 y2 y3 y4))
 | 0 => fun _ _ _ _ _ r h => by simp [spec_IsValidAggregator.l0] at h
 | k + 1 => by
  have ih0 := spec_IsValidAggregator.mono_l k
  ·
   intro y0 y1 y2 y3 y4
   unfold spec_IsValidAggregator.l0
   repeat' first
   | (with_reducible exact ih0 _ _ _ _ _)
   | (with_reducible exact spec_AreValidRows.mono _ _)
   | (with_reducible exact LeO.refl _)
   | (with_reducible exact LeO.none _)
   | (with_reducible refine LeO.ite ?_ ?_)
   | (with_reducible refine LeO.bind ?_ (fun _ => ?_))
   | exact ih0 _ _ _ _ _
   | exact spec_AreValidRows.mono _ _
   | exact LeO.none _
   | refine LeO.ite ?_ ?_
   | refine LeO.bind ?_ (fun _ => ?_)
theorem spec_IsValidAggregator.mono : ∀ a0 a1 a2 k, LeO (spec_IsValidAggregator.f k a0 a1 a2) (spec_IsValidAggregator.f (k + 1) a0 a1 a2) := by
 intro a0 a1 a2 k
 have ih0 := spec_IsValidAggregator.mono_l k
 unfold spec_IsValidAggregator.f
 repeat' first
   | (with_reducible exact ih0 _ _ _ _ _)
   | (with_reducible exact spec_AreValidRows.mono _ _)
   | (with_reducible exact LeO.refl _)
   | (with_reducible exact LeO.none _)
   | (with_reducible refine LeO.ite ?_ ?_)
   | (with_reducible refine LeO.bind ?_ (fun _ => ?_))
   | exact ih0 _ _ _ _ _
   | exact spec_AreValidRows.mono _ _
   | exact LeO.none _
   | refine LeO.ite ?_ ?_
   | refine LeO.bind ?_ (fun _ => ?_)
set_option maxHeartbeats 8000000 in
set_option maxRecDepth 100000 in
theorem spec_IsValidAggregator.calls (k : Nat) (A0_0 : Option Addr) (c0_0 : Nat) (l0_0 : List (S80)) (a0_1 : Int) (a0_2 : Bool) (r : Bool) (w : World) (hr0_0 : Kd.C k80 w A0_0 l0_0.length l0_0) (hc0_0 : l0_0.length ≤ c0_0) (h : spec_IsValidAggregator.f k l0_0 a0_1 a0_2 = some r) :
  Calls Try.prog 25 #[.agg #[.slice A0_0 l0_0.length c0_0, .int .i64 a0_1, .bool a0_2]] w fun e w' => e = .returned (.bool r) ∧ Below w.heap.size w w' := by
 have hu40 := Try.underlying40
 have HR0_0 := mA hr0_0
 have HC0_0 := mA hc0_0
 clear hr0_0 hc0_0
 have HB := mA (Below.refl w.heap.size w)
 have H : (spec_IsValidAggregator.l0 k 0 0 l0_0 a0_1 a0_2) = some r := h
 clear h
 have H' := mA H
 clear H
 go_enter Try.func25, Try.ntmps25
 go_wp2_with (first | ((with_reducible refine gate_dst (N := 1) rfl ?_); (try (refine gate_guard (by rfl) ?_; dsimp only)); refine boxT 1 #[.slice A0_0 l0_0.length c0_0, .int .i64 a0_1, .bool a0_2] 40 ?_; intro gb246 hg w2 hbox hb; have BK246 := mA (hbox); have GW246 := mA ((by rw [hg]; exact (below_size (bT HB)) : w.heap.size ≤ gb246)); have GE246 := GW246; replace HB := mA (below_step (bT HB) hb); clear hb hbox hg))
 go_loopg [3, 4] k (fun kq v3 v4 w' => ∃ (x3_1 : Int) (x4_1 : Int), v3 = .int .i64 x3_1 ∧ v4 = .int .i64 x4_1 ∧ Aside0 (spec_IsValidAggregator.l0 kq x3_1 x4_1 l0_0 a0_1 a0_2 = some r) ∧ Aside0 (kq ≤ k) ∧ Aside0 (w'.heap[gb246]? = some (.cells #[(.slice A0_0 l0_0.length c0_0), .int .i64 a0_1, .bool a0_2] 40 (0, 0))) ∧ Aside0 (Below w.heap.size w w'))
 case atStart => exact ⟨(0), (0), sT, sT, H', ⟨Nat.le_refl _⟩, ⟨kT BK246⟩, ⟨bT1 HB GE246⟩⟩
 case round =>
  clear H'
  try clear c2
  try clear p2
  obtain ⟨x3_1, x4_1, rfl, rfl, HA, HK1, BK246, HB⟩ := hrel
  cases gk with
  | zero => exact absurd HA.out (by simp [spec_IsValidAggregator.l0])
  | succ k1 =>
   have H := HA.out
   clear HA
   simp only [spec_IsValidAggregator.l0] at H
   by_cases c3 : x4_1 < (l0_0.length : Int)
   ·
    rw [if_pos c3] at H
    have c3b0 : decide (x4_1 < (l0_0.length : Int)) = true := decide_eq_true c3
    clear c3
    by_cases c4 : 0 ≤ x4_1
    ·
     rw [if_pos c4] at H
     have c4b0 : decide (0 ≤ x4_1) = true := decide_eq_true c4
     clear c4
     obtain ⟨t249, A5, H⟩ := Option.bind_eq_some_iff.mp H
     replace A5 := mA A5
     try dsimp only at H
     by_cases c6 : t249 = true
     ·
      subst c6
      rw [if_pos rfl] at H
      obtain ⟨t251, A7, H⟩ := Option.bind_eq_some_iff.mp H
      replace A7 := mA A7
      try dsimp only at H
      by_cases c8 : t251 = true
      ·
       subst c8
       rw [if_pos rfl] at H
       have H' := mA H
       clear H
       have hcz9_0 : wr.cell? ⟨gb246, 0, none⟩ = some (.slice A0_0 l0_0.length c0_0) := (blk_cell BK246.out 0).trans rfl
       have hcz9_1 : wr.cell? ⟨gb246, 1, none⟩ = some (.int .i64 a0_1) := (blk_cell BK246.out 1).trans rfl
       have hcz9_2 : wr.cell? ⟨gb246, 2, none⟩ = some (.bool a0_2) := (blk_cell BK246.out 2).trans rfl
       have hfz9_0 := blk_frozen BK246.out 0
       have hfz9_1 := blk_frozen BK246.out 1
       have hfz9_2 := blk_frozen BK246.out 2
       have p248 : 0 ≤ (x4_1 : Int) := of_decide_eq_true aT
       have q248 : x4_1 < (l0_0.length : Int) := of_decide_eq_true aT
       obtain ⟨ad248, A248_0, c248_0, e248, hx248_0, hx248_1, hl248_0, hi248_0⟩ := at_T80 HR0_0.out x4_1 p248 q248
       cases e248
       replace hx248_0 := (HB.out.cell (World.block_lt_of_cell? w _ hx248_0)).trans hx248_0
       replace hx248_1 := (HB.out.cell (World.block_lt_of_cell? w _ hx248_1)).trans hx248_1
       have HR248_0 := mA hi248_0
       have HC248_0 := mA hl248_0
       clear hi248_0 hl248_0
       replace p248 := eq_true p248
       replace q248 := eq_true q248
       go_wp2_with (first | ((with_reducible refine gate_callee (f := 58) rfl ?_); refine goesT (some 18) Try.func58 #[.slice A248_0 ((rd_T80 l0_0 x4_1).f0).length c248_0] ?_; (with_reducible refine (spec_AreValidRows.calls k1 _ _ ((rd_T80 l0_0 x4_1).f0) true _ ?side1 ?side2 A5.out).mono ?_); (case side1 => exact cT (Kd.C_below HR248_0.out HB.out)); (case side2 => exact HC248_0.out); rintro e w10 ⟨rfl, hb⟩; refine ⟨_, rfl, ?_⟩; replace BK246 := kB BK246 hb; replace HB := mA (below_step (bT1 HB GE246) hb); (try clear hb); obtain ⟨hcz11_0, hcz11_1, hcz11_2, hfz11_0, hfz11_1, hfz11_2⟩ := blk3 BK246.out; have p250 : 0 ≤ (x4_1 : Int) := of_decide_eq_true aT; have q250 : x4_1 < (l0_0.length : Int) := of_decide_eq_true aT; obtain ⟨ad250, A250_0, c250_0, e250, hx250_0, hx250_1, hl250_0, hi250_0⟩ := at_T80 HR0_0.out x4_1 p250 q250; obtain rfl : ad248 = ad250 := (by injection e250); replace hx250_0 := (HB.out.cell (World.block_lt_of_cell? w _ hx250_0)).trans hx250_0; replace hx250_1 := (HB.out.cell (World.block_lt_of_cell? w _ hx250_1)).trans hx250_1; have HR250_0 := mA hi250_0; have HC250_0 := mA hl250_0; clear hi250_0 hl250_0; replace p250 := eq_true p250; replace q250 := eq_true q250) | (go_at_call 59; (with_reducible refine (spec_l1In.calls ((rd_T80 l0_0 x4_1).f1) 0 4 true _ A7.out).mono ?_); rintro e w' ⟨rfl, ⟨nd, rfl⟩⟩; have p252 : 0 ≤ (x4_1 : Int) := of_decide_eq_true aT; have q252 : x4_1 < (l0_0.length : Int) := of_decide_eq_true aT; obtain ⟨ad252, A252_0, c252_0, e252, hx252_0, hx252_1, hl252_0, hi252_0⟩ := at_T80 HR0_0.out x4_1 p252 q252; obtain rfl : ad248 = ad252 := (by injection e252); replace hx252_0 := (HB.out.cell (World.block_lt_of_cell? w _ hx252_0)).trans hx252_0; replace hx252_1 := (HB.out.cell (World.block_lt_of_cell? w _ hx252_1)).trans hx252_1; have HR252_0 := mA hi252_0; have HC252_0 := mA hl252_0; clear hi252_0 hl252_0; replace p252 := eq_true p252; replace q252 := eq_true q252; first | (have ea_ := Option.some.inj (hx250_0.symm.trans hx252_0)) | (have ea_ := Option.some.inj (((HB.out.cell (World.block_lt_of_cell? w _ hw250_0)).trans hw250_0).symm.trans hx252_0)); injection ea_ with ea_ en_ ec_; subst ea_; subst ec_; clear en_))
       go_roundg k1
       case measure => have := HK1.out; omega
       case rel => exact ⟨(wrap64 (x3_1 + (((rd_T80 l0_0 x4_1).f0).length : Int))), (wrap64 (x4_1 + 1)), sT, sT, H', ⟨by have := HK1.out; omega⟩, ⟨kT BK246⟩, ⟨bT1 HB GE246⟩⟩
      ·
       replace c8 := Bool.eq_false_iff.mpr c8
       subst c8
       rw [if_neg (show ¬ (false = true) by decide)] at H
       obtain rfl := Option.some.inj H
       have hcz12_0 : wr.cell? ⟨gb246, 0, none⟩ = some (.slice A0_0 l0_0.length c0_0) := (blk_cell BK246.out 0).trans rfl
       have hcz12_1 : wr.cell? ⟨gb246, 1, none⟩ = some (.int .i64 a0_1) := (blk_cell BK246.out 1).trans rfl
       have hcz12_2 : wr.cell? ⟨gb246, 2, none⟩ = some (.bool a0_2) := (blk_cell BK246.out 2).trans rfl
       have hfz12_0 := blk_frozen BK246.out 0
       have hfz12_1 := blk_frozen BK246.out 1
       have hfz12_2 := blk_frozen BK246.out 2
       have p248 : 0 ≤ (x4_1 : Int) := of_decide_eq_true aT
       have q248 : x4_1 < (l0_0.length : Int) := of_decide_eq_true aT
       obtain ⟨ad248, A248_0, c248_0, e248, hx248_0, hx248_1, hl248_0, hi248_0⟩ := at_T80 HR0_0.out x4_1 p248 q248
       cases e248
       replace hx248_0 := (HB.out.cell (World.block_lt_of_cell? w _ hx248_0)).trans hx248_0
       replace hx248_1 := (HB.out.cell (World.block_lt_of_cell? w _ hx248_1)).trans hx248_1
       have HR248_0 := mA hi248_0
       have HC248_0 := mA hl248_0
       clear hi248_0 hl248_0
       replace p248 := eq_true p248
       replace q248 := eq_true q248
       go_wp2_with (first | ((with_reducible refine gate_callee (f := 58) rfl ?_); refine goesT (some 18) Try.func58 #[.slice A248_0 ((rd_T80 l0_0 x4_1).f0).length c248_0] ?_; (with_reducible refine (spec_AreValidRows.calls k1 _ _ ((rd_T80 l0_0 x4_1).f0) true _ ?side1 ?side2 A5.out).mono ?_); (case side1 => exact cT (Kd.C_below HR248_0.out HB.out)); (case side2 => exact HC248_0.out); rintro e w13 ⟨rfl, hb⟩; refine ⟨_, rfl, ?_⟩; replace BK246 := kB BK246 hb; replace HB := mA (below_step (bT1 HB GE246) hb); (try clear hb); obtain ⟨hcz14_0, hcz14_1, hcz14_2, hfz14_0, hfz14_1, hfz14_2⟩ := blk3 BK246.out; have p250 : 0 ≤ (x4_1 : Int) := of_decide_eq_true aT; have q250 : x4_1 < (l0_0.length : Int) := of_decide_eq_true aT; obtain ⟨ad250, A250_0, c250_0, e250, hx250_0, hx250_1, hl250_0, hi250_0⟩ := at_T80 HR0_0.out x4_1 p250 q250; obtain rfl : ad248 = ad250 := (by injection e250); replace hx250_0 := (HB.out.cell (World.block_lt_of_cell? w _ hx250_0)).trans hx250_0; replace hx250_1 := (HB.out.cell (World.block_lt_of_cell? w _ hx250_1)).trans hx250_1; have HR250_0 := mA hi250_0; have HC250_0 := mA hl250_0; clear hi250_0 hl250_0; replace p250 := eq_true p250; replace q250 := eq_true q250) | (go_at_call 59; (with_reducible refine (spec_l1In.calls ((rd_T80 l0_0 x4_1).f1) 0 4 false _ A7.out).mono ?_); rintro e w' ⟨rfl, ⟨nd, rfl⟩⟩))
       go_ret
       exact ⟨eT, bT1 HB GE246⟩
     ·
      replace c6 := Bool.eq_false_iff.mpr c6
      subst c6
      rw [if_neg (show ¬ (false = true) by decide)] at H
      obtain rfl := Option.some.inj H
      have hcz15_0 : wr.cell? ⟨gb246, 0, none⟩ = some (.slice A0_0 l0_0.length c0_0) := (blk_cell BK246.out 0).trans rfl
      have hcz15_1 : wr.cell? ⟨gb246, 1, none⟩ = some (.int .i64 a0_1) := (blk_cell BK246.out 1).trans rfl
      have hcz15_2 : wr.cell? ⟨gb246, 2, none⟩ = some (.bool a0_2) := (blk_cell BK246.out 2).trans rfl
      have hfz15_0 := blk_frozen BK246.out 0
      have hfz15_1 := blk_frozen BK246.out 1
      have hfz15_2 := blk_frozen BK246.out 2
      have p248 : 0 ≤ (x4_1 : Int) := of_decide_eq_true aT
      have q248 : x4_1 < (l0_0.length : Int) := of_decide_eq_true aT
      obtain ⟨ad248, A248_0, c248_0, e248, hx248_0, hx248_1, hl248_0, hi248_0⟩ := at_T80 HR0_0.out x4_1 p248 q248
      cases e248
      replace hx248_0 := (HB.out.cell (World.block_lt_of_cell? w _ hx248_0)).trans hx248_0
      replace hx248_1 := (HB.out.cell (World.block_lt_of_cell? w _ hx248_1)).trans hx248_1
      have HR248_0 := mA hi248_0
      have HC248_0 := mA hl248_0
      clear hi248_0 hl248_0
      replace p248 := eq_true p248
      replace q248 := eq_true q248
      go_wp2_with (first | ((with_reducible refine gate_callee (f := 58) rfl ?_); refine goesT (some 18) Try.func58 #[.slice A248_0 ((rd_T80 l0_0 x4_1).f0).length c248_0] ?_; (with_reducible refine (spec_AreValidRows.calls k1 _ _ ((rd_T80 l0_0 x4_1).f0) false _ ?side1 ?side2 A5.out).mono ?_); (case side1 => exact cT (Kd.C_below HR248_0.out HB.out)); (case side2 => exact HC248_0.out); rintro e w16 ⟨rfl, hb⟩; refine ⟨_, rfl, ?_⟩; replace BK246 := kB BK246 hb; replace HB := mA (below_step (bT1 HB GE246) hb); (try clear hb)))
      go_ret
      exact ⟨eT, bT1 HB GE246⟩
    ·
     rw [if_neg c4] at H
     exact absurd H (by simp)
   ·
    rw [if_neg c3] at H
    have c3b0 : decide (x4_1 < (l0_0.length : Int)) = false := decide_eq_false c3
    clear c3
    by_cases c17 : x3_1 ≤ 24
    ·
     rw [if_pos c17] at H
     have c17b0 : decide (x3_1 ≤ 24) = true := decide_eq_true c17
     clear c17
     by_cases c18 : (l0_0.length : Int) ≤ 40
     ·
      rw [if_pos c18] at H
      have c18b0 : decide ((l0_0.length : Int) ≤ 40) = true := decide_eq_true c18
      have c18b1 : decide (l0_0.length ≤ 40) = true := decide_eq_true (by omega)
      clear c18
      obtain ⟨t247, A19, H⟩ := Option.bind_eq_some_iff.mp H
      replace A19 := mA A19
      replace H : (some t247) = some r := H
      obtain rfl := Option.some.inj H
      have hcz20_0 : wr.cell? ⟨gb246, 0, none⟩ = some (.slice A0_0 l0_0.length c0_0) := (blk_cell BK246.out 0).trans rfl
      have hcz20_1 : wr.cell? ⟨gb246, 1, none⟩ = some (.int .i64 a0_1) := (blk_cell BK246.out 1).trans rfl
      have hcz20_2 : wr.cell? ⟨gb246, 2, none⟩ = some (.bool a0_2) := (blk_cell BK246.out 2).trans rfl
      have hfz20_0 := blk_frozen BK246.out 0
      have hfz20_1 := blk_frozen BK246.out 1
      have hfz20_2 := blk_frozen BK246.out 2
      go_wp2_with (first | (go_at_call 59; (with_reducible refine (spec_l1In.calls a0_1 0 100000 t247 _ A19.out).mono ?_); rintro e w' ⟨rfl, ⟨nd, rfl⟩⟩))
      go_ret
      exact ⟨eT, bT1 HB GE246⟩
     ·
      rw [if_neg c18] at H
      have c18b0 : decide ((l0_0.length : Int) ≤ 40) = false := decide_eq_false c18
      have c18b1 : decide (l0_0.length ≤ 40) = false := decide_eq_false (by omega)
      clear c18
      obtain rfl := Option.some.inj H
      have hcz21_0 : wr.cell? ⟨gb246, 0, none⟩ = some (.slice A0_0 l0_0.length c0_0) := (blk_cell BK246.out 0).trans rfl
      have hcz21_1 : wr.cell? ⟨gb246, 1, none⟩ = some (.int .i64 a0_1) := (blk_cell BK246.out 1).trans rfl
      have hcz21_2 : wr.cell? ⟨gb246, 2, none⟩ = some (.bool a0_2) := (blk_cell BK246.out 2).trans rfl
      have hfz21_0 := blk_frozen BK246.out 0
      have hfz21_1 := blk_frozen BK246.out 1
      have hfz21_2 := blk_frozen BK246.out 2
      go_wp2
      go_ret
      exact ⟨eT, bT1 HB GE246⟩
    ·
     rw [if_neg c17] at H
     have c17b0 : decide (x3_1 ≤ 24) = false := decide_eq_false c17
     clear c17
     obtain rfl := Option.some.inj H
     have hcz22_0 : wr.cell? ⟨gb246, 0, none⟩ = some (.slice A0_0 l0_0.length c0_0) := (blk_cell BK246.out 0).trans rfl
     have hcz22_1 : wr.cell? ⟨gb246, 1, none⟩ = some (.int .i64 a0_1) := (blk_cell BK246.out 1).trans rfl
     have hcz22_2 : wr.cell? ⟨gb246, 2, none⟩ = some (.bool a0_2) := (blk_cell BK246.out 2).trans rfl
     have hfz22_0 := blk_frozen BK246.out 0
     have hfz22_1 := blk_frozen BK246.out 1
     have hfz22_2 := blk_frozen BK246.out 2
     go_wp2
     go_ret
     exact ⟨eT, bT1 HB GE246⟩

/-! ### impl_IsValidAggregator: function 26 -/
def impl_IsValidAggregator.l0 : Nat → Int → List (S80) → Int → Int → List (S80) → Int → Bool → Option (Bool)
 | 0, _, _, _, _, _, _, _ => none
 | k + 1, x3, x7, x8, x9, x262000, x262001, x262002 => if x9 < x8 then (if 0 ≤ x9 then (if x9 < (x7.length : Int) then ((impl_AreValidRows.f k ((rd_T80 x7 x9).f0)).bind fun t265 => (if t265 = true then ((impl_within.f ((rd_T80 x7 x9).f1) 0 4).bind fun t266 => (if t266 = true then (impl_IsValidAggregator.l0 k (wrap64 (x3 + (((rd_T80 x7 x9).f0).length : Int))) x7 x8 (wrap64 (x9 + 1)) x262000 x262001 x262002) else (some false))) else (some false))) else (none)) else (none)) else (if (x262000.length : Int) ≤ 40 then (if x3 ≤ 24 then ((impl_within.f x262001 0 100000).bind fun t262 => (some t262)) else (some false)) else (some false))
def impl_IsValidAggregator.f (k : Nat) (l0_0 : List (S80)) (a0_1 : Int) (a0_2 : Bool) : Option (Bool) := impl_IsValidAggregator.l0 k 0 l0_0 (l0_0.length : Int) 0 l0_0 a0_1 a0_2
theorem impl_IsValidAggregator.mono_l : ∀ k, (∀ y0 y1 y2 y3 y4 y5 y6, LeO (impl_IsValidAggregator.l0 k y0 y1 y2 y3 y4 y5 y6) (impl_IsValidAggregator.l0 (k + 1) y0 y1 y2 y3 y4 y5 y6))
 | 0 => fun _ _ _ _ _ _ _ r h => by simp [impl_IsValidAggregator.l0] at h
 | k + 1 => by
  have ih0 := impl_IsValidAggregator.mono_l k
  ·
   intro y0 y1 y2 y3 y4 y5 y6
   unfold impl_IsValidAggregator.l0
   repeat' first
   | (with_reducible exact ih0 _ _ _ _ _ _ _)
   | (with_reducible exact impl_AreValidRows.mono _ _)
   | (with_reducible exact LeO.refl _)
   | (with_reducible exact LeO.none _)
   | (with_reducible refine LeO.ite ?_ ?_)
   | (with_reducible refine LeO.bind ?_ (fun _ => ?_))
   | exact ih0 _ _ _ _ _ _ _
   | exact impl_AreValidRows.mono _ _
   | exact LeO.none _
   | refine LeO.ite ?_ ?_
   | refine LeO.bind ?_ (fun _ => ?_)
theorem impl_IsValidAggregator.mono : ∀ a0 a1 a2 k, LeO (impl_IsValidAggregator.f k a0 a1 a2) (impl_IsValidAggregator.f (k + 1) a0 a1 a2) := by
 intro a0 a1 a2 k
 have ih0 := impl_IsValidAggregator.mono_l k
 unfold impl_IsValidAggregator.f
 repeat' first
   | (with_reducible exact ih0 _ _ _ _ _ _ _)
   | (with_reducible exact impl_AreValidRows.mono _ _)
   | (with_reducible exact LeO.refl _)
   | (with_reducible exact LeO.none _)
   | (with_reducible refine LeO.ite ?_ ?_)
   | (with_reducible refine LeO.bind ?_ (fun _ => ?_))
   | exact ih0 _ _ _ _ _ _ _
   | exact impl_AreValidRows.mono _ _
   | exact LeO.none _
   | refine LeO.ite ?_ ?_
   | refine LeO.bind ?_ (fun _ => ?_)
set_option maxHeartbeats 8000000 in
set_option maxRecDepth 100000 in
theorem impl_IsValidAggregator.calls (k : Nat) (A0_0 : Option Addr) (c0_0 : Nat) (l0_0 : List (S80)) (a0_1 : Int) (a0_2 : Bool) (r : Bool) (w : World) (hr0_0 : Kd.C k80 w A0_0 l0_0.length l0_0) (hc0_0 : l0_0.length ≤ c0_0) (h : impl_IsValidAggregator.f k l0_0 a0_1 a0_2 = some r) :
  Calls Try.prog 26 #[.agg #[.slice A0_0 l0_0.length c0_0, .int .i64 a0_1, .bool a0_2]] w fun e w' => e = .returned (.bool r) ∧ Below w.heap.size w w' := by
 have hu40 := Try.underlying40
 have hu80 := Try.underlying80
 have HR0_0 := mA hr0_0
 have HC0_0 := mA hc0_0
 clear hr0_0 hc0_0
 have HB := mA (Below.refl w.heap.size w)
 have H : (impl_IsValidAggregator.l0 k 0 l0_0 (l0_0.length : Int) 0 l0_0 a0_1 a0_2) = some r := h
 clear h
 have H' := mA H
 clear H
 go_enter Try.func26, Try.ntmps26
 go_wp2_with (first | ((with_reducible refine gate_dst (N := 1) rfl ?_); refine boxT 1 #[.slice A0_0 l0_0.length c0_0, .int .i64 a0_1, .bool a0_2] 40 ?_; intro gb261 hg w2 hbox hb; have BK261 := mA (hbox); have GW261 := mA ((by rw [hg]; exact (below_size (bT HB)) : w.heap.size ≤ gb261)); have GE261 := GW261; replace HB := mA (below_step (bT HB) hb); clear hb hbox hg; obtain ⟨hcz3_0, hcz3_1, hcz3_2, hfz3_0, hfz3_1, hfz3_2⟩ := blk3 BK261.out))
 go_loopg [3, 9] k (fun kq v3 v9 w' => ∃ (x3_1 : Int) (x9_1 : Int), v3 = .int .i64 x3_1 ∧ v9 = .int .i64 x9_1 ∧ Aside0 (impl_IsValidAggregator.l0 kq x3_1 l0_0 (l0_0.length : Int) x9_1 l0_0 a0_1 a0_2 = some r) ∧ Aside0 (kq ≤ k) ∧ Aside0 (w'.heap[gb261]? = some (.cells #[(.slice A0_0 l0_0.length c0_0), .int .i64 a0_1, .bool a0_2] 40 (0, 0))) ∧ Aside0 (Below w.heap.size w w'))
 case atStart => exact ⟨(0), (0), sT, sT, H', ⟨Nat.le_refl _⟩, ⟨kT BK261⟩, ⟨bT1 HB GE261⟩⟩
 case round =>
  clear H'
  try clear c2
  try clear p2
  try clear hcz3_0
  try clear hcz3_1
  try clear hcz3_2
  try clear hfz3_0
  try clear hfz3_1
  try clear hfz3_2
  obtain ⟨x3_1, x9_1, rfl, rfl, HA, HK1, BK261, HB⟩ := hrel
  cases gk with
  | zero => exact absurd HA.out (by simp [impl_IsValidAggregator.l0])
  | succ k1 =>
   have H := HA.out
   clear HA
   simp only [impl_IsValidAggregator.l0] at H
   by_cases c4 : x9_1 < (l0_0.length : Int)
   ·
    rw [if_pos c4] at H
    have c4b0 : decide (x9_1 < (l0_0.length : Int)) = true := decide_eq_true c4
    clear c4
    by_cases c5 : 0 ≤ x9_1
    ·
     rw [if_pos c5] at H
     have c5b0 : decide (0 ≤ x9_1) = true := decide_eq_true c5
     clear c5
     by_cases c6 : x9_1 < (l0_0.length : Int)
     ·
      rw [if_pos c6] at H
      have c6b0 : decide (x9_1 < (l0_0.length : Int)) = true := decide_eq_true c6
      clear c6
      obtain ⟨t265, A7, H⟩ := Option.bind_eq_some_iff.mp H
      replace A7 := mA A7
      try dsimp only at H
      by_cases c8 : t265 = true
      ·
       subst c8
       rw [if_pos rfl] at H
       obtain ⟨t266, A9, H⟩ := Option.bind_eq_some_iff.mp H
       replace A9 := mA A9
       try dsimp only at H
       by_cases c10 : t266 = true
       ·
        subst c10
        rw [if_pos rfl] at H
        have H' := mA H
        clear H
        have p263 : 0 ≤ (x9_1 : Int) := of_decide_eq_true aT
        have q263 : x9_1 < (l0_0.length : Int) := of_decide_eq_true aT
        obtain ⟨ad263, A263_0, c263_0, e263, hx263_0, hx263_1, hl263_0, hi263_0⟩ := at_T80 HR0_0.out x9_1 p263 q263
        cases e263
        replace hx263_0 := (HB.out.cell (World.block_lt_of_cell? w _ hx263_0)).trans hx263_0
        replace hx263_1 := (HB.out.cell (World.block_lt_of_cell? w _ hx263_1)).trans hx263_1
        have HR263_0 := mA hi263_0
        have HC263_0 := mA hl263_0
        clear hi263_0 hl263_0
        replace p263 := eq_true p263
        replace q263 := eq_true q263
        go_wp2_with (first | ((with_reducible refine gate_dst (N := 5) rfl ?_); refine boxT 5 #[.slice none 0 0, .int .i64 0] 80 ?_; intro gb264 hg w11 hbox hb; have BK264 := mA (hbox); have GW264 := mA ((by rw [hg]; exact (below_size (bT1 HB GE261)) : w.heap.size ≤ gb264)); have GE264 := GW264; replace HB := mA (below_step (bT1 HB GE261) hb); have NB261_264 : Aside0 (gb261 ≠ gb264) := nL BK261 hg; have NB264_261 : Aside0 (gb264 ≠ gb261) := nG BK261 hg; replace BK261 := kB BK261 hb; clear hb hbox hg; have hnb12 := NB264_261.out; have hnc12 := NB261_264.out; obtain ⟨hcz13_0, hcz13_1, hfz13_0, hfz13_1⟩ := blk2 BK264.out) | ((with_reducible refine gate_callee (f := 60) rfl ?_); refine goesT (some 15) Try.func60 #[.slice A263_0 ((rd_T80 l0_0 x9_1).f0).length c263_0] ?_; (with_reducible refine (impl_AreValidRows.calls k1 _ _ ((rd_T80 l0_0 x9_1).f0) true _ ?side1 ?side2 A7.out).mono ?_); (case side1 => exact Kd.C_below HR263_0.out (bT2 HB GE261 GE264)); (case side2 => exact HC263_0.out); rintro e w14 ⟨rfl, hb⟩; refine ⟨_, rfl, ?_⟩; replace BK261 := mA (blk_below (g := gb261) (o := .cells #[.slice (some ad263) l0_0.length c0_0, .int .i64 a0_1, .bool a0_2] 40 (0, 0)) (by (with_reducible repeat (first | refine blk_drewN ?_ _ | refine blk_drew ?_ | refine blk_alloc ?_ _)); refine blk_far ?_ NB261_264.out _; (with_reducible repeat (first | refine blk_drewN ?_ _ | refine blk_drew ?_ | refine blk_alloc ?_ _)); refine blk_far ?_ NB261_264.out _; (with_reducible repeat (first | refine blk_drewN ?_ _ | refine blk_drew ?_ | refine blk_alloc ?_ _)); exact BK261.out) hb); replace BK264 := mA (blk_below (g := gb264) (o := .cells #[.slice A263_0 ((rd_T80 l0_0 x9_1).f0).length c263_0, .int .i64 ((rd_T80 l0_0 x9_1).f1)] 80 (0, 0)) (by (with_reducible repeat (first | refine blk_drewN ?_ _ | refine blk_drew ?_ | refine blk_alloc ?_ _)); refine blk_put (cs := #[.slice A263_0 ((rd_T80 l0_0 x9_1).f0).length c263_0, .int .i64 0]) ?_ 1 _ rfl; (with_reducible repeat (first | refine blk_drewN ?_ _ | refine blk_drew ?_ | refine blk_alloc ?_ _)); refine blk_put (cs := #[.slice none 0 0, .int .i64 0]) ?_ 0 _ rfl; (with_reducible repeat (first | refine blk_drewN ?_ _ | refine blk_drew ?_ | refine blk_alloc ?_ _)); exact BK264.out) hb); replace HB := mA (below_step (bT2 HB GE261 GE264) hb); (try clear hb); obtain ⟨hcz15_0, hcz15_1, hfz15_0, hfz15_1⟩ := blk2 BK264.out) | (go_at_call 61; (with_reducible refine (impl_within.calls ((rd_T80 l0_0 x9_1).f1) 0 4 true _ A9.out).mono ?_); rintro e w' ⟨rfl, ⟨nd, rfl⟩⟩))
        go_roundg k1
        case measure => have := HK1.out; omega
        case rel => exact ⟨(wrap64 (x3_1 + (((rd_T80 l0_0 x9_1).f0).length : Int))), (wrap64 (x9_1 + 1)), sT, sT, H', ⟨by have := HK1.out; omega⟩, ⟨kT BK261⟩, ⟨bT2 HB GE261 GE264⟩⟩
       ·
        replace c10 := Bool.eq_false_iff.mpr c10
        subst c10
        rw [if_neg (show ¬ (false = true) by decide)] at H
        obtain rfl := Option.some.inj H
        have p263 : 0 ≤ (x9_1 : Int) := of_decide_eq_true aT
        have q263 : x9_1 < (l0_0.length : Int) := of_decide_eq_true aT
        obtain ⟨ad263, A263_0, c263_0, e263, hx263_0, hx263_1, hl263_0, hi263_0⟩ := at_T80 HR0_0.out x9_1 p263 q263
        cases e263
        replace hx263_0 := (HB.out.cell (World.block_lt_of_cell? w _ hx263_0)).trans hx263_0
        replace hx263_1 := (HB.out.cell (World.block_lt_of_cell? w _ hx263_1)).trans hx263_1
        have HR263_0 := mA hi263_0
        have HC263_0 := mA hl263_0
        clear hi263_0 hl263_0
        replace p263 := eq_true p263
        replace q263 := eq_true q263
        go_wp2_with (first | ((with_reducible refine gate_dst (N := 5) rfl ?_); refine boxT 5 #[.slice none 0 0, .int .i64 0] 80 ?_; intro gb264 hg w16 hbox hb; have BK264 := mA (hbox); have GW264 := mA ((by rw [hg]; exact (below_size (bT1 HB GE261)) : w.heap.size ≤ gb264)); have GE264 := GW264; replace HB := mA (below_step (bT1 HB GE261) hb); have NB261_264 : Aside0 (gb261 ≠ gb264) := nL BK261 hg; have NB264_261 : Aside0 (gb264 ≠ gb261) := nG BK261 hg; replace BK261 := kB BK261 hb; clear hb hbox hg; have hnb17 := NB264_261.out; have hnc17 := NB261_264.out; obtain ⟨hcz18_0, hcz18_1, hfz18_0, hfz18_1⟩ := blk2 BK264.out) | ((with_reducible refine gate_callee (f := 60) rfl ?_); refine goesT (some 15) Try.func60 #[.slice A263_0 ((rd_T80 l0_0 x9_1).f0).length c263_0] ?_; (with_reducible refine (impl_AreValidRows.calls k1 _ _ ((rd_T80 l0_0 x9_1).f0) true _ ?side1 ?side2 A7.out).mono ?_); (case side1 => exact Kd.C_below HR263_0.out (bT2 HB GE261 GE264)); (case side2 => exact HC263_0.out); rintro e w19 ⟨rfl, hb⟩; refine ⟨_, rfl, ?_⟩; replace BK261 := mA (blk_below (g := gb261) (o := .cells #[.slice (some ad263) l0_0.length c0_0, .int .i64 a0_1, .bool a0_2] 40 (0, 0)) (by (with_reducible repeat (first | refine blk_drewN ?_ _ | refine blk_drew ?_ | refine blk_alloc ?_ _)); refine blk_far ?_ NB261_264.out _; (with_reducible repeat (first | refine blk_drewN ?_ _ | refine blk_drew ?_ | refine blk_alloc ?_ _)); refine blk_far ?_ NB261_264.out _; (with_reducible repeat (first | refine blk_drewN ?_ _ | refine blk_drew ?_ | refine blk_alloc ?_ _)); exact BK261.out) hb); replace BK264 := mA (blk_below (g := gb264) (o := .cells #[.slice A263_0 ((rd_T80 l0_0 x9_1).f0).length c263_0, .int .i64 ((rd_T80 l0_0 x9_1).f1)] 80 (0, 0)) (by (with_reducible repeat (first | refine blk_drewN ?_ _ | refine blk_drew ?_ | refine blk_alloc ?_ _)); refine blk_put (cs := #[.slice A263_0 ((rd_T80 l0_0 x9_1).f0).length c263_0, .int .i64 0]) ?_ 1 _ rfl; (with_reducible repeat (first | refine blk_drewN ?_ _ | refine blk_drew ?_ | refine blk_alloc ?_ _)); refine blk_put (cs := #[.slice none 0 0, .int .i64 0]) ?_ 0 _ rfl; (with_reducible repeat (first | refine blk_drewN ?_ _ | refine blk_drew ?_ | refine blk_alloc ?_ _)); exact BK264.out) hb); replace HB := mA (below_step (bT2 HB GE261 GE264) hb); (try clear hb); obtain ⟨hcz20_0, hcz20_1, hfz20_0, hfz20_1⟩ := blk2 BK264.out) | (go_at_call 61; (with_reducible refine (impl_within.calls ((rd_T80 l0_0 x9_1).f1) 0 4 false _ A9.out).mono ?_); rintro e w' ⟨rfl, ⟨nd, rfl⟩⟩))
        go_ret
        exact ⟨eT, bT2 HB GE261 GE264⟩
      ·
       replace c8 := Bool.eq_false_iff.mpr c8
       subst c8
       rw [if_neg (show ¬ (false = true) by decide)] at H
       obtain rfl := Option.some.inj H
       have p263 : 0 ≤ (x9_1 : Int) := of_decide_eq_true aT
       have q263 : x9_1 < (l0_0.length : Int) := of_decide_eq_true aT
       obtain ⟨ad263, A263_0, c263_0, e263, hx263_0, hx263_1, hl263_0, hi263_0⟩ := at_T80 HR0_0.out x9_1 p263 q263
       cases e263
       replace hx263_0 := (HB.out.cell (World.block_lt_of_cell? w _ hx263_0)).trans hx263_0
       replace hx263_1 := (HB.out.cell (World.block_lt_of_cell? w _ hx263_1)).trans hx263_1
       have HR263_0 := mA hi263_0
       have HC263_0 := mA hl263_0
       clear hi263_0 hl263_0
       replace p263 := eq_true p263
       replace q263 := eq_true q263
       go_wp2_with (first | ((with_reducible refine gate_dst (N := 5) rfl ?_); refine boxT 5 #[.slice none 0 0, .int .i64 0] 80 ?_; intro gb264 hg w21 hbox hb; have BK264 := mA (hbox); have GW264 := mA ((by rw [hg]; exact (below_size (bT1 HB GE261)) : w.heap.size ≤ gb264)); have GE264 := GW264; replace HB := mA (below_step (bT1 HB GE261) hb); have NB261_264 : Aside0 (gb261 ≠ gb264) := nL BK261 hg; have NB264_261 : Aside0 (gb264 ≠ gb261) := nG BK261 hg; replace BK261 := kB BK261 hb; clear hb hbox hg; have hnb22 := NB264_261.out; have hnc22 := NB261_264.out; obtain ⟨hcz23_0, hcz23_1, hfz23_0, hfz23_1⟩ := blk2 BK264.out) | ((with_reducible refine gate_callee (f := 60) rfl ?_); refine goesT (some 15) Try.func60 #[.slice A263_0 ((rd_T80 l0_0 x9_1).f0).length c263_0] ?_; (with_reducible refine (impl_AreValidRows.calls k1 _ _ ((rd_T80 l0_0 x9_1).f0) false _ ?side1 ?side2 A7.out).mono ?_); (case side1 => exact Kd.C_below HR263_0.out (bT2 HB GE261 GE264)); (case side2 => exact HC263_0.out); rintro e w24 ⟨rfl, hb⟩; refine ⟨_, rfl, ?_⟩; replace BK261 := mA (blk_below (g := gb261) (o := .cells #[.slice (some ad263) l0_0.length c0_0, .int .i64 a0_1, .bool a0_2] 40 (0, 0)) (by (with_reducible repeat (first | refine blk_drewN ?_ _ | refine blk_drew ?_ | refine blk_alloc ?_ _)); refine blk_far ?_ NB261_264.out _; (with_reducible repeat (first | refine blk_drewN ?_ _ | refine blk_drew ?_ | refine blk_alloc ?_ _)); refine blk_far ?_ NB261_264.out _; (with_reducible repeat (first | refine blk_drewN ?_ _ | refine blk_drew ?_ | refine blk_alloc ?_ _)); exact BK261.out) hb); replace HB := mA (below_step (bT2 HB GE261 GE264) hb); (try clear hb)))
       go_ret
       exact ⟨eT, bT2 HB GE261 GE264⟩
     ·
      rw [if_neg c6] at H
      exact absurd H (by simp)
    ·
     rw [if_neg c5] at H
     exact absurd H (by simp)
   ·
    rw [if_neg c4] at H
    have c4b0 : decide (x9_1 < (l0_0.length : Int)) = false := decide_eq_false c4
    clear c4
    by_cases c25 : (l0_0.length : Int) ≤ 40
    ·
     rw [if_pos c25] at H
     have c25b0 : decide ((l0_0.length : Int) ≤ 40) = true := decide_eq_true c25
     have c25b1 : decide (l0_0.length ≤ 40) = true := decide_eq_true (by omega)
     clear c25
     by_cases c26 : x3_1 ≤ 24
     ·
      rw [if_pos c26] at H
      have c26b0 : decide (x3_1 ≤ 24) = true := decide_eq_true c26
      clear c26
      obtain ⟨t262, A27, H⟩ := Option.bind_eq_some_iff.mp H
      replace A27 := mA A27
      replace H : (some t262) = some r := H
      obtain rfl := Option.some.inj H
      have hcz28_0 : wr.cell? ⟨gb261, 0, none⟩ = some (.slice A0_0 l0_0.length c0_0) := (blk_cell BK261.out 0).trans rfl
      have hcz28_1 : wr.cell? ⟨gb261, 1, none⟩ = some (.int .i64 a0_1) := (blk_cell BK261.out 1).trans rfl
      have hcz28_2 : wr.cell? ⟨gb261, 2, none⟩ = some (.bool a0_2) := (blk_cell BK261.out 2).trans rfl
      have hfz28_0 := blk_frozen BK261.out 0
      have hfz28_1 := blk_frozen BK261.out 1
      have hfz28_2 := blk_frozen BK261.out 2
      go_wp2_with (first | (go_at_call 61; (with_reducible refine (impl_within.calls a0_1 0 100000 t262 _ A27.out).mono ?_); rintro e w' ⟨rfl, ⟨nd, rfl⟩⟩))
      go_ret
      exact ⟨eT, bT1 HB GE261⟩
     ·
      rw [if_neg c26] at H
      have c26b0 : decide (x3_1 ≤ 24) = false := decide_eq_false c26
      clear c26
      obtain rfl := Option.some.inj H
      have hcz29_0 : wr.cell? ⟨gb261, 0, none⟩ = some (.slice A0_0 l0_0.length c0_0) := (blk_cell BK261.out 0).trans rfl
      have hcz29_1 : wr.cell? ⟨gb261, 1, none⟩ = some (.int .i64 a0_1) := (blk_cell BK261.out 1).trans rfl
      have hcz29_2 : wr.cell? ⟨gb261, 2, none⟩ = some (.bool a0_2) := (blk_cell BK261.out 2).trans rfl
      have hfz29_0 := blk_frozen BK261.out 0
      have hfz29_1 := blk_frozen BK261.out 1
      have hfz29_2 := blk_frozen BK261.out 2
      go_wp2
      go_ret
      exact ⟨eT, bT1 HB GE261⟩
    ·
     rw [if_neg c25] at H
     have c25b0 : decide ((l0_0.length : Int) ≤ 40) = false := decide_eq_false c25
     have c25b1 : decide (l0_0.length ≤ 40) = false := decide_eq_false (by omega)
     clear c25
     obtain rfl := Option.some.inj H
     have hcz30_0 : wr.cell? ⟨gb261, 0, none⟩ = some (.slice A0_0 l0_0.length c0_0) := (blk_cell BK261.out 0).trans rfl
     have hcz30_1 : wr.cell? ⟨gb261, 1, none⟩ = some (.int .i64 a0_1) := (blk_cell BK261.out 1).trans rfl
     have hcz30_2 : wr.cell? ⟨gb261, 2, none⟩ = some (.bool a0_2) := (blk_cell BK261.out 2).trans rfl
     have hfz30_0 := blk_frozen BK261.out 0
     have hfz30_1 := blk_frozen BK261.out 1
     have hfz30_2 := blk_frozen BK261.out 2
     go_wp2
     go_ret
     exact ⟨eT, bT1 HB GE261⟩

end Go.Proofs.Ytoncjohnkiilcaa.P
