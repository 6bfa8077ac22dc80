/- Written by tools/seatprint.py over the translation. Lean checks it. -/
import Derived.Test.YthciieopabndcaaP0
import Derived.Test.YthciieopabndcaaPfffc0
namespace Go.Proofs.Ythciieopabndcaa.P
open Go.RowKit Go.Proofs.YthciieopabndcaaW.PrintWords Go.Proofs.YthciieopabndcaaW.PrintLast Go.Proofs.YthciieopabndcaaW.PrintMore
attribute [local go_sem] max2_int min2_int max_two min_two max_three min_three max_four min_four
set_option linter.unusedVariables false
set_option linter.unusedSimpArgs false

/-! ### laws_eqPair: function 74 -/
def laws_eqPair.f (a0_0 : Int) (a0_1 : Int) (a0_2 : Int) (a0_3 : Int) (a0_4 : Int) (a0_5 : Int) (a0_6 : Bool) (a1_0 : Int) (a1_1 : Int) (a1_2 : Int) (a1_3 : Int) (a1_4 : Int) (a1_5 : Int) (a1_6 : Bool) : Option (Bool) := (laws_eqRow.f a0_0 a0_1 a0_2 a1_0 a1_1 a1_2).bind fun t706 => (if t706 = true then ((laws_eqRow.f a0_3 a0_4 a0_5 a1_3 a1_4 a1_5).bind fun t707 => (if t707 = true then (if (a0_6 != a1_6) = true then (some false) else (some true)) else (some false))) else (some false))
set_option maxHeartbeats 8000000 in
set_option maxRecDepth 100000 in
theorem laws_eqPair.calls (a0_0 : Int) (a0_1 : Int) (a0_2 : Int) (a0_3 : Int) (a0_4 : Int) (a0_5 : Int) (a0_6 : Bool) (a1_0 : Int) (a1_1 : Int) (a1_2 : Int) (a1_3 : Int) (a1_4 : Int) (a1_5 : Int) (a1_6 : Bool) (r : Bool) (w : World) (h : laws_eqPair.f a0_0 a0_1 a0_2 a0_3 a0_4 a0_5 a0_6 a1_0 a1_1 a1_2 a1_3 a1_4 a1_5 a1_6 = some r) :
  Calls Try.prog 74 #[.agg #[.int .i64 a0_0, .int .i64 a0_1, .int .i64 a0_2, .int .i64 a0_3, .int .i64 a0_4, .int .i64 a0_5, .bool a0_6], .agg #[.int .i64 a1_0, .int .i64 a1_1, .int .i64 a1_2, .int .i64 a1_3, .int .i64 a1_4, .int .i64 a1_5, .bool a1_6]] w fun e w' => e = .returned (.bool r) ∧ Below w.heap.size w w' := by
 have hu75 := Try.underlying75
 have hu62 := Try.underlying62
 have HB := mA (Below.refl w.heap.size w)
 have H : ((laws_eqRow.f a0_0 a0_1 a0_2 a1_0 a1_1 a1_2).bind fun t706 => (if t706 = true then ((laws_eqRow.f a0_3 a0_4 a0_5 a1_3 a1_4 a1_5).bind fun t707 => (if t707 = true then (if (a0_6 != a1_6) = true then (some false) else (some true)) else (some false))) else (some false))) = some r := h
 clear h
 obtain ⟨t706, A3, H⟩ := Option.bind_eq_some_iff.mp H
 replace A3 := mA A3
 try dsimp only at H
 by_cases c4 : t706 = true
 ·
  subst c4
  rw [if_pos rfl] at H
  obtain ⟨t707, A5, H⟩ := Option.bind_eq_some_iff.mp H
  replace A5 := mA A5
  try dsimp only at H
  by_cases c6 : t707 = true
  ·
   subst c6
   rw [if_pos rfl] at H
   by_cases c7 : (a0_6 != a1_6) = true
   ·
    rw [if_pos c7] at H
    have c7b0 : (a0_6 != a1_6) = true := c7
    (try (have c7b1 : decide (a0_6 = a1_6) = false := by simpa using c7))
    (try (have c7b2 : (a0_6 == a1_6) = false := by simpa using c7))
    (try (have c7b3 : ¬ (a0_6 = a1_6) := by simpa using c7))
    clear c7
    obtain rfl := Option.some.inj H
    go_enter Try.func74, Try.ntmps74
    go_wp2_with (first | ((with_reducible refine gate_dst (N := 2) rfl ?_); refine boxT 2 #[.int .i64 a0_0, .int .i64 a0_1, .int .i64 a0_2, .int .i64 a0_3, .int .i64 a0_4, .int .i64 a0_5, .bool a0_6] 75 ?_; intro gb704 hg w8 hbox hb; have BK704 := mA (hbox); have GW704 := mA ((by rw [hg]; exact (below_size (bT HB)) : w.heap.size ≤ gb704)); have GE704 := GW704; replace HB := mA (below_step (bT HB) hb); clear hb hbox hg) | ((with_reducible refine gate_dst (N := 3) rfl ?_); refine boxT 3 #[.int .i64 a1_0, .int .i64 a1_1, .int .i64 a1_2, .int .i64 a1_3, .int .i64 a1_4, .int .i64 a1_5, .bool a1_6] 75 ?_; intro gb705 hg w9 hbox hb; have BK705 := mA (hbox); have GW705 := mA ((by rw [hg]; exact (below_size (bT1 HB GE704)) : w.heap.size ≤ gb705)); have GE705 := GW705; replace HB := mA (below_step (bT1 HB GE704) hb); have NB704_705 : Aside0 (gb704 ≠ gb705) := nL BK704 hg; have NB705_704 : Aside0 (gb705 ≠ gb704) := nG BK704 hg; replace BK704 := kB BK704 hb; clear hb hbox hg; have hnb10 := NB704_705.out; have hnc10 := NB705_704.out; obtain ⟨hcz11_0, hcz11_1, hcz11_2, hcz11_3, hcz11_4, hcz11_5, hcz11_6, hfz11_0, hfz11_1, hfz11_2, hfz11_3, hfz11_4, hfz11_5, hfz11_6⟩ := blk7 BK704.out; obtain ⟨hcz12_0, hcz12_1, hcz12_2, hcz12_3, hcz12_4, hcz12_5, hcz12_6, hfz12_0, hfz12_1, hfz12_2, hfz12_3, hfz12_4, hfz12_5, hfz12_6⟩ := blk7 BK705.out) | ((with_reducible refine gate_callee (f := 56) rfl ?_); refine goesT (some 9) Try.func56 #[.agg #[.int .i64 a0_0, .int .i64 a0_1, .int .i64 a0_2], .agg #[.int .i64 a1_0, .int .i64 a1_1, .int .i64 a1_2]] ?_; (with_reducible refine (laws_eqRow.calls a0_0 a0_1 a0_2 a1_0 a1_1 a1_2 true _ A3.out).mono ?_); rintro e w13 ⟨rfl, hb⟩; refine ⟨_, rfl, ?_⟩; replace BK704 := kB BK704 hb; replace BK705 := kB BK705 hb; replace HB := mA (below_step (bT2 HB GE704 GE705) hb); (try clear hb); obtain ⟨hcz14_0, hcz14_1, hcz14_2, hcz14_3, hcz14_4, hcz14_5, hcz14_6, hfz14_0, hfz14_1, hfz14_2, hfz14_3, hfz14_4, hfz14_5, hfz14_6⟩ := blk7 BK704.out; obtain ⟨hcz15_0, hcz15_1, hcz15_2, hcz15_3, hcz15_4, hcz15_5, hcz15_6, hfz15_0, hfz15_1, hfz15_2, hfz15_3, hfz15_4, hfz15_5, hfz15_6⟩ := blk7 BK705.out) | ((with_reducible refine gate_callee (f := 56) rfl ?_); refine goesT (some 15) Try.func56 #[.agg #[.int .i64 a0_3, .int .i64 a0_4, .int .i64 a0_5], .agg #[.int .i64 a1_3, .int .i64 a1_4, .int .i64 a1_5]] ?_; (with_reducible refine (laws_eqRow.calls a0_3 a0_4 a0_5 a1_3 a1_4 a1_5 true _ A5.out).mono ?_); rintro e w16 ⟨rfl, hb⟩; refine ⟨_, rfl, ?_⟩; replace BK704 := kB BK704 hb; replace BK705 := kB BK705 hb; replace HB := mA (below_step (bT2 HB GE704 GE705) hb); (try clear hb); obtain ⟨hcz17_0, hcz17_1, hcz17_2, hcz17_3, hcz17_4, hcz17_5, hcz17_6, hfz17_0, hfz17_1, hfz17_2, hfz17_3, hfz17_4, hfz17_5, hfz17_6⟩ := blk7 BK704.out; obtain ⟨hcz18_0, hcz18_1, hcz18_2, hcz18_3, hcz18_4, hcz18_5, hcz18_6, hfz18_0, hfz18_1, hfz18_2, hfz18_3, hfz18_4, hfz18_5, hfz18_6⟩ := blk7 BK705.out))
    go_ret
    exact ⟨eT, bT2 HB GE704 GE705⟩
   ·
    rw [if_neg c7] at H
    have c7b0 : (a0_6 != a1_6) = false := by simpa using c7
    (try (have c7b1 : decide (a0_6 = a1_6) = true := by simpa using c7))
    (try (have c7b2 : (a0_6 == a1_6) = true := by simpa using c7))
    clear c7
    obtain rfl := Option.some.inj H
    go_enter Try.func74, Try.ntmps74
    go_wp2_with (first | ((with_reducible refine gate_dst (N := 2) rfl ?_); refine boxT 2 #[.int .i64 a0_0, .int .i64 a0_1, .int .i64 a0_2, .int .i64 a0_3, .int .i64 a0_4, .int .i64 a0_5, .bool a0_6] 75 ?_; intro gb704 hg w19 hbox hb; have BK704 := mA (hbox); have GW704 := mA ((by rw [hg]; exact (below_size (bT HB)) : w.heap.size ≤ gb704)); have GE704 := GW704; replace HB := mA (below_step (bT HB) hb); clear hb hbox hg) | ((with_reducible refine gate_dst (N := 3) rfl ?_); refine boxT 3 #[.int .i64 a1_0, .int .i64 a1_1, .int .i64 a1_2, .int .i64 a1_3, .int .i64 a1_4, .int .i64 a1_5, .bool a1_6] 75 ?_; intro gb705 hg w20 hbox hb; have BK705 := mA (hbox); have GW705 := mA ((by rw [hg]; exact (below_size (bT1 HB GE704)) : w.heap.size ≤ gb705)); have GE705 := GW705; replace HB := mA (below_step (bT1 HB GE704) hb); have NB704_705 : Aside0 (gb704 ≠ gb705) := nL BK704 hg; have NB705_704 : Aside0 (gb705 ≠ gb704) := nG BK704 hg; replace BK704 := kB BK704 hb; clear hb hbox hg; have hnb21 := NB704_705.out; have hnc21 := NB705_704.out; obtain ⟨hcz22_0, hcz22_1, hcz22_2, hcz22_3, hcz22_4, hcz22_5, hcz22_6, hfz22_0, hfz22_1, hfz22_2, hfz22_3, hfz22_4, hfz22_5, hfz22_6⟩ := blk7 BK704.out; obtain ⟨hcz23_0, hcz23_1, hcz23_2, hcz23_3, hcz23_4, hcz23_5, hcz23_6, hfz23_0, hfz23_1, hfz23_2, hfz23_3, hfz23_4, hfz23_5, hfz23_6⟩ := blk7 BK705.out) | ((with_reducible refine gate_callee (f := 56) rfl ?_); refine goesT (some 9) Try.func56 #[.agg #[.int .i64 a0_0, .int .i64 a0_1, .int .i64 a0_2], .agg #[.int .i64 a1_0, .int .i64 a1_1, .int .i64 a1_2]] ?_; (with_reducible refine (laws_eqRow.calls a0_0 a0_1 a0_2 a1_0 a1_1 a1_2 true _ A3.out).mono ?_); rintro e w24 ⟨rfl, hb⟩; refine ⟨_, rfl, ?_⟩; replace BK704 := kB BK704 hb; replace BK705 := kB BK705 hb; replace HB := mA (below_step (bT2 HB GE704 GE705) hb); (try clear hb); obtain ⟨hcz25_0, hcz25_1, hcz25_2, hcz25_3, hcz25_4, hcz25_5, hcz25_6, hfz25_0, hfz25_1, hfz25_2, hfz25_3, hfz25_4, hfz25_5, hfz25_6⟩ := blk7 BK704.out; obtain ⟨hcz26_0, hcz26_1, hcz26_2, hcz26_3, hcz26_4, hcz26_5, hcz26_6, hfz26_0, hfz26_1, hfz26_2, hfz26_3, hfz26_4, hfz26_5, hfz26_6⟩ := blk7 BK705.out) | ((with_reducible refine gate_callee (f := 56) rfl ?_); refine goesT (some 15) Try.func56 #[.agg #[.int .i64 a0_3, .int .i64 a0_4, .int .i64 a0_5], .agg #[.int .i64 a1_3, .int .i64 a1_4, .int .i64 a1_5]] ?_; (with_reducible refine (laws_eqRow.calls a0_3 a0_4 a0_5 a1_3 a1_4 a1_5 true _ A5.out).mono ?_); rintro e w27 ⟨rfl, hb⟩; refine ⟨_, rfl, ?_⟩; replace BK704 := kB BK704 hb; replace BK705 := kB BK705 hb; replace HB := mA (below_step (bT2 HB GE704 GE705) hb); (try clear hb); obtain ⟨hcz28_0, hcz28_1, hcz28_2, hcz28_3, hcz28_4, hcz28_5, hcz28_6, hfz28_0, hfz28_1, hfz28_2, hfz28_3, hfz28_4, hfz28_5, hfz28_6⟩ := blk7 BK704.out; obtain ⟨hcz29_0, hcz29_1, hcz29_2, hcz29_3, hcz29_4, hcz29_5, hcz29_6, hfz29_0, hfz29_1, hfz29_2, hfz29_3, hfz29_4, hfz29_5, hfz29_6⟩ := blk7 BK705.out))
    go_ret
    exact ⟨eT, bT2 HB GE704 GE705⟩
  ·
   replace c6 := Bool.eq_false_iff.mpr c6
   subst c6
   rw [if_neg (show ¬ (false = true) by decide)] at H
   obtain rfl := Option.some.inj H
   go_enter Try.func74, Try.ntmps74
   go_wp2_with (first | ((with_reducible refine gate_dst (N := 2) rfl ?_); refine boxT 2 #[.int .i64 a0_0, .int .i64 a0_1, .int .i64 a0_2, .int .i64 a0_3, .int .i64 a0_4, .int .i64 a0_5, .bool a0_6] 75 ?_; intro gb704 hg w30 hbox hb; have BK704 := mA (hbox); have GW704 := mA ((by rw [hg]; exact (below_size (bT HB)) : w.heap.size ≤ gb704)); have GE704 := GW704; replace HB := mA (below_step (bT HB) hb); clear hb hbox hg) | ((with_reducible refine gate_dst (N := 3) rfl ?_); refine boxT 3 #[.int .i64 a1_0, .int .i64 a1_1, .int .i64 a1_2, .int .i64 a1_3, .int .i64 a1_4, .int .i64 a1_5, .bool a1_6] 75 ?_; intro gb705 hg w31 hbox hb; have BK705 := mA (hbox); have GW705 := mA ((by rw [hg]; exact (below_size (bT1 HB GE704)) : w.heap.size ≤ gb705)); have GE705 := GW705; replace HB := mA (below_step (bT1 HB GE704) hb); have NB704_705 : Aside0 (gb704 ≠ gb705) := nL BK704 hg; have NB705_704 : Aside0 (gb705 ≠ gb704) := nG BK704 hg; replace BK704 := kB BK704 hb; clear hb hbox hg; have hnb32 := NB704_705.out; have hnc32 := NB705_704.out; obtain ⟨hcz33_0, hcz33_1, hcz33_2, hcz33_3, hcz33_4, hcz33_5, hcz33_6, hfz33_0, hfz33_1, hfz33_2, hfz33_3, hfz33_4, hfz33_5, hfz33_6⟩ := blk7 BK704.out; obtain ⟨hcz34_0, hcz34_1, hcz34_2, hcz34_3, hcz34_4, hcz34_5, hcz34_6, hfz34_0, hfz34_1, hfz34_2, hfz34_3, hfz34_4, hfz34_5, hfz34_6⟩ := blk7 BK705.out) | ((with_reducible refine gate_callee (f := 56) rfl ?_); refine goesT (some 9) Try.func56 #[.agg #[.int .i64 a0_0, .int .i64 a0_1, .int .i64 a0_2], .agg #[.int .i64 a1_0, .int .i64 a1_1, .int .i64 a1_2]] ?_; (with_reducible refine (laws_eqRow.calls a0_0 a0_1 a0_2 a1_0 a1_1 a1_2 true _ A3.out).mono ?_); rintro e w35 ⟨rfl, hb⟩; refine ⟨_, rfl, ?_⟩; replace BK704 := kB BK704 hb; replace BK705 := kB BK705 hb; replace HB := mA (below_step (bT2 HB GE704 GE705) hb); (try clear hb); obtain ⟨hcz36_0, hcz36_1, hcz36_2, hcz36_3, hcz36_4, hcz36_5, hcz36_6, hfz36_0, hfz36_1, hfz36_2, hfz36_3, hfz36_4, hfz36_5, hfz36_6⟩ := blk7 BK704.out; obtain ⟨hcz37_0, hcz37_1, hcz37_2, hcz37_3, hcz37_4, hcz37_5, hcz37_6, hfz37_0, hfz37_1, hfz37_2, hfz37_3, hfz37_4, hfz37_5, hfz37_6⟩ := blk7 BK705.out) | ((with_reducible refine gate_callee (f := 56) rfl ?_); refine goesT (some 15) Try.func56 #[.agg #[.int .i64 a0_3, .int .i64 a0_4, .int .i64 a0_5], .agg #[.int .i64 a1_3, .int .i64 a1_4, .int .i64 a1_5]] ?_; (with_reducible refine (laws_eqRow.calls a0_3 a0_4 a0_5 a1_3 a1_4 a1_5 false _ A5.out).mono ?_); rintro e w38 ⟨rfl, hb⟩; refine ⟨_, rfl, ?_⟩; replace HB := mA (below_step (bT2 HB GE704 GE705) hb); (try clear hb)))
   go_ret
   exact ⟨eT, bT2 HB GE704 GE705⟩
 ·
  replace c4 := Bool.eq_false_iff.mpr c4
  subst c4
  rw [if_neg (show ¬ (false = true) by decide)] at H
  obtain rfl := Option.some.inj H
  go_enter Try.func74, Try.ntmps74
  go_wp2_with (first | ((with_reducible refine gate_dst (N := 2) rfl ?_); refine boxT 2 #[.int .i64 a0_0, .int .i64 a0_1, .int .i64 a0_2, .int .i64 a0_3, .int .i64 a0_4, .int .i64 a0_5, .bool a0_6] 75 ?_; intro gb704 hg w39 hbox hb; have BK704 := mA (hbox); have GW704 := mA ((by rw [hg]; exact (below_size (bT HB)) : w.heap.size ≤ gb704)); have GE704 := GW704; replace HB := mA (below_step (bT HB) hb); clear hb hbox hg) | ((with_reducible refine gate_dst (N := 3) rfl ?_); refine boxT 3 #[.int .i64 a1_0, .int .i64 a1_1, .int .i64 a1_2, .int .i64 a1_3, .int .i64 a1_4, .int .i64 a1_5, .bool a1_6] 75 ?_; intro gb705 hg w40 hbox hb; have BK705 := mA (hbox); have GW705 := mA ((by rw [hg]; exact (below_size (bT1 HB GE704)) : w.heap.size ≤ gb705)); have GE705 := GW705; replace HB := mA (below_step (bT1 HB GE704) hb); have NB704_705 : Aside0 (gb704 ≠ gb705) := nL BK704 hg; have NB705_704 : Aside0 (gb705 ≠ gb704) := nG BK704 hg; replace BK704 := kB BK704 hb; clear hb hbox hg; have hnb41 := NB704_705.out; have hnc41 := NB705_704.out; obtain ⟨hcz42_0, hcz42_1, hcz42_2, hcz42_3, hcz42_4, hcz42_5, hcz42_6, hfz42_0, hfz42_1, hfz42_2, hfz42_3, hfz42_4, hfz42_5, hfz42_6⟩ := blk7 BK704.out; obtain ⟨hcz43_0, hcz43_1, hcz43_2, hcz43_3, hcz43_4, hcz43_5, hcz43_6, hfz43_0, hfz43_1, hfz43_2, hfz43_3, hfz43_4, hfz43_5, hfz43_6⟩ := blk7 BK705.out) | ((with_reducible refine gate_callee (f := 56) rfl ?_); refine goesT (some 9) Try.func56 #[.agg #[.int .i64 a0_0, .int .i64 a0_1, .int .i64 a0_2], .agg #[.int .i64 a1_0, .int .i64 a1_1, .int .i64 a1_2]] ?_; (with_reducible refine (laws_eqRow.calls a0_0 a0_1 a0_2 a1_0 a1_1 a1_2 false _ A3.out).mono ?_); rintro e w44 ⟨rfl, hb⟩; refine ⟨_, rfl, ?_⟩; replace HB := mA (below_step (bT2 HB GE704 GE705) hb); (try clear hb)))
  go_ret
  exact ⟨eT, bT2 HB GE704 GE705⟩

/-! ### laws_eqPairS: function 41 -/
def laws_eqPairS.l0 : Nat → List (S75) → List (S75) → Int → Option (Bool)
 | 0, _, _, _ => none
 | k + 1, x0, x1, x5 => if x5 < (x0.length : Int) then (if 0 ≤ x5 then (if x5 < (x1.length : Int) then ((laws_eqPair.f ((rd_T75 x0 x5).f0.f0) ((rd_T75 x0 x5).f0.f1) ((rd_T75 x0 x5).f0.f2) ((rd_T75 x0 x5).f1.f0) ((rd_T75 x0 x5).f1.f1) ((rd_T75 x0 x5).f1.f2) ((rd_T75 x0 x5).f2) ((rd_T75 x1 x5).f0.f0) ((rd_T75 x1 x5).f0.f1) ((rd_T75 x1 x5).f0.f2) ((rd_T75 x1 x5).f1.f0) ((rd_T75 x1 x5).f1.f1) ((rd_T75 x1 x5).f1.f2) ((rd_T75 x1 x5).f2)).bind fun t710 => (if t710 = true then (laws_eqPairS.l0 k x0 x1 (wrap64 (x5 + 1))) else (some false))) else (none)) else (none)) else (some true)
def laws_eqPairS.f (k : Nat) (l0 : List (S75)) (l1 : List (S75)) : Option (Bool) := if (l0.length : Int) = (l1.length : Int) then (laws_eqPairS.l0 k l0 l1 0) else (some false)
theorem laws_eqPairS.mono_l : ∀ k, (∀ y0 y1 y2, LeO (laws_eqPairS.l0 k y0 y1 y2) (laws_eqPairS.l0 (k + 1) y0 y1 y2))
 | 0 => fun _ _ _ r h => by simp [laws_eqPairS.l0] at h
 | k + 1 => by
  have ih0 := laws_eqPairS.mono_l k
  ·
   intro y0 y1 y2
   unfold laws_eqPairS.l0
   repeat' first
   | (with_reducible exact ih0 _ _ _)
   | (with_reducible exact LeO.refl _)
   | (with_reducible exact LeO.none _)
   | (with_reducible refine LeO.ite ?_ ?_)
   | (with_reducible refine LeO.bind ?_ (fun _ => ?_))
   | exact ih0 _ _ _
   | exact LeO.none _
   | refine LeO.ite ?_ ?_
   | refine LeO.bind ?_ (fun _ => ?_)
theorem laws_eqPairS.mono : ∀ a0 a1 k, LeO (laws_eqPairS.f k a0 a1) (laws_eqPairS.f (k + 1) a0 a1) := by
 intro a0 a1 k
 have ih0 := laws_eqPairS.mono_l k
 unfold laws_eqPairS.f
 repeat' first
   | (with_reducible exact ih0 _ _ _)
   | (with_reducible exact LeO.refl _)
   | (with_reducible exact LeO.none _)
   | (with_reducible refine LeO.ite ?_ ?_)
   | (with_reducible refine LeO.bind ?_ (fun _ => ?_))
   | exact ih0 _ _ _
   | exact LeO.none _
   | refine LeO.ite ?_ ?_
   | refine LeO.bind ?_ (fun _ => ?_)
def laws_eqPairS.T6 : Bool × List (List Nat × List Nat) := (true, [([], []), ([], []), ([0, 1], [0, 1]), ([2], [2]), ([], []), ([], []), ([4, 5], [4, 5]), ([6], [6]), ([3, 7], [3, 7]), ([8], [8])])
def laws_eqPairS.B6 : List Nat := [0, 0, 3, 7, 0, 0, 48, 112, 255, 511]
theorem laws_eqPairS.tab6 : rtab .any (opsOf Try.f41 6) = laws_eqPairS.T6 := by kernel_rfl
theorem laws_eqPairS.bits6 : waitsOk laws_eqPairS.T6.2 laws_eqPairS.B6 = true := by kernel_rfl
set_option maxHeartbeats 8000000 in
set_option maxRecDepth 100000 in
theorem laws_eqPairS.calls (k : Nat) (A0 : Option Addr) (c0 : Nat) (l0 : List (S75)) (A1 : Option Addr) (c1 : Nat) (l1 : List (S75)) (r : Bool) (w : World) (hr0 : Kd.C k75 w A0 l0.length l0) (hc0 : l0.length ≤ c0) (hr1 : Kd.C k75 w A1 l1.length l1) (hc1 : l1.length ≤ c1) (h : laws_eqPairS.f k l0 l1 = some r) :
  Calls Try.prog 41 #[.slice A0 l0.length c0, .slice A1 l1.length c1] w fun e w' => e = .returned (.bool r) ∧ Below w.heap.size w w' := by
 have hu75 := Try.underlying75
 have HR0 := mA hr0
 have HC0 := mA hc0
 clear hr0 hc0
 have HR1 := mA hr1
 have HC1 := mA hc1
 clear hr1 hc1
 have HB := mA (Below.refl w.heap.size w)
 have H : (if (l0.length : Int) = (l1.length : Int) then (laws_eqPairS.l0 k l0 l1 0) else (some false)) = some r := h
 clear h
 by_cases c3 : (l0.length : Int) = (l1.length : Int)
 ·
  rw [if_pos c3] at H
  have c3b0 : ((l0.length : Int) == (l1.length : Int)) = true := beq_iff_eq.mpr c3
  have c3b1 : ((l0.length : Int) != (l1.length : Int)) = false := bne_eq_false_iff_eq.mpr c3
  have c3b2 : (l0.length == l1.length) = true := by first | simpa using c3 | (simp at c3 ⊢; omega)
  clear c3
  have H' := mA H
  clear H
  go_enter Try.func41, Try.ntmps41
  go_wp2
  go_loopg [5] k (fun kq v5 w' => ∃ (x5_1 : Int), v5 = .int .i64 x5_1 ∧ Aside0 (laws_eqPairS.l0 kq l0 l1 x5_1 = some r) ∧ Aside0 (kq ≤ k) ∧ Aside0 (Below w.heap.size w w'))
  case atStart => exact ⟨(0), sT, H', ⟨Nat.le_refl _⟩, ⟨bT HB⟩⟩
  case round =>
   clear H'
   try clear c1
   try clear p2
   try clear c3
   try clear c3b0
   try clear c3b1
   try clear c3b2
   obtain ⟨x5_1, rfl, HA, HK1, HB⟩ := hrel
   cases gk with
   | zero => exact absurd HA.out (by simp [laws_eqPairS.l0])
   | succ k1 =>
    have H := HA.out
    clear HA
    simp only [laws_eqPairS.l0] at H
    by_cases c4 : x5_1 < (l0.length : Int)
    ·
     rw [if_pos c4] at H
     have c4b0 : decide (x5_1 < (l0.length : Int)) = true := decide_eq_true c4
     clear c4
     by_cases c5 : 0 ≤ x5_1
     ·
      rw [if_pos c5] at H
      have c5b0 : decide (0 ≤ x5_1) = true := decide_eq_true c5
      clear c5
      by_cases c6 : x5_1 < (l1.length : Int)
      ·
       rw [if_pos c6] at H
       have c6b0 : decide (x5_1 < (l1.length : Int)) = true := decide_eq_true c6
       clear c6
       obtain ⟨t710, A7, H⟩ := Option.bind_eq_some_iff.mp H
       replace A7 := mA A7
       try dsimp only at H
       by_cases c8 : t710 = true
       ·
        subst c8
        rw [if_pos rfl] at H
        have H' := mA H
        clear H
        try go_wp2
        replace HB := mA (below_drew1 HB.out)
        have p708 : 0 ≤ (x5_1 : Int) := of_decide_eq_true aT
        have q708 : x5_1 < (l0.length : Int) := of_decide_eq_true aT
        obtain ⟨ad708, e708, hx708_0, hx708_1, hx708_2, hx708_3, hx708_4, hx708_5, hx708_6⟩ := at_T75 HR0.out x5_1 p708 q708
        have hw708_6 := hx708_6
        have hw708_5 := hx708_5
        have hw708_4 := hx708_4
        have hw708_3 := hx708_3
        have hw708_2 := hx708_2
        have hw708_1 := hx708_1
        have hw708_0 := hx708_0
        cases e708
        replace hx708_0 := (HB.out.cell (World.block_lt_of_cell? w _ hx708_0)).trans hx708_0
        replace hx708_1 := (HB.out.cell (World.block_lt_of_cell? w _ hx708_1)).trans hx708_1
        replace hx708_2 := (HB.out.cell (World.block_lt_of_cell? w _ hx708_2)).trans hx708_2
        replace hx708_3 := (HB.out.cell (World.block_lt_of_cell? w _ hx708_3)).trans hx708_3
        replace hx708_4 := (HB.out.cell (World.block_lt_of_cell? w _ hx708_4)).trans hx708_4
        replace hx708_5 := (HB.out.cell (World.block_lt_of_cell? w _ hx708_5)).trans hx708_5
        replace hx708_6 := (HB.out.cell (World.block_lt_of_cell? w _ hx708_6)).trans hx708_6
        replace p708 := eq_true p708
        replace q708 := eq_true q708
        have p709 : 0 ≤ (x5_1 : Int) := of_decide_eq_true aT
        have q709 : x5_1 < (l1.length : Int) := of_decide_eq_true aT
        obtain ⟨ad709, e709, hx709_0, hx709_1, hx709_2, hx709_3, hx709_4, hx709_5, hx709_6⟩ := at_T75 HR1.out x5_1 p709 q709
        have hw709_6 := hx709_6
        have hw709_5 := hx709_5
        have hw709_4 := hx709_4
        have hw709_3 := hx709_3
        have hw709_2 := hx709_2
        have hw709_1 := hx709_1
        have hw709_0 := hx709_0
        cases e709
        replace hx709_0 := (HB.out.cell (World.block_lt_of_cell? w _ hx709_0)).trans hx709_0
        replace hx709_1 := (HB.out.cell (World.block_lt_of_cell? w _ hx709_1)).trans hx709_1
        replace hx709_2 := (HB.out.cell (World.block_lt_of_cell? w _ hx709_2)).trans hx709_2
        replace hx709_3 := (HB.out.cell (World.block_lt_of_cell? w _ hx709_3)).trans hx709_3
        replace hx709_4 := (HB.out.cell (World.block_lt_of_cell? w _ hx709_4)).trans hx709_4
        replace hx709_5 := (HB.out.cell (World.block_lt_of_cell? w _ hx709_5)).trans hx709_5
        replace hx709_6 := (HB.out.cell (World.block_lt_of_cell? w _ hx709_6)).trans hx709_6
        replace p709 := eq_true p709
        replace q709 := eq_true q709
        refine start_ (n := 10) (S := fun w' => w'.cell? (ad708.add ((x5_1).toNat * 7)) = some (.int .i64 ((rd_T75 l0 x5_1).f0.f0)) ∧ w'.cell? ⟨(ad708.add ((x5_1).toNat * 7)).block, (ad708.add ((x5_1).toNat * 7)).off + 1, none⟩ = some (.int .i64 ((rd_T75 l0 x5_1).f0.f1)) ∧ w'.cell? ⟨(ad708.add ((x5_1).toNat * 7)).block, (ad708.add ((x5_1).toNat * 7)).off + 2, none⟩ = some (.int .i64 ((rd_T75 l0 x5_1).f0.f2)) ∧ w'.cell? ⟨(ad708.add ((x5_1).toNat * 7)).block, (ad708.add ((x5_1).toNat * 7)).off + 3, none⟩ = some (.int .i64 ((rd_T75 l0 x5_1).f1.f0)) ∧ w'.cell? ⟨(ad708.add ((x5_1).toNat * 7)).block, (ad708.add ((x5_1).toNat * 7)).off + 4, none⟩ = some (.int .i64 ((rd_T75 l0 x5_1).f1.f1)) ∧ w'.cell? ⟨(ad708.add ((x5_1).toNat * 7)).block, (ad708.add ((x5_1).toNat * 7)).off + 5, none⟩ = some (.int .i64 ((rd_T75 l0 x5_1).f1.f2)) ∧ w'.cell? ⟨(ad708.add ((x5_1).toNat * 7)).block, (ad708.add ((x5_1).toNat * 7)).off + 6, none⟩ = some (.bool ((rd_T75 l0 x5_1).f2)) ∧ w'.cell? (ad709.add ((x5_1).toNat * 7)) = some (.int .i64 ((rd_T75 l1 x5_1).f0.f0)) ∧ w'.cell? ⟨(ad709.add ((x5_1).toNat * 7)).block, (ad709.add ((x5_1).toNat * 7)).off + 1, none⟩ = some (.int .i64 ((rd_T75 l1 x5_1).f0.f1)) ∧ w'.cell? ⟨(ad709.add ((x5_1).toNat * 7)).block, (ad709.add ((x5_1).toNat * 7)).off + 2, none⟩ = some (.int .i64 ((rd_T75 l1 x5_1).f0.f2)) ∧ w'.cell? ⟨(ad709.add ((x5_1).toNat * 7)).block, (ad709.add ((x5_1).toNat * 7)).off + 3, none⟩ = some (.int .i64 ((rd_T75 l1 x5_1).f1.f0)) ∧ w'.cell? ⟨(ad709.add ((x5_1).toNat * 7)).block, (ad709.add ((x5_1).toNat * 7)).off + 4, none⟩ = some (.int .i64 ((rd_T75 l1 x5_1).f1.f1)) ∧ w'.cell? ⟨(ad709.add ((x5_1).toNat * 7)).block, (ad709.add ((x5_1).toNat * 7)).off + 5, none⟩ = some (.int .i64 ((rd_T75 l1 x5_1).f1.f2)) ∧ w'.cell? ⟨(ad709.add ((x5_1).toNat * 7)).block, (ad709.add ((x5_1).toNat * 7)).off + 6, none⟩ = some (.bool ((rd_T75 l1 x5_1).f2))) (ds := []) #[false, false, false, false, false, false, false, false, false, false] (by kernel_rfl) rfl rfl ⟨((HB.out.cell (World.block_lt_of_cell? w _ hw708_0)).trans hw708_0), ((HB.out.cell (World.block_lt_of_cell? w _ hw708_1)).trans hw708_1), ((HB.out.cell (World.block_lt_of_cell? w _ hw708_2)).trans hw708_2), ((HB.out.cell (World.block_lt_of_cell? w _ hw708_3)).trans hw708_3), ((HB.out.cell (World.block_lt_of_cell? w _ hw708_4)).trans hw708_4), ((HB.out.cell (World.block_lt_of_cell? w _ hw708_5)).trans hw708_5), ((HB.out.cell (World.block_lt_of_cell? w _ hw708_6)).trans hw708_6), ((HB.out.cell (World.block_lt_of_cell? w _ hw709_0)).trans hw709_0), ((HB.out.cell (World.block_lt_of_cell? w _ hw709_1)).trans hw709_1), ((HB.out.cell (World.block_lt_of_cell? w _ hw709_2)).trans hw709_2), ((HB.out.cell (World.block_lt_of_cell? w _ hw709_3)).trans hw709_3), ((HB.out.cell (World.block_lt_of_cell? w _ hw709_4)).trans hw709_4), ((HB.out.cell (World.block_lt_of_cell? w _ hw709_5)).trans hw709_5), ((HB.out.cell (World.block_lt_of_cell? w _ hw709_6)).trans hw709_6)⟩ (fun hHeld => ?_); refine with_tabW laws_eqPairS.tab6 laws_eqPairS.bits6 (fun HT_ HW_ => ?_)
        generalize wr.drew = w9 at HB hx708_0 hx708_1 hx708_2 hx708_3 hx708_4 hx708_5 hx708_6 hx709_0 hx709_1 hx709_2 hx709_3 hx709_4 hx709_5 hx709_6 hHeld ⊢
        refine pureT (i := 0) (N := some 17) #[true, false, false, false, false, false, false, false, false, false] (any_of HT_.out (by kernel_rfl)) ?_
        refine pureT (i := 1) (N := some 18) #[true, true, false, false, false, false, false, false, false, false] (any_of HT_.out (by kernel_rfl)) ?_
        refine pureT (i := 2) (N := some 19) #[true, true, true, false, false, false, false, false, false, false] (any_of HT_.out (by kernel_rfl)) ?_
        refine pureT (i := 4) (N := some 21) #[true, true, true, false, true, false, false, false, false, false] (any_of HT_.out (by kernel_rfl)) ?_
        refine pureT (i := 5) (N := some 22) #[true, true, true, false, true, true, false, false, false, false] (any_of HT_.out (by kernel_rfl)) ?_
        refine pureT (i := 6) (N := some 23) #[true, true, true, false, true, true, true, false, false, false] (any_of HT_.out (by kernel_rfl)) ?_
        refine take_ (i := 3) (N := some 20) (v := ?_) (a' := ?_) #[true, true, true, true, true, true, true, false, false, false] rfl rfl (take_ofW HT_.out HW_.out (by kernel_rfl)) (fun _ _ _ h => h) (Or.inl ⟨by rfl, ?_⟩) hHeld ?_ ?_
        rotate_left
        ·
         rintro w' ⟨s0, s1, s2, s3, s4, s5, s6, s7, s8, s9, s10, s11, s12, s13⟩
         go_simp
         with_reducible rfl
        rotate_left
        ·
         simp only [Act.put, List.setIfInBounds_toArray, List.set_cons_zero, List.set_cons_succ, i64_w, i32_w]
         rfl
        refine take_ (i := 7) (N := some 24) (v := ?_) (a' := ?_) #[true, true, true, true, true, true, true, true, false, false] rfl rfl (take_ofW HT_.out HW_.out (by kernel_rfl)) (fun _ _ _ h => h) (Or.inl ⟨by rfl, ?_⟩) hHeld ?_ ?_
        rotate_left
        ·
         rintro w' ⟨s0, s1, s2, s3, s4, s5, s6, s7, s8, s9, s10, s11, s12, s13⟩
         go_simp
         with_reducible rfl
        rotate_left
        ·
         simp only [Act.put, List.setIfInBounds_toArray, List.set_cons_zero, List.set_cons_succ, i64_w, i32_w]
         rfl
        refine one_ (i := 8) (N := some 25) #[true, true, true, true, true, true, true, true, true, false] rfl rfl (one_of HT_.out (by kernel_rfl)) (by decide) (fun K hK => ?_)
        refine goes_ Try.func74 (by kernel_rfl) rfl #[.agg #[.int .i64 ((rd_T75 l0 x5_1).f0.f0), .int .i64 ((rd_T75 l0 x5_1).f0.f1), .int .i64 ((rd_T75 l0 x5_1).f0.f2), .int .i64 ((rd_T75 l0 x5_1).f1.f0), .int .i64 ((rd_T75 l0 x5_1).f1.f1), .int .i64 ((rd_T75 l0 x5_1).f1.f2), .bool ((rd_T75 l0 x5_1).f2)], .agg #[.int .i64 ((rd_T75 l1 x5_1).f0.f0), .int .i64 ((rd_T75 l1 x5_1).f0.f1), .int .i64 ((rd_T75 l1 x5_1).f0.f2), .int .i64 ((rd_T75 l1 x5_1).f1.f0), .int .i64 ((rd_T75 l1 x5_1).f1.f1), .int .i64 ((rd_T75 l1 x5_1).f1.f2), .bool ((rd_T75 l1 x5_1).f2)]] (by rfl) rfl rfl mT ?_
        with_reducible refine (laws_eqPair.calls ((rd_T75 l0 x5_1).f0.f0) ((rd_T75 l0 x5_1).f0.f1) ((rd_T75 l0 x5_1).f0.f2) ((rd_T75 l0 x5_1).f1.f0) ((rd_T75 l0 x5_1).f1.f1) ((rd_T75 l0 x5_1).f1.f2) ((rd_T75 l0 x5_1).f2) ((rd_T75 l1 x5_1).f0.f0) ((rd_T75 l1 x5_1).f0.f1) ((rd_T75 l1 x5_1).f0.f2) ((rd_T75 l1 x5_1).f1.f0) ((rd_T75 l1 x5_1).f1.f1) ((rd_T75 l1 x5_1).f1.f2) ((rd_T75 l1 x5_1).f2) true _ A7.out).mono ?_
        rintro e w10 ⟨rfl, hb⟩
        refine ⟨_, rfl, ?_⟩
        replace HB := mA (below_step (bT HB) hb)
        (try clear hb)
        (try clear hb2)
        (try clear hk)
        (try clear hi)
        refine hK.out _ _ ⟨((HB.out.cell (World.block_lt_of_cell? w _ hw708_0)).trans hw708_0), ((HB.out.cell (World.block_lt_of_cell? w _ hw708_1)).trans hw708_1), ((HB.out.cell (World.block_lt_of_cell? w _ hw708_2)).trans hw708_2), ((HB.out.cell (World.block_lt_of_cell? w _ hw708_3)).trans hw708_3), ((HB.out.cell (World.block_lt_of_cell? w _ hw708_4)).trans hw708_4), ((HB.out.cell (World.block_lt_of_cell? w _ hw708_5)).trans hw708_5), ((HB.out.cell (World.block_lt_of_cell? w _ hw708_6)).trans hw708_6), ((HB.out.cell (World.block_lt_of_cell? w _ hw709_0)).trans hw709_0), ((HB.out.cell (World.block_lt_of_cell? w _ hw709_1)).trans hw709_1), ((HB.out.cell (World.block_lt_of_cell? w _ hw709_2)).trans hw709_2), ((HB.out.cell (World.block_lt_of_cell? w _ hw709_3)).trans hw709_3), ((HB.out.cell (World.block_lt_of_cell? w _ hw709_4)).trans hw709_4), ((HB.out.cell (World.block_lt_of_cell? w _ hw709_5)).trans hw709_5), ((HB.out.cell (World.block_lt_of_cell? w _ hw709_6)).trans hw709_6)⟩ (fun hHeld => ?_)
        clear hK K
        refine norm_ (a' := ?_) ?_ ?_
        rotate_left
        ·
         show Act.put _ (some 25) _ = _
         simp only [Act.put, List.setIfInBounds_toArray, List.set_cons_zero, List.set_cons_succ, i64_w, i32_w]
         rfl
        refine pureT (i := 9) (N := some 26) #[true, true, true, true, true, true, true, true, true, true] (any_of HT_.out (by kernel_rfl)) ?_
        refine done_ (done_of HT_.out (by kernel_rfl)) ?_
        try go_wp2
        go_roundg k1
        case measure => have := HK1.out; omega
        case rel => exact ⟨(wrap64 (x5_1 + 1)), sT, H', ⟨by have := HK1.out; omega⟩, ⟨bT HB⟩⟩
       ·
        replace c8 := Bool.eq_false_iff.mpr c8
        subst c8
        rw [if_neg (show ¬ (false = true) by decide)] at H
        obtain rfl := Option.some.inj H
        try go_wp2
        replace HB := mA (below_drew1 HB.out)
        have p708 : 0 ≤ (x5_1 : Int) := of_decide_eq_true aT
        have q708 : x5_1 < (l0.length : Int) := of_decide_eq_true aT
        obtain ⟨ad708, e708, hx708_0, hx708_1, hx708_2, hx708_3, hx708_4, hx708_5, hx708_6⟩ := at_T75 HR0.out x5_1 p708 q708
        have hw708_6 := hx708_6
        have hw708_5 := hx708_5
        have hw708_4 := hx708_4
        have hw708_3 := hx708_3
        have hw708_2 := hx708_2
        have hw708_1 := hx708_1
        have hw708_0 := hx708_0
        cases e708
        replace hx708_0 := (HB.out.cell (World.block_lt_of_cell? w _ hx708_0)).trans hx708_0
        replace hx708_1 := (HB.out.cell (World.block_lt_of_cell? w _ hx708_1)).trans hx708_1
        replace hx708_2 := (HB.out.cell (World.block_lt_of_cell? w _ hx708_2)).trans hx708_2
        replace hx708_3 := (HB.out.cell (World.block_lt_of_cell? w _ hx708_3)).trans hx708_3
        replace hx708_4 := (HB.out.cell (World.block_lt_of_cell? w _ hx708_4)).trans hx708_4
        replace hx708_5 := (HB.out.cell (World.block_lt_of_cell? w _ hx708_5)).trans hx708_5
        replace hx708_6 := (HB.out.cell (World.block_lt_of_cell? w _ hx708_6)).trans hx708_6
        replace p708 := eq_true p708
        replace q708 := eq_true q708
        have p709 : 0 ≤ (x5_1 : Int) := of_decide_eq_true aT
        have q709 : x5_1 < (l1.length : Int) := of_decide_eq_true aT
        obtain ⟨ad709, e709, hx709_0, hx709_1, hx709_2, hx709_3, hx709_4, hx709_5, hx709_6⟩ := at_T75 HR1.out x5_1 p709 q709
        have hw709_6 := hx709_6
        have hw709_5 := hx709_5
        have hw709_4 := hx709_4
        have hw709_3 := hx709_3
        have hw709_2 := hx709_2
        have hw709_1 := hx709_1
        have hw709_0 := hx709_0
        cases e709
        replace hx709_0 := (HB.out.cell (World.block_lt_of_cell? w _ hx709_0)).trans hx709_0
        replace hx709_1 := (HB.out.cell (World.block_lt_of_cell? w _ hx709_1)).trans hx709_1
        replace hx709_2 := (HB.out.cell (World.block_lt_of_cell? w _ hx709_2)).trans hx709_2
        replace hx709_3 := (HB.out.cell (World.block_lt_of_cell? w _ hx709_3)).trans hx709_3
        replace hx709_4 := (HB.out.cell (World.block_lt_of_cell? w _ hx709_4)).trans hx709_4
        replace hx709_5 := (HB.out.cell (World.block_lt_of_cell? w _ hx709_5)).trans hx709_5
        replace hx709_6 := (HB.out.cell (World.block_lt_of_cell? w _ hx709_6)).trans hx709_6
        replace p709 := eq_true p709
        replace q709 := eq_true q709
        refine start_ (n := 10) (S := fun w' => w'.cell? (ad708.add ((x5_1).toNat * 7)) = some (.int .i64 ((rd_T75 l0 x5_1).f0.f0)) ∧ w'.cell? ⟨(ad708.add ((x5_1).toNat * 7)).block, (ad708.add ((x5_1).toNat * 7)).off + 1, none⟩ = some (.int .i64 ((rd_T75 l0 x5_1).f0.f1)) ∧ w'.cell? ⟨(ad708.add ((x5_1).toNat * 7)).block, (ad708.add ((x5_1).toNat * 7)).off + 2, none⟩ = some (.int .i64 ((rd_T75 l0 x5_1).f0.f2)) ∧ w'.cell? ⟨(ad708.add ((x5_1).toNat * 7)).block, (ad708.add ((x5_1).toNat * 7)).off + 3, none⟩ = some (.int .i64 ((rd_T75 l0 x5_1).f1.f0)) ∧ w'.cell? ⟨(ad708.add ((x5_1).toNat * 7)).block, (ad708.add ((x5_1).toNat * 7)).off + 4, none⟩ = some (.int .i64 ((rd_T75 l0 x5_1).f1.f1)) ∧ w'.cell? ⟨(ad708.add ((x5_1).toNat * 7)).block, (ad708.add ((x5_1).toNat * 7)).off + 5, none⟩ = some (.int .i64 ((rd_T75 l0 x5_1).f1.f2)) ∧ w'.cell? ⟨(ad708.add ((x5_1).toNat * 7)).block, (ad708.add ((x5_1).toNat * 7)).off + 6, none⟩ = some (.bool ((rd_T75 l0 x5_1).f2)) ∧ w'.cell? (ad709.add ((x5_1).toNat * 7)) = some (.int .i64 ((rd_T75 l1 x5_1).f0.f0)) ∧ w'.cell? ⟨(ad709.add ((x5_1).toNat * 7)).block, (ad709.add ((x5_1).toNat * 7)).off + 1, none⟩ = some (.int .i64 ((rd_T75 l1 x5_1).f0.f1)) ∧ w'.cell? ⟨(ad709.add ((x5_1).toNat * 7)).block, (ad709.add ((x5_1).toNat * 7)).off + 2, none⟩ = some (.int .i64 ((rd_T75 l1 x5_1).f0.f2)) ∧ w'.cell? ⟨(ad709.add ((x5_1).toNat * 7)).block, (ad709.add ((x5_1).toNat * 7)).off + 3, none⟩ = some (.int .i64 ((rd_T75 l1 x5_1).f1.f0)) ∧ w'.cell? ⟨(ad709.add ((x5_1).toNat * 7)).block, (ad709.add ((x5_1).toNat * 7)).off + 4, none⟩ = some (.int .i64 ((rd_T75 l1 x5_1).f1.f1)) ∧ w'.cell? ⟨(ad709.add ((x5_1).toNat * 7)).block, (ad709.add ((x5_1).toNat * 7)).off + 5, none⟩ = some (.int .i64 ((rd_T75 l1 x5_1).f1.f2)) ∧ w'.cell? ⟨(ad709.add ((x5_1).toNat * 7)).block, (ad709.add ((x5_1).toNat * 7)).off + 6, none⟩ = some (.bool ((rd_T75 l1 x5_1).f2))) (ds := []) #[false, false, false, false, false, false, false, false, false, false] (by kernel_rfl) rfl rfl ⟨((HB.out.cell (World.block_lt_of_cell? w _ hw708_0)).trans hw708_0), ((HB.out.cell (World.block_lt_of_cell? w _ hw708_1)).trans hw708_1), ((HB.out.cell (World.block_lt_of_cell? w _ hw708_2)).trans hw708_2), ((HB.out.cell (World.block_lt_of_cell? w _ hw708_3)).trans hw708_3), ((HB.out.cell (World.block_lt_of_cell? w _ hw708_4)).trans hw708_4), ((HB.out.cell (World.block_lt_of_cell? w _ hw708_5)).trans hw708_5), ((HB.out.cell (World.block_lt_of_cell? w _ hw708_6)).trans hw708_6), ((HB.out.cell (World.block_lt_of_cell? w _ hw709_0)).trans hw709_0), ((HB.out.cell (World.block_lt_of_cell? w _ hw709_1)).trans hw709_1), ((HB.out.cell (World.block_lt_of_cell? w _ hw709_2)).trans hw709_2), ((HB.out.cell (World.block_lt_of_cell? w _ hw709_3)).trans hw709_3), ((HB.out.cell (World.block_lt_of_cell? w _ hw709_4)).trans hw709_4), ((HB.out.cell (World.block_lt_of_cell? w _ hw709_5)).trans hw709_5), ((HB.out.cell (World.block_lt_of_cell? w _ hw709_6)).trans hw709_6)⟩ (fun hHeld => ?_); refine with_tabW laws_eqPairS.tab6 laws_eqPairS.bits6 (fun HT_ HW_ => ?_)
        generalize wr.drew = w11 at HB hx708_0 hx708_1 hx708_2 hx708_3 hx708_4 hx708_5 hx708_6 hx709_0 hx709_1 hx709_2 hx709_3 hx709_4 hx709_5 hx709_6 hHeld ⊢
        refine pureT (i := 0) (N := some 17) #[true, false, false, false, false, false, false, false, false, false] (any_of HT_.out (by kernel_rfl)) ?_
        refine pureT (i := 1) (N := some 18) #[true, true, false, false, false, false, false, false, false, false] (any_of HT_.out (by kernel_rfl)) ?_
        refine pureT (i := 2) (N := some 19) #[true, true, true, false, false, false, false, false, false, false] (any_of HT_.out (by kernel_rfl)) ?_
        refine pureT (i := 4) (N := some 21) #[true, true, true, false, true, false, false, false, false, false] (any_of HT_.out (by kernel_rfl)) ?_
        refine pureT (i := 5) (N := some 22) #[true, true, true, false, true, true, false, false, false, false] (any_of HT_.out (by kernel_rfl)) ?_
        refine pureT (i := 6) (N := some 23) #[true, true, true, false, true, true, true, false, false, false] (any_of HT_.out (by kernel_rfl)) ?_
        refine take_ (i := 3) (N := some 20) (v := ?_) (a' := ?_) #[true, true, true, true, true, true, true, false, false, false] rfl rfl (take_ofW HT_.out HW_.out (by kernel_rfl)) (fun _ _ _ h => h) (Or.inl ⟨by rfl, ?_⟩) hHeld ?_ ?_
        rotate_left
        ·
         rintro w' ⟨s0, s1, s2, s3, s4, s5, s6, s7, s8, s9, s10, s11, s12, s13⟩
         go_simp
         with_reducible rfl
        rotate_left
        ·
         simp only [Act.put, List.setIfInBounds_toArray, List.set_cons_zero, List.set_cons_succ, i64_w, i32_w]
         rfl
        refine take_ (i := 7) (N := some 24) (v := ?_) (a' := ?_) #[true, true, true, true, true, true, true, true, false, false] rfl rfl (take_ofW HT_.out HW_.out (by kernel_rfl)) (fun _ _ _ h => h) (Or.inl ⟨by rfl, ?_⟩) hHeld ?_ ?_
        rotate_left
        ·
         rintro w' ⟨s0, s1, s2, s3, s4, s5, s6, s7, s8, s9, s10, s11, s12, s13⟩
         go_simp
         with_reducible rfl
        rotate_left
        ·
         simp only [Act.put, List.setIfInBounds_toArray, List.set_cons_zero, List.set_cons_succ, i64_w, i32_w]
         rfl
        refine one_ (i := 8) (N := some 25) #[true, true, true, true, true, true, true, true, true, false] rfl rfl (one_of HT_.out (by kernel_rfl)) (by decide) (fun K hK => ?_)
        refine goes_ Try.func74 (by kernel_rfl) rfl #[.agg #[.int .i64 ((rd_T75 l0 x5_1).f0.f0), .int .i64 ((rd_T75 l0 x5_1).f0.f1), .int .i64 ((rd_T75 l0 x5_1).f0.f2), .int .i64 ((rd_T75 l0 x5_1).f1.f0), .int .i64 ((rd_T75 l0 x5_1).f1.f1), .int .i64 ((rd_T75 l0 x5_1).f1.f2), .bool ((rd_T75 l0 x5_1).f2)], .agg #[.int .i64 ((rd_T75 l1 x5_1).f0.f0), .int .i64 ((rd_T75 l1 x5_1).f0.f1), .int .i64 ((rd_T75 l1 x5_1).f0.f2), .int .i64 ((rd_T75 l1 x5_1).f1.f0), .int .i64 ((rd_T75 l1 x5_1).f1.f1), .int .i64 ((rd_T75 l1 x5_1).f1.f2), .bool ((rd_T75 l1 x5_1).f2)]] (by rfl) rfl rfl mT ?_
        with_reducible refine (laws_eqPair.calls ((rd_T75 l0 x5_1).f0.f0) ((rd_T75 l0 x5_1).f0.f1) ((rd_T75 l0 x5_1).f0.f2) ((rd_T75 l0 x5_1).f1.f0) ((rd_T75 l0 x5_1).f1.f1) ((rd_T75 l0 x5_1).f1.f2) ((rd_T75 l0 x5_1).f2) ((rd_T75 l1 x5_1).f0.f0) ((rd_T75 l1 x5_1).f0.f1) ((rd_T75 l1 x5_1).f0.f2) ((rd_T75 l1 x5_1).f1.f0) ((rd_T75 l1 x5_1).f1.f1) ((rd_T75 l1 x5_1).f1.f2) ((rd_T75 l1 x5_1).f2) false _ A7.out).mono ?_
        rintro e w12 ⟨rfl, hb⟩
        refine ⟨_, rfl, ?_⟩
        replace HB := mA (below_step (bT HB) hb)
        (try clear hb)
        (try clear hb2)
        (try clear hk)
        (try clear hi)
        refine hK.out _ _ ⟨((HB.out.cell (World.block_lt_of_cell? w _ hw708_0)).trans hw708_0), ((HB.out.cell (World.block_lt_of_cell? w _ hw708_1)).trans hw708_1), ((HB.out.cell (World.block_lt_of_cell? w _ hw708_2)).trans hw708_2), ((HB.out.cell (World.block_lt_of_cell? w _ hw708_3)).trans hw708_3), ((HB.out.cell (World.block_lt_of_cell? w _ hw708_4)).trans hw708_4), ((HB.out.cell (World.block_lt_of_cell? w _ hw708_5)).trans hw708_5), ((HB.out.cell (World.block_lt_of_cell? w _ hw708_6)).trans hw708_6), ((HB.out.cell (World.block_lt_of_cell? w _ hw709_0)).trans hw709_0), ((HB.out.cell (World.block_lt_of_cell? w _ hw709_1)).trans hw709_1), ((HB.out.cell (World.block_lt_of_cell? w _ hw709_2)).trans hw709_2), ((HB.out.cell (World.block_lt_of_cell? w _ hw709_3)).trans hw709_3), ((HB.out.cell (World.block_lt_of_cell? w _ hw709_4)).trans hw709_4), ((HB.out.cell (World.block_lt_of_cell? w _ hw709_5)).trans hw709_5), ((HB.out.cell (World.block_lt_of_cell? w _ hw709_6)).trans hw709_6)⟩ (fun hHeld => ?_)
        clear hK K
        refine norm_ (a' := ?_) ?_ ?_
        rotate_left
        ·
         show Act.put _ (some 25) _ = _
         simp only [Act.put, List.setIfInBounds_toArray, List.set_cons_zero, List.set_cons_succ, i64_w, i32_w]
         rfl
        refine pureT (i := 9) (N := some 26) #[true, true, true, true, true, true, true, true, true, true] (any_of HT_.out (by kernel_rfl)) ?_
        refine done_ (done_of HT_.out (by kernel_rfl)) ?_
        try go_wp2
        go_ret
        exact ⟨eT, bT HB⟩
      ·
       rw [if_neg c6] at H
       exact absurd H (by simp)
     ·
      rw [if_neg c5] at H
      exact absurd H (by simp)
    ·
     rw [if_neg c4] at H
     have c4b0 : decide (x5_1 < (l0.length : Int)) = false := decide_eq_false c4
     clear c4
     obtain rfl := Option.some.inj H
     go_wp2
     go_ret
     exact ⟨eT, bT HB⟩
 ·
  rw [if_neg c3] at H
  have c3b0 : ((l0.length : Int) == (l1.length : Int)) = false := beq_eq_false_iff_ne.mpr c3
  have c3b1 : ((l0.length : Int) != (l1.length : Int)) = true := bne_iff_ne.mpr c3
  have c3b2 : (l0.length == l1.length) = false := by first | simpa using c3 | (simp at c3 ⊢; omega)
  obtain rfl := Option.some.inj H
  go_enter Try.func41, Try.ntmps41
  go_wp2
  go_ret
  exact ⟨eT, bT HB⟩

/-! ### laws_markPairS: function 42 -/
def laws_markPairS.l0 : Nat → List (S75) → Int → Int → Option (Int × (List (S75)))
 | 0, _, _, _ => none
 | k + 1, x0, x1, x5 => if x5 < (x0.length : Int) then (if 0 ≤ x5 then ((some (x0.set (x5 : Int).toNat (⟨(⟨x1, (rd_T75 x0 x5).f0.f1, (rd_T75 x0 x5).f0.f2⟩ : S62), (⟨(rd_T75 x0 x5).f1.f0, (rd_T75 x0 x5).f1.f1, (rd_T75 x0 x5).f1.f2⟩ : S62), (rd_T75 x0 x5).f2⟩ : S75) : List (S75))).bind fun y711 => ((some (y711.set (x5 : Int).toNat (⟨(⟨(rd_T75 y711 x5).f0.f0, wrap64 (x1 + 1), (rd_T75 y711 x5).f0.f2⟩ : S62), (⟨(rd_T75 y711 x5).f1.f0, (rd_T75 y711 x5).f1.f1, (rd_T75 y711 x5).f1.f2⟩ : S62), (rd_T75 y711 x5).f2⟩ : S75) : List (S75))).bind fun y712 => ((some (y712.set (x5 : Int).toNat (⟨(⟨(rd_T75 y712 x5).f0.f0, (rd_T75 y712 x5).f0.f1, wrap64 ((wrap64 (x1 + 1)) + 1)⟩ : S62), (⟨(rd_T75 y712 x5).f1.f0, (rd_T75 y712 x5).f1.f1, (rd_T75 y712 x5).f1.f2⟩ : S62), (rd_T75 y712 x5).f2⟩ : S75) : List (S75))).bind fun y713 => ((some (y713.set (x5 : Int).toNat (⟨(⟨(rd_T75 y713 x5).f0.f0, (rd_T75 y713 x5).f0.f1, (rd_T75 y713 x5).f0.f2⟩ : S62), (⟨wrap64 ((wrap64 ((wrap64 (x1 + 1)) + 1)) + 1), (rd_T75 y713 x5).f1.f1, (rd_T75 y713 x5).f1.f2⟩ : S62), (rd_T75 y713 x5).f2⟩ : S75) : List (S75))).bind fun y714 => ((some (y714.set (x5 : Int).toNat (⟨(⟨(rd_T75 y714 x5).f0.f0, (rd_T75 y714 x5).f0.f1, (rd_T75 y714 x5).f0.f2⟩ : S62), (⟨(rd_T75 y714 x5).f1.f0, wrap64 ((wrap64 ((wrap64 ((wrap64 (x1 + 1)) + 1)) + 1)) + 1), (rd_T75 y714 x5).f1.f2⟩ : S62), (rd_T75 y714 x5).f2⟩ : S75) : List (S75))).bind fun y715 => ((some (y715.set (x5 : Int).toNat (⟨(⟨(rd_T75 y715 x5).f0.f0, (rd_T75 y715 x5).f0.f1, (rd_T75 y715 x5).f0.f2⟩ : S62), (⟨(rd_T75 y715 x5).f1.f0, (rd_T75 y715 x5).f1.f1, wrap64 ((wrap64 ((wrap64 ((wrap64 ((wrap64 (x1 + 1)) + 1)) + 1)) + 1)) + 1)⟩ : S62), (rd_T75 y715 x5).f2⟩ : S75) : List (S75))).bind fun y716 => (laws_markPairS.l0 k (y716.set (x5 : Int).toNat (⟨(⟨(rd_T75 y716 x5).f0.f0, (rd_T75 y716 x5).f0.f1, (rd_T75 y716 x5).f0.f2⟩ : S62), (⟨(rd_T75 y716 x5).f1.f0, (rd_T75 y716 x5).f1.f1, (rd_T75 y716 x5).f1.f2⟩ : S62), ((Int.tmod (wrap64 ((wrap64 ((wrap64 ((wrap64 ((wrap64 ((wrap64 (x1 + 1)) + 1)) + 1)) + 1)) + 1)) + 1)) 3) == 0)⟩ : S75)) (wrap64 ((wrap64 ((wrap64 ((wrap64 ((wrap64 ((wrap64 ((wrap64 (x1 + 1)) + 1)) + 1)) + 1)) + 1)) + 1)) + 1)) (wrap64 (x5 + 1))))))))) else (none)) else (some (x1, x0))
def laws_markPairS.f (k : Nat) (l0 : List (S75)) (a1 : Int) : Option (Int × (List (S75))) := laws_markPairS.l0 k l0 a1 0
theorem laws_markPairS.mono_l : ∀ k, (∀ y0 y1 y2, LeO (laws_markPairS.l0 k y0 y1 y2) (laws_markPairS.l0 (k + 1) y0 y1 y2))
 | 0 => fun _ _ _ r h => by simp [laws_markPairS.l0] at h
 | k + 1 => by
  have ih0 := laws_markPairS.mono_l k
  ·
   intro y0 y1 y2
   unfold laws_markPairS.l0
   repeat' first
   | (with_reducible exact ih0 _ _ _)
   | (with_reducible exact LeO.refl _)
   | (with_reducible exact LeO.none _)
   | (with_reducible refine LeO.ite ?_ ?_)
   | (with_reducible refine LeO.bind ?_ (fun _ => ?_))
   | exact ih0 _ _ _
   | exact LeO.none _
   | refine LeO.ite ?_ ?_
   | refine LeO.bind ?_ (fun _ => ?_)
theorem laws_markPairS.mono : ∀ a0 a1 k, LeO (laws_markPairS.f k a0 a1) (laws_markPairS.f (k + 1) a0 a1) := by
 intro a0 a1 k
 have ih0 := laws_markPairS.mono_l k
 unfold laws_markPairS.f
 repeat' first
   | (with_reducible exact ih0 _ _ _)
   | (with_reducible exact LeO.refl _)
   | (with_reducible exact LeO.none _)
   | (with_reducible refine LeO.ite ?_ ?_)
   | (with_reducible refine LeO.bind ?_ (fun _ => ?_))
   | exact ih0 _ _ _
   | exact LeO.none _
   | refine LeO.ite ?_ ?_
   | refine LeO.bind ?_ (fun _ => ?_)
set_option maxHeartbeats 8000000 in
set_option maxRecDepth 100000 in
theorem laws_markPairS.calls (k : Nat) (P0_ : Nat → Prop) (u9000_ : Value) (l0 : List (S75)) (a1 : Int) (r1 : Int) (r2 : List (S75)) (w0 w : World) (hB : Below w0.heap.size w0 w) (ho0 : Kd.R k75 75 w w0.heap.size P0_ u9000_ l0) (h : laws_markPairS.f k l0 a1 = some (r1, r2)) :
  Calls Try.prog 42 #[u9000_, .int .i64 a1] w fun e w' => e = .returned (.int .i64 r1) ∧ Kd.R k75 75 w' w0.heap.size (fun k_ => (P0_ k_ ∨ w.heap.size ≤ k_)) u9000_ r2 ∧ Below w0.heap.size w0 w' ∧ Kept w w' (fun k_ => P0_ k_) := by
 have HO0 := mA (show Kd.R k75 75 w w0.heap.size (fun k_ => (P0_ k_ ∨ w.heap.size ≤ k_)) u9000_ l0 from Kd.R_mono ho0 (fun k_ hk => (.inl hk)))
 have HK := mA (Kept.refl w (fun k_ => P0_ k_))
 have HW0 := mA hB.size
 have HB := mA hB
 clear hB
 have H : (laws_markPairS.l0 k l0 a1 0) = some (r1, r2) := h
 clear h
 have H' := mA H
 clear H
 go_enter Try.func42, Try.ntmps42
 go_wp2
 go_loopg [1, 5] k (fun kq v1 v5 w' => ∃ (x0_1 : List (S75)) (x1_1 : Int) (x5_1 : Int), v1 = .int .i64 x1_1 ∧ v5 = .int .i64 x5_1 ∧ Aside0 (laws_markPairS.l0 kq x0_1 x1_1 x5_1 = some (r1, r2)) ∧ Aside0 (kq ≤ k) ∧ Aside0 (Kd.R k75 75 w' w0.heap.size (fun k_ => (P0_ k_ ∨ w.heap.size ≤ k_)) u9000_ x0_1) ∧ Aside0 (Kept w w' (fun k_ => P0_ k_)) ∧ Aside0 (Below w0.heap.size w0 w'))
 case atStart => exact ⟨(l0), (a1), (0), sT, sT, H', ⟨Nat.le_refl _⟩, ⟨rTR HO0⟩, ⟨by repeat (first | (with_reducible first | exact HK.out | apply Kept.alloc | apply Kept.drewN | apply Kept.drew) | exact HK.out)⟩, ⟨bT HB⟩⟩
 case round =>
  clear H'
  try clear p2
  obtain ⟨x0_1, x1_1, x5_1, rfl, rfl, HA, HK1, HO_0, HK, HB⟩ := hrel
  cases gk with
  | zero => exact absurd HA.out (by simp [laws_markPairS.l0])
  | succ k1 =>
   have H := HA.out
   clear HA
   simp only [laws_markPairS.l0] at H
   by_cases c3 : x5_1 < (x0_1.length : Int)
   ·
    rw [if_pos c3] at H
    have c3b0 : decide (x5_1 < (x0_1.length : Int)) = true := decide_eq_true c3
    clear c3
    by_cases c4 : 0 ≤ x5_1
    ·
     rw [if_pos c4] at H
     have c4b0 : decide (0 ≤ x5_1) = true := decide_eq_true c4
     clear c4
     obtain ⟨y711, hy711⟩ : ∃ y_ : List (S75), y_ = (x0_1.set (x5_1 : Int).toNat (⟨(⟨x1_1, (rd_T75 x0_1 x5_1).f0.f1, (rd_T75 x0_1 x5_1).f0.f2⟩ : S62), (⟨(rd_T75 x0_1 x5_1).f1.f0, (rd_T75 x0_1 x5_1).f1.f1, (rd_T75 x0_1 x5_1).f1.f2⟩ : S62), (rd_T75 x0_1 x5_1).f2⟩ : S75)) := ⟨_, rfl⟩
     replace H : ((some (y711.set (x5_1 : Int).toNat (⟨(⟨(rd_T75 y711 x5_1).f0.f0, wrap64 (x1_1 + 1), (rd_T75 y711 x5_1).f0.f2⟩ : S62), (⟨(rd_T75 y711 x5_1).f1.f0, (rd_T75 y711 x5_1).f1.f1, (rd_T75 y711 x5_1).f1.f2⟩ : S62), (rd_T75 y711 x5_1).f2⟩ : S75) : List (S75))).bind fun y712 => ((some (y712.set (x5_1 : Int).toNat (⟨(⟨(rd_T75 y712 x5_1).f0.f0, (rd_T75 y712 x5_1).f0.f1, wrap64 ((wrap64 (x1_1 + 1)) + 1)⟩ : S62), (⟨(rd_T75 y712 x5_1).f1.f0, (rd_T75 y712 x5_1).f1.f1, (rd_T75 y712 x5_1).f1.f2⟩ : S62), (rd_T75 y712 x5_1).f2⟩ : S75) : List (S75))).bind fun y713 => ((some (y713.set (x5_1 : Int).toNat (⟨(⟨(rd_T75 y713 x5_1).f0.f0, (rd_T75 y713 x5_1).f0.f1, (rd_T75 y713 x5_1).f0.f2⟩ : S62), (⟨wrap64 ((wrap64 ((wrap64 (x1_1 + 1)) + 1)) + 1), (rd_T75 y713 x5_1).f1.f1, (rd_T75 y713 x5_1).f1.f2⟩ : S62), (rd_T75 y713 x5_1).f2⟩ : S75) : List (S75))).bind fun y714 => ((some (y714.set (x5_1 : Int).toNat (⟨(⟨(rd_T75 y714 x5_1).f0.f0, (rd_T75 y714 x5_1).f0.f1, (rd_T75 y714 x5_1).f0.f2⟩ : S62), (⟨(rd_T75 y714 x5_1).f1.f0, wrap64 ((wrap64 ((wrap64 ((wrap64 (x1_1 + 1)) + 1)) + 1)) + 1), (rd_T75 y714 x5_1).f1.f2⟩ : S62), (rd_T75 y714 x5_1).f2⟩ : S75) : List (S75))).bind fun y715 => ((some (y715.set (x5_1 : Int).toNat (⟨(⟨(rd_T75 y715 x5_1).f0.f0, (rd_T75 y715 x5_1).f0.f1, (rd_T75 y715 x5_1).f0.f2⟩ : S62), (⟨(rd_T75 y715 x5_1).f1.f0, (rd_T75 y715 x5_1).f1.f1, wrap64 ((wrap64 ((wrap64 ((wrap64 ((wrap64 (x1_1 + 1)) + 1)) + 1)) + 1)) + 1)⟩ : S62), (rd_T75 y715 x5_1).f2⟩ : S75) : List (S75))).bind fun y716 => (laws_markPairS.l0 k1 (y716.set (x5_1 : Int).toNat (⟨(⟨(rd_T75 y716 x5_1).f0.f0, (rd_T75 y716 x5_1).f0.f1, (rd_T75 y716 x5_1).f0.f2⟩ : S62), (⟨(rd_T75 y716 x5_1).f1.f0, (rd_T75 y716 x5_1).f1.f1, (rd_T75 y716 x5_1).f1.f2⟩ : S62), ((Int.tmod (wrap64 ((wrap64 ((wrap64 ((wrap64 ((wrap64 ((wrap64 (x1_1 + 1)) + 1)) + 1)) + 1)) + 1)) + 1)) 3) == 0)⟩ : S75)) (wrap64 ((wrap64 ((wrap64 ((wrap64 ((wrap64 ((wrap64 ((wrap64 (x1_1 + 1)) + 1)) + 1)) + 1)) + 1)) + 1)) + 1)) (wrap64 (x5_1 + 1)))))))) = some (r1, r2) := by first | (rw [hy711]; with_reducible exact H) | (have H2_ := (Option.bind_some _ _).symm.trans H; rw [hy711]; with_reducible exact H2_) | (have H2_ := (Option.bind_some _ _).symm.trans H; with_reducible exact H2_) | with_reducible exact H | (rw [hy711]; exact H) | exact H
     have Ny711 := mA hy711
     clear hy711
     obtain ⟨y712, hy712⟩ : ∃ y_ : List (S75), y_ = (y711.set (x5_1 : Int).toNat (⟨(⟨(rd_T75 y711 x5_1).f0.f0, wrap64 (x1_1 + 1), (rd_T75 y711 x5_1).f0.f2⟩ : S62), (⟨(rd_T75 y711 x5_1).f1.f0, (rd_T75 y711 x5_1).f1.f1, (rd_T75 y711 x5_1).f1.f2⟩ : S62), (rd_T75 y711 x5_1).f2⟩ : S75)) := ⟨_, rfl⟩
     replace H : ((some (y712.set (x5_1 : Int).toNat (⟨(⟨(rd_T75 y712 x5_1).f0.f0, (rd_T75 y712 x5_1).f0.f1, wrap64 ((wrap64 (x1_1 + 1)) + 1)⟩ : S62), (⟨(rd_T75 y712 x5_1).f1.f0, (rd_T75 y712 x5_1).f1.f1, (rd_T75 y712 x5_1).f1.f2⟩ : S62), (rd_T75 y712 x5_1).f2⟩ : S75) : List (S75))).bind fun y713 => ((some (y713.set (x5_1 : Int).toNat (⟨(⟨(rd_T75 y713 x5_1).f0.f0, (rd_T75 y713 x5_1).f0.f1, (rd_T75 y713 x5_1).f0.f2⟩ : S62), (⟨wrap64 ((wrap64 ((wrap64 (x1_1 + 1)) + 1)) + 1), (rd_T75 y713 x5_1).f1.f1, (rd_T75 y713 x5_1).f1.f2⟩ : S62), (rd_T75 y713 x5_1).f2⟩ : S75) : List (S75))).bind fun y714 => ((some (y714.set (x5_1 : Int).toNat (⟨(⟨(rd_T75 y714 x5_1).f0.f0, (rd_T75 y714 x5_1).f0.f1, (rd_T75 y714 x5_1).f0.f2⟩ : S62), (⟨(rd_T75 y714 x5_1).f1.f0, wrap64 ((wrap64 ((wrap64 ((wrap64 (x1_1 + 1)) + 1)) + 1)) + 1), (rd_T75 y714 x5_1).f1.f2⟩ : S62), (rd_T75 y714 x5_1).f2⟩ : S75) : List (S75))).bind fun y715 => ((some (y715.set (x5_1 : Int).toNat (⟨(⟨(rd_T75 y715 x5_1).f0.f0, (rd_T75 y715 x5_1).f0.f1, (rd_T75 y715 x5_1).f0.f2⟩ : S62), (⟨(rd_T75 y715 x5_1).f1.f0, (rd_T75 y715 x5_1).f1.f1, wrap64 ((wrap64 ((wrap64 ((wrap64 ((wrap64 (x1_1 + 1)) + 1)) + 1)) + 1)) + 1)⟩ : S62), (rd_T75 y715 x5_1).f2⟩ : S75) : List (S75))).bind fun y716 => (laws_markPairS.l0 k1 (y716.set (x5_1 : Int).toNat (⟨(⟨(rd_T75 y716 x5_1).f0.f0, (rd_T75 y716 x5_1).f0.f1, (rd_T75 y716 x5_1).f0.f2⟩ : S62), (⟨(rd_T75 y716 x5_1).f1.f0, (rd_T75 y716 x5_1).f1.f1, (rd_T75 y716 x5_1).f1.f2⟩ : S62), ((Int.tmod (wrap64 ((wrap64 ((wrap64 ((wrap64 ((wrap64 ((wrap64 (x1_1 + 1)) + 1)) + 1)) + 1)) + 1)) + 1)) 3) == 0)⟩ : S75)) (wrap64 ((wrap64 ((wrap64 ((wrap64 ((wrap64 ((wrap64 ((wrap64 (x1_1 + 1)) + 1)) + 1)) + 1)) + 1)) + 1)) + 1)) (wrap64 (x5_1 + 1))))))) = some (r1, r2) := by first | (rw [hy712]; with_reducible exact H) | (have H2_ := (Option.bind_some _ _).symm.trans H; rw [hy712]; with_reducible exact H2_) | (have H2_ := (Option.bind_some _ _).symm.trans H; with_reducible exact H2_) | with_reducible exact H | (rw [hy712]; exact H) | exact H
     have Ny712 := mA hy712
     clear hy712
     obtain ⟨y713, hy713⟩ : ∃ y_ : List (S75), y_ = (y712.set (x5_1 : Int).toNat (⟨(⟨(rd_T75 y712 x5_1).f0.f0, (rd_T75 y712 x5_1).f0.f1, wrap64 ((wrap64 (x1_1 + 1)) + 1)⟩ : S62), (⟨(rd_T75 y712 x5_1).f1.f0, (rd_T75 y712 x5_1).f1.f1, (rd_T75 y712 x5_1).f1.f2⟩ : S62), (rd_T75 y712 x5_1).f2⟩ : S75)) := ⟨_, rfl⟩
     replace H : ((some (y713.set (x5_1 : Int).toNat (⟨(⟨(rd_T75 y713 x5_1).f0.f0, (rd_T75 y713 x5_1).f0.f1, (rd_T75 y713 x5_1).f0.f2⟩ : S62), (⟨wrap64 ((wrap64 ((wrap64 (x1_1 + 1)) + 1)) + 1), (rd_T75 y713 x5_1).f1.f1, (rd_T75 y713 x5_1).f1.f2⟩ : S62), (rd_T75 y713 x5_1).f2⟩ : S75) : List (S75))).bind fun y714 => ((some (y714.set (x5_1 : Int).toNat (⟨(⟨(rd_T75 y714 x5_1).f0.f0, (rd_T75 y714 x5_1).f0.f1, (rd_T75 y714 x5_1).f0.f2⟩ : S62), (⟨(rd_T75 y714 x5_1).f1.f0, wrap64 ((wrap64 ((wrap64 ((wrap64 (x1_1 + 1)) + 1)) + 1)) + 1), (rd_T75 y714 x5_1).f1.f2⟩ : S62), (rd_T75 y714 x5_1).f2⟩ : S75) : List (S75))).bind fun y715 => ((some (y715.set (x5_1 : Int).toNat (⟨(⟨(rd_T75 y715 x5_1).f0.f0, (rd_T75 y715 x5_1).f0.f1, (rd_T75 y715 x5_1).f0.f2⟩ : S62), (⟨(rd_T75 y715 x5_1).f1.f0, (rd_T75 y715 x5_1).f1.f1, wrap64 ((wrap64 ((wrap64 ((wrap64 ((wrap64 (x1_1 + 1)) + 1)) + 1)) + 1)) + 1)⟩ : S62), (rd_T75 y715 x5_1).f2⟩ : S75) : List (S75))).bind fun y716 => (laws_markPairS.l0 k1 (y716.set (x5_1 : Int).toNat (⟨(⟨(rd_T75 y716 x5_1).f0.f0, (rd_T75 y716 x5_1).f0.f1, (rd_T75 y716 x5_1).f0.f2⟩ : S62), (⟨(rd_T75 y716 x5_1).f1.f0, (rd_T75 y716 x5_1).f1.f1, (rd_T75 y716 x5_1).f1.f2⟩ : S62), ((Int.tmod (wrap64 ((wrap64 ((wrap64 ((wrap64 ((wrap64 ((wrap64 (x1_1 + 1)) + 1)) + 1)) + 1)) + 1)) + 1)) 3) == 0)⟩ : S75)) (wrap64 ((wrap64 ((wrap64 ((wrap64 ((wrap64 ((wrap64 ((wrap64 (x1_1 + 1)) + 1)) + 1)) + 1)) + 1)) + 1)) + 1)) (wrap64 (x5_1 + 1)))))) = some (r1, r2) := by first | (rw [hy713]; with_reducible exact H) | (have H2_ := (Option.bind_some _ _).symm.trans H; rw [hy713]; with_reducible exact H2_) | (have H2_ := (Option.bind_some _ _).symm.trans H; with_reducible exact H2_) | with_reducible exact H | (rw [hy713]; exact H) | exact H
     have Ny713 := mA hy713
     clear hy713
     obtain ⟨y714, hy714⟩ : ∃ y_ : List (S75), y_ = (y713.set (x5_1 : Int).toNat (⟨(⟨(rd_T75 y713 x5_1).f0.f0, (rd_T75 y713 x5_1).f0.f1, (rd_T75 y713 x5_1).f0.f2⟩ : S62), (⟨wrap64 ((wrap64 ((wrap64 (x1_1 + 1)) + 1)) + 1), (rd_T75 y713 x5_1).f1.f1, (rd_T75 y713 x5_1).f1.f2⟩ : S62), (rd_T75 y713 x5_1).f2⟩ : S75)) := ⟨_, rfl⟩
     replace H : ((some (y714.set (x5_1 : Int).toNat (⟨(⟨(rd_T75 y714 x5_1).f0.f0, (rd_T75 y714 x5_1).f0.f1, (rd_T75 y714 x5_1).f0.f2⟩ : S62), (⟨(rd_T75 y714 x5_1).f1.f0, wrap64 ((wrap64 ((wrap64 ((wrap64 (x1_1 + 1)) + 1)) + 1)) + 1), (rd_T75 y714 x5_1).f1.f2⟩ : S62), (rd_T75 y714 x5_1).f2⟩ : S75) : List (S75))).bind fun y715 => ((some (y715.set (x5_1 : Int).toNat (⟨(⟨(rd_T75 y715 x5_1).f0.f0, (rd_T75 y715 x5_1).f0.f1, (rd_T75 y715 x5_1).f0.f2⟩ : S62), (⟨(rd_T75 y715 x5_1).f1.f0, (rd_T75 y715 x5_1).f1.f1, wrap64 ((wrap64 ((wrap64 ((wrap64 ((wrap64 (x1_1 + 1)) + 1)) + 1)) + 1)) + 1)⟩ : S62), (rd_T75 y715 x5_1).f2⟩ : S75) : List (S75))).bind fun y716 => (laws_markPairS.l0 k1 (y716.set (x5_1 : Int).toNat (⟨(⟨(rd_T75 y716 x5_1).f0.f0, (rd_T75 y716 x5_1).f0.f1, (rd_T75 y716 x5_1).f0.f2⟩ : S62), (⟨(rd_T75 y716 x5_1).f1.f0, (rd_T75 y716 x5_1).f1.f1, (rd_T75 y716 x5_1).f1.f2⟩ : S62), ((Int.tmod (wrap64 ((wrap64 ((wrap64 ((wrap64 ((wrap64 ((wrap64 (x1_1 + 1)) + 1)) + 1)) + 1)) + 1)) + 1)) 3) == 0)⟩ : S75)) (wrap64 ((wrap64 ((wrap64 ((wrap64 ((wrap64 ((wrap64 ((wrap64 (x1_1 + 1)) + 1)) + 1)) + 1)) + 1)) + 1)) + 1)) (wrap64 (x5_1 + 1))))) = some (r1, r2) := by first | (rw [hy714]; with_reducible exact H) | (have H2_ := (Option.bind_some _ _).symm.trans H; rw [hy714]; with_reducible exact H2_) | (have H2_ := (Option.bind_some _ _).symm.trans H; with_reducible exact H2_) | with_reducible exact H | (rw [hy714]; exact H) | exact H
     have Ny714 := mA hy714
     clear hy714
     obtain ⟨y715, hy715⟩ : ∃ y_ : List (S75), y_ = (y714.set (x5_1 : Int).toNat (⟨(⟨(rd_T75 y714 x5_1).f0.f0, (rd_T75 y714 x5_1).f0.f1, (rd_T75 y714 x5_1).f0.f2⟩ : S62), (⟨(rd_T75 y714 x5_1).f1.f0, wrap64 ((wrap64 ((wrap64 ((wrap64 (x1_1 + 1)) + 1)) + 1)) + 1), (rd_T75 y714 x5_1).f1.f2⟩ : S62), (rd_T75 y714 x5_1).f2⟩ : S75)) := ⟨_, rfl⟩
     replace H : ((some (y715.set (x5_1 : Int).toNat (⟨(⟨(rd_T75 y715 x5_1).f0.f0, (rd_T75 y715 x5_1).f0.f1, (rd_T75 y715 x5_1).f0.f2⟩ : S62), (⟨(rd_T75 y715 x5_1).f1.f0, (rd_T75 y715 x5_1).f1.f1, wrap64 ((wrap64 ((wrap64 ((wrap64 ((wrap64 (x1_1 + 1)) + 1)) + 1)) + 1)) + 1)⟩ : S62), (rd_T75 y715 x5_1).f2⟩ : S75) : List (S75))).bind fun y716 => (laws_markPairS.l0 k1 (y716.set (x5_1 : Int).toNat (⟨(⟨(rd_T75 y716 x5_1).f0.f0, (rd_T75 y716 x5_1).f0.f1, (rd_T75 y716 x5_1).f0.f2⟩ : S62), (⟨(rd_T75 y716 x5_1).f1.f0, (rd_T75 y716 x5_1).f1.f1, (rd_T75 y716 x5_1).f1.f2⟩ : S62), ((Int.tmod (wrap64 ((wrap64 ((wrap64 ((wrap64 ((wrap64 ((wrap64 (x1_1 + 1)) + 1)) + 1)) + 1)) + 1)) + 1)) 3) == 0)⟩ : S75)) (wrap64 ((wrap64 ((wrap64 ((wrap64 ((wrap64 ((wrap64 ((wrap64 (x1_1 + 1)) + 1)) + 1)) + 1)) + 1)) + 1)) + 1)) (wrap64 (x5_1 + 1)))) = some (r1, r2) := by first | (rw [hy715]; with_reducible exact H) | (have H2_ := (Option.bind_some _ _).symm.trans H; rw [hy715]; with_reducible exact H2_) | (have H2_ := (Option.bind_some _ _).symm.trans H; with_reducible exact H2_) | with_reducible exact H | (rw [hy715]; exact H) | exact H
     have Ny715 := mA hy715
     clear hy715
     obtain ⟨y716, hy716⟩ : ∃ y_ : List (S75), y_ = (y715.set (x5_1 : Int).toNat (⟨(⟨(rd_T75 y715 x5_1).f0.f0, (rd_T75 y715 x5_1).f0.f1, (rd_T75 y715 x5_1).f0.f2⟩ : S62), (⟨(rd_T75 y715 x5_1).f1.f0, (rd_T75 y715 x5_1).f1.f1, wrap64 ((wrap64 ((wrap64 ((wrap64 ((wrap64 (x1_1 + 1)) + 1)) + 1)) + 1)) + 1)⟩ : S62), (rd_T75 y715 x5_1).f2⟩ : S75)) := ⟨_, rfl⟩
     replace H : (laws_markPairS.l0 k1 (y716.set (x5_1 : Int).toNat (⟨(⟨(rd_T75 y716 x5_1).f0.f0, (rd_T75 y716 x5_1).f0.f1, (rd_T75 y716 x5_1).f0.f2⟩ : S62), (⟨(rd_T75 y716 x5_1).f1.f0, (rd_T75 y716 x5_1).f1.f1, (rd_T75 y716 x5_1).f1.f2⟩ : S62), ((Int.tmod (wrap64 ((wrap64 ((wrap64 ((wrap64 ((wrap64 ((wrap64 (x1_1 + 1)) + 1)) + 1)) + 1)) + 1)) + 1)) 3) == 0)⟩ : S75)) (wrap64 ((wrap64 ((wrap64 ((wrap64 ((wrap64 ((wrap64 ((wrap64 (x1_1 + 1)) + 1)) + 1)) + 1)) + 1)) + 1)) + 1)) (wrap64 (x5_1 + 1))) = some (r1, r2) := by first | (rw [hy716]; with_reducible exact H) | (have H2_ := (Option.bind_some _ _).symm.trans H; rw [hy716]; with_reducible exact H2_) | (have H2_ := (Option.bind_some _ _).symm.trans H; with_reducible exact H2_) | with_reducible exact H | (rw [hy716]; exact H) | exact H
     have Ny716 := mA hy716
     clear hy716
     obtain ⟨y717, hy717⟩ : ∃ y_ : List (S75), y_ = (y716.set (x5_1 : Int).toNat (⟨(⟨(rd_T75 y716 x5_1).f0.f0, (rd_T75 y716 x5_1).f0.f1, (rd_T75 y716 x5_1).f0.f2⟩ : S62), (⟨(rd_T75 y716 x5_1).f1.f0, (rd_T75 y716 x5_1).f1.f1, (rd_T75 y716 x5_1).f1.f2⟩ : S62), ((Int.tmod (wrap64 ((wrap64 ((wrap64 ((wrap64 ((wrap64 ((wrap64 (x1_1 + 1)) + 1)) + 1)) + 1)) + 1)) + 1)) 3) == 0)⟩ : S75)) := ⟨_, rfl⟩
     replace H : (laws_markPairS.l0 k1 y717 (wrap64 ((wrap64 ((wrap64 ((wrap64 ((wrap64 ((wrap64 ((wrap64 (x1_1 + 1)) + 1)) + 1)) + 1)) + 1)) + 1)) + 1)) (wrap64 (x5_1 + 1))) = some (r1, r2) := by first | (rw [hy717]; with_reducible exact H) | (have H2_ := (Option.bind_some _ _).symm.trans H; rw [hy717]; with_reducible exact H2_) | (have H2_ := (Option.bind_some _ _).symm.trans H; with_reducible exact H2_) | with_reducible exact H | (rw [hy717]; exact H) | exact H
     have Ny717 := mA hy717
     clear hy717
     have H' := mA H
     clear H
     obtain ⟨Ao12, co12, eo12⟩ := Kd.R_slice HO_0.out
     subst eo12
     have p5 : 0 ≤ (x5_1 : Int) := of_decide_eq_true aT
     have q5 : (x5_1 : Int) < ((x0_1.length : Int) : Int) := of_decide_eq_true aT
     obtain ⟨go5, co5, eo5, gb5, gl5, cl5, HG5⟩ := Kd.R_form HO_0.out (by omega)
     (first | cases eo5 | (injection eo5 with ea_ en_ ec_; (first | subst ea_ | (injection ea_ with ea_; subst ea_)); subst ec_; clear en_))
     have GB5 := mA gb5
     have GG5 := mA HG5
     clear gb5 gl5 HG5
     have HMgo5 := mA (show (P0_ go5 ∨ w.heap.size ≤ go5) from (HO_0.out.1 _ rfl))
     obtain ⟨ce5, hcl5, hM5, hcc5, hfr5⟩ := Kd.R_elem HO_0.out z75 (x5_1 : Int) p5 q5
     obtain rfl := k75_openM hM5
     have hx5_0 : wr.cell? ⟨go5, (x5_1 : Int).toNat * 7, none⟩ = some (.int .i64 ((rd_T75 x0_1 x5_1).f0.f0)) := hcc5 0 _ rfl
     have hx5_1 : wr.cell? ⟨go5, (x5_1 : Int).toNat * 7 + 1, none⟩ = some (.int .i64 ((rd_T75 x0_1 x5_1).f0.f1)) := hcc5 1 _ rfl
     have hx5_2 : wr.cell? ⟨go5, (x5_1 : Int).toNat * 7 + 2, none⟩ = some (.int .i64 ((rd_T75 x0_1 x5_1).f0.f2)) := hcc5 2 _ rfl
     have hx5_3 : wr.cell? ⟨go5, (x5_1 : Int).toNat * 7 + 3, none⟩ = some (.int .i64 ((rd_T75 x0_1 x5_1).f1.f0)) := hcc5 3 _ rfl
     have hx5_4 : wr.cell? ⟨go5, (x5_1 : Int).toNat * 7 + 4, none⟩ = some (.int .i64 ((rd_T75 x0_1 x5_1).f1.f1)) := hcc5 4 _ rfl
     have hx5_5 : wr.cell? ⟨go5, (x5_1 : Int).toNat * 7 + 5, none⟩ = some (.int .i64 ((rd_T75 x0_1 x5_1).f1.f2)) := hcc5 5 _ rfl
     have hx5_6 : wr.cell? ⟨go5, (x5_1 : Int).toNat * 7 + 6, none⟩ = some (.bool ((rd_T75 x0_1 x5_1).f2)) := hcc5 6 _ rfl
     have hf5_0 : wr.frozen? ⟨go5, (x5_1 : Int).toNat * 7, none⟩ = false := hfr5 0
     have hf5_1 : wr.frozen? ⟨go5, (x5_1 : Int).toNat * 7 + 1, none⟩ = false := hfr5 1
     have hf5_2 : wr.frozen? ⟨go5, (x5_1 : Int).toNat * 7 + 2, none⟩ = false := hfr5 2
     have hf5_3 : wr.frozen? ⟨go5, (x5_1 : Int).toNat * 7 + 3, none⟩ = false := hfr5 3
     have hf5_4 : wr.frozen? ⟨go5, (x5_1 : Int).toNat * 7 + 4, none⟩ = false := hfr5 4
     have hf5_5 : wr.frozen? ⟨go5, (x5_1 : Int).toNat * 7 + 5, none⟩ = false := hfr5 5
     have hf5_6 : wr.frozen? ⟨go5, (x5_1 : Int).toNat * 7 + 6, none⟩ = false := hfr5 6
     clear hcl5 hcc5 hfr5 hM5
     replace p5 := eq_true p5
     replace q5 := eq_true q5
     have HX13 := mA (show Kd.R k75 75 wr w0.heap.size (fun k_ => (P0_ k_ ∨ w.heap.size ≤ k_)) (.slice (some ⟨go5, 0, none⟩) x0_1.length co12) x0_1 from (rTR HO_0))
     obtain ⟨ce13, hcl13, hM13, hcc13, hfr13⟩ := Kd.R_elem HX13.out z75 (x5_1 : Int) (of_decide_eq_true aT) (by have h_ : (x5_1 : Int) < ((x0_1.length : Int) : Int) := of_decide_eq_true aT; first | exact h_ | (have e_ := (Kd.R_reads' HO_0.out).1; omega) | simpa using h_)
     obtain rfl := k75_openM hM13
     have HP13 := Kd.R_seg HX13.out (x5_1 : Int) (of_decide_eq_true aT) (by have h_ : (x5_1 : Int) < ((x0_1.length : Int) : Int) := of_decide_eq_true aT; first | exact h_ | (have e_ := (Kd.R_reads' HO_0.out).1; omega) | simpa using h_) (seg := [.int .i64 x1_1]) (j := 0) hcl13 hcc13 (show 1 ≤ 7 from by decide) (x' := (⟨(⟨x1_1, (rd_T75 x0_1 x5_1).f0.f1, (rd_T75 x0_1 x5_1).f0.f2⟩ : S62), (⟨(rd_T75 x0_1 x5_1).f1.f0, (rd_T75 x0_1 x5_1).f1.f1, (rd_T75 x0_1 x5_1).f1.f2⟩ : S62), (rd_T75 x0_1 x5_1).f2⟩ : S75)) (k75_mkM _ _ _ (⟨(⟨x1_1, (rd_T75 x0_1 x5_1).f0.f1, (rd_T75 x0_1 x5_1).f0.f2⟩ : S62), (⟨(rd_T75 x0_1 x5_1).f1.f0, (rd_T75 x0_1 x5_1).f1.f1, (rd_T75 x0_1 x5_1).f1.f2⟩ : S62), (rd_T75 x0_1 x5_1).f2⟩ : S75) ) (fun _ hk => hk)
     have hx13_0 := hcc13 0 _ rfl
     (try simp only [show (k75).sz = 7 from rfl, Nat.mul_one, Nat.add_zero] at hx13_0)
     have hf13_0 := hfr13 0
     (try simp only [show (k75).sz = 7 from rfl, Nat.mul_one, Nat.add_zero] at hf13_0)
     clear hcl13 hcc13 hfr13 hM13
     go_wp2_with (first | ((with_reducible refine gate_store (t := 3) (p := 17) rfl ?_); refine store_event (t := 3) (p := 17) (v := ?vo_w14) (w1 := (wr.setCell ⟨go5, (x5_1 : Int).toNat * 7, none⟩ (.int .i64 x1_1))) ?hg ?ho ?hn ?hr ?_; (case ho => rfl); (case hg => rfl); (case hn => rfl); (case hr => first | (go_simp; done) | (go_simp; rfl)); intro w14 hw; have hg : wr.grownBy w14 (some go5) := (by rw [hw]; exact HP13.2); have hp_ : Kd.R k75 75 w14 w0.heap.size (fun k_ => (P0_ k_ ∨ w.heap.size ≤ k_)) (.slice (some ⟨go5, 0, none⟩) x0_1.length co12) y711 := (by rw [hw, Ny711.out]; exact HP13.1); clear HP13; replace HB := mA ((by rw [hw]; exact below_set (HB.out) GB5.out : Below w0.heap.size w0 w14)); replace HK := mA (Kept.of_grown (S := (fun k_ => P0_ k_)) hg (by repeat (first | (with_reducible first | exact HK.out | apply Kept.alloc | apply Kept.drewN | apply Kept.drew) | exact HK.out)) (fun k_ e_ => (HO_0.out.1 k_ e_))); replace HO_0 := mA (hp_); clear hg hw hp_; have p6 : 0 ≤ (x5_1 : Int) := of_decide_eq_true aT; have q6 : (x5_1 : Int) < ((x0_1.length : Int) : Int) := of_decide_eq_true aT; obtain ⟨ce6, hcl6, hM6, hcc6, hfr6⟩ := Kd.R_elem HO_0.out z75 (x5_1 : Int) p6 q6; obtain rfl := k75_openM hM6; have hx6_0 : w14.cell? ⟨go5, (x5_1 : Int).toNat * 7, none⟩ = some (.int .i64 ((rd_T75 y711 x5_1).f0.f0)) := hcc6 0 _ rfl; have hx6_1 : w14.cell? ⟨go5, (x5_1 : Int).toNat * 7 + 1, none⟩ = some (.int .i64 ((rd_T75 y711 x5_1).f0.f1)) := hcc6 1 _ rfl; have hx6_2 : w14.cell? ⟨go5, (x5_1 : Int).toNat * 7 + 2, none⟩ = some (.int .i64 ((rd_T75 y711 x5_1).f0.f2)) := hcc6 2 _ rfl; have hx6_3 : w14.cell? ⟨go5, (x5_1 : Int).toNat * 7 + 3, none⟩ = some (.int .i64 ((rd_T75 y711 x5_1).f1.f0)) := hcc6 3 _ rfl; have hx6_4 : w14.cell? ⟨go5, (x5_1 : Int).toNat * 7 + 4, none⟩ = some (.int .i64 ((rd_T75 y711 x5_1).f1.f1)) := hcc6 4 _ rfl; have hx6_5 : w14.cell? ⟨go5, (x5_1 : Int).toNat * 7 + 5, none⟩ = some (.int .i64 ((rd_T75 y711 x5_1).f1.f2)) := hcc6 5 _ rfl; have hx6_6 : w14.cell? ⟨go5, (x5_1 : Int).toNat * 7 + 6, none⟩ = some (.bool ((rd_T75 y711 x5_1).f2)) := hcc6 6 _ rfl; have hf6_0 : w14.frozen? ⟨go5, (x5_1 : Int).toNat * 7, none⟩ = false := hfr6 0; have hf6_1 : w14.frozen? ⟨go5, (x5_1 : Int).toNat * 7 + 1, none⟩ = false := hfr6 1; have hf6_2 : w14.frozen? ⟨go5, (x5_1 : Int).toNat * 7 + 2, none⟩ = false := hfr6 2; have hf6_3 : w14.frozen? ⟨go5, (x5_1 : Int).toNat * 7 + 3, none⟩ = false := hfr6 3; have hf6_4 : w14.frozen? ⟨go5, (x5_1 : Int).toNat * 7 + 4, none⟩ = false := hfr6 4; have hf6_5 : w14.frozen? ⟨go5, (x5_1 : Int).toNat * 7 + 5, none⟩ = false := hfr6 5; have hf6_6 : w14.frozen? ⟨go5, (x5_1 : Int).toNat * 7 + 6, none⟩ = false := hfr6 6; clear hcl6 hcc6 hfr6 hM6; replace p6 := eq_true p6; replace q6 := eq_true q6; have HX15 := mA (show Kd.R k75 75 w14 w0.heap.size (fun k_ => (P0_ k_ ∨ w.heap.size ≤ k_)) (.slice (some ⟨go5, 0, none⟩) x0_1.length co12) y711 from (rTR HO_0)); obtain ⟨ce15, hcl15, hM15, hcc15, hfr15⟩ := Kd.R_elem HX15.out z75 (x5_1 : Int) (of_decide_eq_true aT) (by have h_ : (x5_1 : Int) < ((x0_1.length : Int) : Int) := of_decide_eq_true aT; first | exact h_ | (have e_ := (Kd.R_reads' HO_0.out).1; omega) | simpa using h_); obtain rfl := k75_openM hM15; have HP15 := Kd.R_seg HX15.out (x5_1 : Int) (of_decide_eq_true aT) (by have h_ : (x5_1 : Int) < ((x0_1.length : Int) : Int) := of_decide_eq_true aT; first | exact h_ | (have e_ := (Kd.R_reads' HO_0.out).1; omega) | simpa using h_) (seg := [.int .i64 (wrap64 (x1_1 + 1))]) (j := 1) hcl15 hcc15 (show 2 ≤ 7 from by decide) (x' := (⟨(⟨(rd_T75 y711 x5_1).f0.f0, wrap64 (x1_1 + 1), (rd_T75 y711 x5_1).f0.f2⟩ : S62), (⟨(rd_T75 y711 x5_1).f1.f0, (rd_T75 y711 x5_1).f1.f1, (rd_T75 y711 x5_1).f1.f2⟩ : S62), (rd_T75 y711 x5_1).f2⟩ : S75)) (k75_mkM _ _ _ (⟨(⟨(rd_T75 y711 x5_1).f0.f0, wrap64 (x1_1 + 1), (rd_T75 y711 x5_1).f0.f2⟩ : S62), (⟨(rd_T75 y711 x5_1).f1.f0, (rd_T75 y711 x5_1).f1.f1, (rd_T75 y711 x5_1).f1.f2⟩ : S62), (rd_T75 y711 x5_1).f2⟩ : S75) ) (fun _ hk => hk); have hx15_1 := hcc15 1 _ rfl; (try simp only [show (k75).sz = 7 from rfl, Nat.mul_one, Nat.add_zero] at hx15_1); have hf15_1 := hfr15 1; (try simp only [show (k75).sz = 7 from rfl, Nat.mul_one, Nat.add_zero] at hf15_1); clear hcl15 hcc15 hfr15 hM15) | ((with_reducible refine gate_store (t := 3) (p := 25) rfl ?_); refine store_event (t := 3) (p := 25) (v := ?vo_w16) (w1 := (w14.setCell ⟨go5, (x5_1 : Int).toNat * 7 + 1, none⟩ (.int .i64 (wrap64 (x1_1 + 1))))) ?hg ?ho ?hn ?hr ?_; (case ho => rfl); (case hg => rfl); (case hn => rfl); (case hr => first | (go_simp; done) | (go_simp; rfl)); intro w16 hw; have hg : w14.grownBy w16 (some go5) := (by rw [hw]; exact HP15.2); have hp_ : Kd.R k75 75 w16 w0.heap.size (fun k_ => (P0_ k_ ∨ w.heap.size ≤ k_)) (.slice (some ⟨go5, 0, none⟩) x0_1.length co12) y712 := (by rw [hw, Ny712.out]; exact HP15.1); clear HP15; replace HB := mA ((by rw [hw]; exact below_set (HB.out) GB5.out : Below w0.heap.size w0 w16)); replace HK := mA (Kept.of_grown (S := (fun k_ => P0_ k_)) hg (by repeat (first | (with_reducible first | exact HK.out | apply Kept.alloc | apply Kept.drewN | apply Kept.drew) | exact HK.out)) (fun k_ e_ => (HO_0.out.1 k_ e_))); replace HO_0 := mA (hp_); clear hg hw hp_; have p7 : 0 ≤ (x5_1 : Int) := of_decide_eq_true aT; have q7 : (x5_1 : Int) < ((x0_1.length : Int) : Int) := of_decide_eq_true aT; obtain ⟨ce7, hcl7, hM7, hcc7, hfr7⟩ := Kd.R_elem HO_0.out z75 (x5_1 : Int) p7 q7; obtain rfl := k75_openM hM7; have hx7_0 : w16.cell? ⟨go5, (x5_1 : Int).toNat * 7, none⟩ = some (.int .i64 ((rd_T75 y712 x5_1).f0.f0)) := hcc7 0 _ rfl; have hx7_1 : w16.cell? ⟨go5, (x5_1 : Int).toNat * 7 + 1, none⟩ = some (.int .i64 ((rd_T75 y712 x5_1).f0.f1)) := hcc7 1 _ rfl; have hx7_2 : w16.cell? ⟨go5, (x5_1 : Int).toNat * 7 + 2, none⟩ = some (.int .i64 ((rd_T75 y712 x5_1).f0.f2)) := hcc7 2 _ rfl; have hx7_3 : w16.cell? ⟨go5, (x5_1 : Int).toNat * 7 + 3, none⟩ = some (.int .i64 ((rd_T75 y712 x5_1).f1.f0)) := hcc7 3 _ rfl; have hx7_4 : w16.cell? ⟨go5, (x5_1 : Int).toNat * 7 + 4, none⟩ = some (.int .i64 ((rd_T75 y712 x5_1).f1.f1)) := hcc7 4 _ rfl; have hx7_5 : w16.cell? ⟨go5, (x5_1 : Int).toNat * 7 + 5, none⟩ = some (.int .i64 ((rd_T75 y712 x5_1).f1.f2)) := hcc7 5 _ rfl; have hx7_6 : w16.cell? ⟨go5, (x5_1 : Int).toNat * 7 + 6, none⟩ = some (.bool ((rd_T75 y712 x5_1).f2)) := hcc7 6 _ rfl; have hf7_0 : w16.frozen? ⟨go5, (x5_1 : Int).toNat * 7, none⟩ = false := hfr7 0; have hf7_1 : w16.frozen? ⟨go5, (x5_1 : Int).toNat * 7 + 1, none⟩ = false := hfr7 1; have hf7_2 : w16.frozen? ⟨go5, (x5_1 : Int).toNat * 7 + 2, none⟩ = false := hfr7 2; have hf7_3 : w16.frozen? ⟨go5, (x5_1 : Int).toNat * 7 + 3, none⟩ = false := hfr7 3; have hf7_4 : w16.frozen? ⟨go5, (x5_1 : Int).toNat * 7 + 4, none⟩ = false := hfr7 4; have hf7_5 : w16.frozen? ⟨go5, (x5_1 : Int).toNat * 7 + 5, none⟩ = false := hfr7 5; have hf7_6 : w16.frozen? ⟨go5, (x5_1 : Int).toNat * 7 + 6, none⟩ = false := hfr7 6; clear hcl7 hcc7 hfr7 hM7; replace p7 := eq_true p7; replace q7 := eq_true q7; have HX17 := mA (show Kd.R k75 75 w16 w0.heap.size (fun k_ => (P0_ k_ ∨ w.heap.size ≤ k_)) (.slice (some ⟨go5, 0, none⟩) x0_1.length co12) y712 from (rTR HO_0)); obtain ⟨ce17, hcl17, hM17, hcc17, hfr17⟩ := Kd.R_elem HX17.out z75 (x5_1 : Int) (of_decide_eq_true aT) (by have h_ : (x5_1 : Int) < ((x0_1.length : Int) : Int) := of_decide_eq_true aT; first | exact h_ | (have e_ := (Kd.R_reads' HO_0.out).1; omega) | simpa using h_); obtain rfl := k75_openM hM17; have HP17 := Kd.R_seg HX17.out (x5_1 : Int) (of_decide_eq_true aT) (by have h_ : (x5_1 : Int) < ((x0_1.length : Int) : Int) := of_decide_eq_true aT; first | exact h_ | (have e_ := (Kd.R_reads' HO_0.out).1; omega) | simpa using h_) (seg := [.int .i64 (wrap64 ((wrap64 (x1_1 + 1)) + 1))]) (j := 2) hcl17 hcc17 (show 3 ≤ 7 from by decide) (x' := (⟨(⟨(rd_T75 y712 x5_1).f0.f0, (rd_T75 y712 x5_1).f0.f1, wrap64 ((wrap64 (x1_1 + 1)) + 1)⟩ : S62), (⟨(rd_T75 y712 x5_1).f1.f0, (rd_T75 y712 x5_1).f1.f1, (rd_T75 y712 x5_1).f1.f2⟩ : S62), (rd_T75 y712 x5_1).f2⟩ : S75)) (k75_mkM _ _ _ (⟨(⟨(rd_T75 y712 x5_1).f0.f0, (rd_T75 y712 x5_1).f0.f1, wrap64 ((wrap64 (x1_1 + 1)) + 1)⟩ : S62), (⟨(rd_T75 y712 x5_1).f1.f0, (rd_T75 y712 x5_1).f1.f1, (rd_T75 y712 x5_1).f1.f2⟩ : S62), (rd_T75 y712 x5_1).f2⟩ : S75) ) (fun _ hk => hk); have hx17_2 := hcc17 2 _ rfl; (try simp only [show (k75).sz = 7 from rfl, Nat.mul_one, Nat.add_zero] at hx17_2); have hf17_2 := hfr17 2; (try simp only [show (k75).sz = 7 from rfl, Nat.mul_one, Nat.add_zero] at hf17_2); clear hcl17 hcc17 hfr17 hM17) | ((with_reducible refine gate_store (t := 3) (p := 33) rfl ?_); refine store_event (t := 3) (p := 33) (v := ?vo_w18) (w1 := (w16.setCell ⟨go5, (x5_1 : Int).toNat * 7 + 2, none⟩ (.int .i64 (wrap64 ((wrap64 (x1_1 + 1)) + 1))))) ?hg ?ho ?hn ?hr ?_; (case ho => rfl); (case hg => rfl); (case hn => rfl); (case hr => first | (go_simp; done) | (go_simp; rfl)); intro w18 hw; have hg : w16.grownBy w18 (some go5) := (by rw [hw]; exact HP17.2); have hp_ : Kd.R k75 75 w18 w0.heap.size (fun k_ => (P0_ k_ ∨ w.heap.size ≤ k_)) (.slice (some ⟨go5, 0, none⟩) x0_1.length co12) y713 := (by rw [hw, Ny713.out]; exact HP17.1); clear HP17; replace HB := mA ((by rw [hw]; exact below_set (HB.out) GB5.out : Below w0.heap.size w0 w18)); replace HK := mA (Kept.of_grown (S := (fun k_ => P0_ k_)) hg (by repeat (first | (with_reducible first | exact HK.out | apply Kept.alloc | apply Kept.drewN | apply Kept.drew) | exact HK.out)) (fun k_ e_ => (HO_0.out.1 k_ e_))); replace HO_0 := mA (hp_); clear hg hw hp_; have p8 : 0 ≤ (x5_1 : Int) := of_decide_eq_true aT; have q8 : (x5_1 : Int) < ((x0_1.length : Int) : Int) := of_decide_eq_true aT; obtain ⟨ce8, hcl8, hM8, hcc8, hfr8⟩ := Kd.R_elem HO_0.out z75 (x5_1 : Int) p8 q8; obtain rfl := k75_openM hM8; have hx8_0 : w18.cell? ⟨go5, (x5_1 : Int).toNat * 7, none⟩ = some (.int .i64 ((rd_T75 y713 x5_1).f0.f0)) := hcc8 0 _ rfl; have hx8_1 : w18.cell? ⟨go5, (x5_1 : Int).toNat * 7 + 1, none⟩ = some (.int .i64 ((rd_T75 y713 x5_1).f0.f1)) := hcc8 1 _ rfl; have hx8_2 : w18.cell? ⟨go5, (x5_1 : Int).toNat * 7 + 2, none⟩ = some (.int .i64 ((rd_T75 y713 x5_1).f0.f2)) := hcc8 2 _ rfl; have hx8_3 : w18.cell? ⟨go5, (x5_1 : Int).toNat * 7 + 3, none⟩ = some (.int .i64 ((rd_T75 y713 x5_1).f1.f0)) := hcc8 3 _ rfl; have hx8_4 : w18.cell? ⟨go5, (x5_1 : Int).toNat * 7 + 4, none⟩ = some (.int .i64 ((rd_T75 y713 x5_1).f1.f1)) := hcc8 4 _ rfl; have hx8_5 : w18.cell? ⟨go5, (x5_1 : Int).toNat * 7 + 5, none⟩ = some (.int .i64 ((rd_T75 y713 x5_1).f1.f2)) := hcc8 5 _ rfl; have hx8_6 : w18.cell? ⟨go5, (x5_1 : Int).toNat * 7 + 6, none⟩ = some (.bool ((rd_T75 y713 x5_1).f2)) := hcc8 6 _ rfl; have hf8_0 : w18.frozen? ⟨go5, (x5_1 : Int).toNat * 7, none⟩ = false := hfr8 0; have hf8_1 : w18.frozen? ⟨go5, (x5_1 : Int).toNat * 7 + 1, none⟩ = false := hfr8 1; have hf8_2 : w18.frozen? ⟨go5, (x5_1 : Int).toNat * 7 + 2, none⟩ = false := hfr8 2; have hf8_3 : w18.frozen? ⟨go5, (x5_1 : Int).toNat * 7 + 3, none⟩ = false := hfr8 3; have hf8_4 : w18.frozen? ⟨go5, (x5_1 : Int).toNat * 7 + 4, none⟩ = false := hfr8 4; have hf8_5 : w18.frozen? ⟨go5, (x5_1 : Int).toNat * 7 + 5, none⟩ = false := hfr8 5; have hf8_6 : w18.frozen? ⟨go5, (x5_1 : Int).toNat * 7 + 6, none⟩ = false := hfr8 6; clear hcl8 hcc8 hfr8 hM8; replace p8 := eq_true p8; replace q8 := eq_true q8; have HX19 := mA (show Kd.R k75 75 w18 w0.heap.size (fun k_ => (P0_ k_ ∨ w.heap.size ≤ k_)) (.slice (some ⟨go5, 0, none⟩) x0_1.length co12) y713 from (rTR HO_0)); obtain ⟨ce19, hcl19, hM19, hcc19, hfr19⟩ := Kd.R_elem HX19.out z75 (x5_1 : Int) (of_decide_eq_true aT) (by have h_ : (x5_1 : Int) < ((x0_1.length : Int) : Int) := of_decide_eq_true aT; first | exact h_ | (have e_ := (Kd.R_reads' HO_0.out).1; omega) | simpa using h_); obtain rfl := k75_openM hM19; have HP19 := Kd.R_seg HX19.out (x5_1 : Int) (of_decide_eq_true aT) (by have h_ : (x5_1 : Int) < ((x0_1.length : Int) : Int) := of_decide_eq_true aT; first | exact h_ | (have e_ := (Kd.R_reads' HO_0.out).1; omega) | simpa using h_) (seg := [.int .i64 (wrap64 ((wrap64 ((wrap64 (x1_1 + 1)) + 1)) + 1))]) (j := 3) hcl19 hcc19 (show 4 ≤ 7 from by decide) (x' := (⟨(⟨(rd_T75 y713 x5_1).f0.f0, (rd_T75 y713 x5_1).f0.f1, (rd_T75 y713 x5_1).f0.f2⟩ : S62), (⟨wrap64 ((wrap64 ((wrap64 (x1_1 + 1)) + 1)) + 1), (rd_T75 y713 x5_1).f1.f1, (rd_T75 y713 x5_1).f1.f2⟩ : S62), (rd_T75 y713 x5_1).f2⟩ : S75)) (k75_mkM _ _ _ (⟨(⟨(rd_T75 y713 x5_1).f0.f0, (rd_T75 y713 x5_1).f0.f1, (rd_T75 y713 x5_1).f0.f2⟩ : S62), (⟨wrap64 ((wrap64 ((wrap64 (x1_1 + 1)) + 1)) + 1), (rd_T75 y713 x5_1).f1.f1, (rd_T75 y713 x5_1).f1.f2⟩ : S62), (rd_T75 y713 x5_1).f2⟩ : S75) ) (fun _ hk => hk); have hx19_3 := hcc19 3 _ rfl; (try simp only [show (k75).sz = 7 from rfl, Nat.mul_one, Nat.add_zero] at hx19_3); have hf19_3 := hfr19 3; (try simp only [show (k75).sz = 7 from rfl, Nat.mul_one, Nat.add_zero] at hf19_3); clear hcl19 hcc19 hfr19 hM19) | ((with_reducible refine gate_store (t := 3) (p := 41) rfl ?_); refine store_event (t := 3) (p := 41) (v := ?vo_w20) (w1 := (w18.setCell ⟨go5, (x5_1 : Int).toNat * 7 + 3, none⟩ (.int .i64 (wrap64 ((wrap64 ((wrap64 (x1_1 + 1)) + 1)) + 1))))) ?hg ?ho ?hn ?hr ?_; (case ho => rfl); (case hg => rfl); (case hn => rfl); (case hr => first | (go_simp; done) | (go_simp; rfl)); intro w20 hw; have hg : w18.grownBy w20 (some go5) := (by rw [hw]; exact HP19.2); have hp_ : Kd.R k75 75 w20 w0.heap.size (fun k_ => (P0_ k_ ∨ w.heap.size ≤ k_)) (.slice (some ⟨go5, 0, none⟩) x0_1.length co12) y714 := (by rw [hw, Ny714.out]; exact HP19.1); clear HP19; replace HB := mA ((by rw [hw]; exact below_set (HB.out) GB5.out : Below w0.heap.size w0 w20)); replace HK := mA (Kept.of_grown (S := (fun k_ => P0_ k_)) hg (by repeat (first | (with_reducible first | exact HK.out | apply Kept.alloc | apply Kept.drewN | apply Kept.drew) | exact HK.out)) (fun k_ e_ => (HO_0.out.1 k_ e_))); replace HO_0 := mA (hp_); clear hg hw hp_; have p9 : 0 ≤ (x5_1 : Int) := of_decide_eq_true aT; have q9 : (x5_1 : Int) < ((x0_1.length : Int) : Int) := of_decide_eq_true aT; obtain ⟨ce9, hcl9, hM9, hcc9, hfr9⟩ := Kd.R_elem HO_0.out z75 (x5_1 : Int) p9 q9; obtain rfl := k75_openM hM9; have hx9_0 : w20.cell? ⟨go5, (x5_1 : Int).toNat * 7, none⟩ = some (.int .i64 ((rd_T75 y714 x5_1).f0.f0)) := hcc9 0 _ rfl; have hx9_1 : w20.cell? ⟨go5, (x5_1 : Int).toNat * 7 + 1, none⟩ = some (.int .i64 ((rd_T75 y714 x5_1).f0.f1)) := hcc9 1 _ rfl; have hx9_2 : w20.cell? ⟨go5, (x5_1 : Int).toNat * 7 + 2, none⟩ = some (.int .i64 ((rd_T75 y714 x5_1).f0.f2)) := hcc9 2 _ rfl; have hx9_3 : w20.cell? ⟨go5, (x5_1 : Int).toNat * 7 + 3, none⟩ = some (.int .i64 ((rd_T75 y714 x5_1).f1.f0)) := hcc9 3 _ rfl; have hx9_4 : w20.cell? ⟨go5, (x5_1 : Int).toNat * 7 + 4, none⟩ = some (.int .i64 ((rd_T75 y714 x5_1).f1.f1)) := hcc9 4 _ rfl; have hx9_5 : w20.cell? ⟨go5, (x5_1 : Int).toNat * 7 + 5, none⟩ = some (.int .i64 ((rd_T75 y714 x5_1).f1.f2)) := hcc9 5 _ rfl; have hx9_6 : w20.cell? ⟨go5, (x5_1 : Int).toNat * 7 + 6, none⟩ = some (.bool ((rd_T75 y714 x5_1).f2)) := hcc9 6 _ rfl; have hf9_0 : w20.frozen? ⟨go5, (x5_1 : Int).toNat * 7, none⟩ = false := hfr9 0; have hf9_1 : w20.frozen? ⟨go5, (x5_1 : Int).toNat * 7 + 1, none⟩ = false := hfr9 1; have hf9_2 : w20.frozen? ⟨go5, (x5_1 : Int).toNat * 7 + 2, none⟩ = false := hfr9 2; have hf9_3 : w20.frozen? ⟨go5, (x5_1 : Int).toNat * 7 + 3, none⟩ = false := hfr9 3; have hf9_4 : w20.frozen? ⟨go5, (x5_1 : Int).toNat * 7 + 4, none⟩ = false := hfr9 4; have hf9_5 : w20.frozen? ⟨go5, (x5_1 : Int).toNat * 7 + 5, none⟩ = false := hfr9 5; have hf9_6 : w20.frozen? ⟨go5, (x5_1 : Int).toNat * 7 + 6, none⟩ = false := hfr9 6; clear hcl9 hcc9 hfr9 hM9; replace p9 := eq_true p9; replace q9 := eq_true q9; have HX21 := mA (show Kd.R k75 75 w20 w0.heap.size (fun k_ => (P0_ k_ ∨ w.heap.size ≤ k_)) (.slice (some ⟨go5, 0, none⟩) x0_1.length co12) y714 from (rTR HO_0)); obtain ⟨ce21, hcl21, hM21, hcc21, hfr21⟩ := Kd.R_elem HX21.out z75 (x5_1 : Int) (of_decide_eq_true aT) (by have h_ : (x5_1 : Int) < ((x0_1.length : Int) : Int) := of_decide_eq_true aT; first | exact h_ | (have e_ := (Kd.R_reads' HO_0.out).1; omega) | simpa using h_); obtain rfl := k75_openM hM21; have HP21 := Kd.R_seg HX21.out (x5_1 : Int) (of_decide_eq_true aT) (by have h_ : (x5_1 : Int) < ((x0_1.length : Int) : Int) := of_decide_eq_true aT; first | exact h_ | (have e_ := (Kd.R_reads' HO_0.out).1; omega) | simpa using h_) (seg := [.int .i64 (wrap64 ((wrap64 ((wrap64 ((wrap64 (x1_1 + 1)) + 1)) + 1)) + 1))]) (j := 4) hcl21 hcc21 (show 5 ≤ 7 from by decide) (x' := (⟨(⟨(rd_T75 y714 x5_1).f0.f0, (rd_T75 y714 x5_1).f0.f1, (rd_T75 y714 x5_1).f0.f2⟩ : S62), (⟨(rd_T75 y714 x5_1).f1.f0, wrap64 ((wrap64 ((wrap64 ((wrap64 (x1_1 + 1)) + 1)) + 1)) + 1), (rd_T75 y714 x5_1).f1.f2⟩ : S62), (rd_T75 y714 x5_1).f2⟩ : S75)) (k75_mkM _ _ _ (⟨(⟨(rd_T75 y714 x5_1).f0.f0, (rd_T75 y714 x5_1).f0.f1, (rd_T75 y714 x5_1).f0.f2⟩ : S62), (⟨(rd_T75 y714 x5_1).f1.f0, wrap64 ((wrap64 ((wrap64 ((wrap64 (x1_1 + 1)) + 1)) + 1)) + 1), (rd_T75 y714 x5_1).f1.f2⟩ : S62), (rd_T75 y714 x5_1).f2⟩ : S75) ) (fun _ hk => hk); have hx21_4 := hcc21 4 _ rfl; (try simp only [show (k75).sz = 7 from rfl, Nat.mul_one, Nat.add_zero] at hx21_4); have hf21_4 := hfr21 4; (try simp only [show (k75).sz = 7 from rfl, Nat.mul_one, Nat.add_zero] at hf21_4); clear hcl21 hcc21 hfr21 hM21) | ((with_reducible refine gate_store (t := 3) (p := 49) rfl ?_); refine store_event (t := 3) (p := 49) (v := ?vo_w22) (w1 := (w20.setCell ⟨go5, (x5_1 : Int).toNat * 7 + 4, none⟩ (.int .i64 (wrap64 ((wrap64 ((wrap64 ((wrap64 (x1_1 + 1)) + 1)) + 1)) + 1))))) ?hg ?ho ?hn ?hr ?_; (case ho => rfl); (case hg => rfl); (case hn => rfl); (case hr => first | (go_simp; done) | (go_simp; rfl)); intro w22 hw; have hg : w20.grownBy w22 (some go5) := (by rw [hw]; exact HP21.2); have hp_ : Kd.R k75 75 w22 w0.heap.size (fun k_ => (P0_ k_ ∨ w.heap.size ≤ k_)) (.slice (some ⟨go5, 0, none⟩) x0_1.length co12) y715 := (by rw [hw, Ny715.out]; exact HP21.1); clear HP21; replace HB := mA ((by rw [hw]; exact below_set (HB.out) GB5.out : Below w0.heap.size w0 w22)); replace HK := mA (Kept.of_grown (S := (fun k_ => P0_ k_)) hg (by repeat (first | (with_reducible first | exact HK.out | apply Kept.alloc | apply Kept.drewN | apply Kept.drew) | exact HK.out)) (fun k_ e_ => (HO_0.out.1 k_ e_))); replace HO_0 := mA (hp_); clear hg hw hp_; have p10 : 0 ≤ (x5_1 : Int) := of_decide_eq_true aT; have q10 : (x5_1 : Int) < ((x0_1.length : Int) : Int) := of_decide_eq_true aT; obtain ⟨ce10, hcl10, hM10, hcc10, hfr10⟩ := Kd.R_elem HO_0.out z75 (x5_1 : Int) p10 q10; obtain rfl := k75_openM hM10; have hx10_0 : w22.cell? ⟨go5, (x5_1 : Int).toNat * 7, none⟩ = some (.int .i64 ((rd_T75 y715 x5_1).f0.f0)) := hcc10 0 _ rfl; have hx10_1 : w22.cell? ⟨go5, (x5_1 : Int).toNat * 7 + 1, none⟩ = some (.int .i64 ((rd_T75 y715 x5_1).f0.f1)) := hcc10 1 _ rfl; have hx10_2 : w22.cell? ⟨go5, (x5_1 : Int).toNat * 7 + 2, none⟩ = some (.int .i64 ((rd_T75 y715 x5_1).f0.f2)) := hcc10 2 _ rfl; have hx10_3 : w22.cell? ⟨go5, (x5_1 : Int).toNat * 7 + 3, none⟩ = some (.int .i64 ((rd_T75 y715 x5_1).f1.f0)) := hcc10 3 _ rfl; have hx10_4 : w22.cell? ⟨go5, (x5_1 : Int).toNat * 7 + 4, none⟩ = some (.int .i64 ((rd_T75 y715 x5_1).f1.f1)) := hcc10 4 _ rfl; have hx10_5 : w22.cell? ⟨go5, (x5_1 : Int).toNat * 7 + 5, none⟩ = some (.int .i64 ((rd_T75 y715 x5_1).f1.f2)) := hcc10 5 _ rfl; have hx10_6 : w22.cell? ⟨go5, (x5_1 : Int).toNat * 7 + 6, none⟩ = some (.bool ((rd_T75 y715 x5_1).f2)) := hcc10 6 _ rfl; have hf10_0 : w22.frozen? ⟨go5, (x5_1 : Int).toNat * 7, none⟩ = false := hfr10 0; have hf10_1 : w22.frozen? ⟨go5, (x5_1 : Int).toNat * 7 + 1, none⟩ = false := hfr10 1; have hf10_2 : w22.frozen? ⟨go5, (x5_1 : Int).toNat * 7 + 2, none⟩ = false := hfr10 2; have hf10_3 : w22.frozen? ⟨go5, (x5_1 : Int).toNat * 7 + 3, none⟩ = false := hfr10 3; have hf10_4 : w22.frozen? ⟨go5, (x5_1 : Int).toNat * 7 + 4, none⟩ = false := hfr10 4; have hf10_5 : w22.frozen? ⟨go5, (x5_1 : Int).toNat * 7 + 5, none⟩ = false := hfr10 5; have hf10_6 : w22.frozen? ⟨go5, (x5_1 : Int).toNat * 7 + 6, none⟩ = false := hfr10 6; clear hcl10 hcc10 hfr10 hM10; replace p10 := eq_true p10; replace q10 := eq_true q10; have HX23 := mA (show Kd.R k75 75 w22 w0.heap.size (fun k_ => (P0_ k_ ∨ w.heap.size ≤ k_)) (.slice (some ⟨go5, 0, none⟩) x0_1.length co12) y715 from (rTR HO_0)); obtain ⟨ce23, hcl23, hM23, hcc23, hfr23⟩ := Kd.R_elem HX23.out z75 (x5_1 : Int) (of_decide_eq_true aT) (by have h_ : (x5_1 : Int) < ((x0_1.length : Int) : Int) := of_decide_eq_true aT; first | exact h_ | (have e_ := (Kd.R_reads' HO_0.out).1; omega) | simpa using h_); obtain rfl := k75_openM hM23; have HP23 := Kd.R_seg HX23.out (x5_1 : Int) (of_decide_eq_true aT) (by have h_ : (x5_1 : Int) < ((x0_1.length : Int) : Int) := of_decide_eq_true aT; first | exact h_ | (have e_ := (Kd.R_reads' HO_0.out).1; omega) | simpa using h_) (seg := [.int .i64 (wrap64 ((wrap64 ((wrap64 ((wrap64 ((wrap64 (x1_1 + 1)) + 1)) + 1)) + 1)) + 1))]) (j := 5) hcl23 hcc23 (show 6 ≤ 7 from by decide) (x' := (⟨(⟨(rd_T75 y715 x5_1).f0.f0, (rd_T75 y715 x5_1).f0.f1, (rd_T75 y715 x5_1).f0.f2⟩ : S62), (⟨(rd_T75 y715 x5_1).f1.f0, (rd_T75 y715 x5_1).f1.f1, wrap64 ((wrap64 ((wrap64 ((wrap64 ((wrap64 (x1_1 + 1)) + 1)) + 1)) + 1)) + 1)⟩ : S62), (rd_T75 y715 x5_1).f2⟩ : S75)) (k75_mkM _ _ _ (⟨(⟨(rd_T75 y715 x5_1).f0.f0, (rd_T75 y715 x5_1).f0.f1, (rd_T75 y715 x5_1).f0.f2⟩ : S62), (⟨(rd_T75 y715 x5_1).f1.f0, (rd_T75 y715 x5_1).f1.f1, wrap64 ((wrap64 ((wrap64 ((wrap64 ((wrap64 (x1_1 + 1)) + 1)) + 1)) + 1)) + 1)⟩ : S62), (rd_T75 y715 x5_1).f2⟩ : S75) ) (fun _ hk => hk); have hx23_5 := hcc23 5 _ rfl; (try simp only [show (k75).sz = 7 from rfl, Nat.mul_one, Nat.add_zero] at hx23_5); have hf23_5 := hfr23 5; (try simp only [show (k75).sz = 7 from rfl, Nat.mul_one, Nat.add_zero] at hf23_5); clear hcl23 hcc23 hfr23 hM23) | ((with_reducible refine gate_store (t := 3) (p := 57) rfl ?_); refine store_event (t := 3) (p := 57) (v := ?vo_w24) (w1 := (w22.setCell ⟨go5, (x5_1 : Int).toNat * 7 + 5, none⟩ (.int .i64 (wrap64 ((wrap64 ((wrap64 ((wrap64 ((wrap64 (x1_1 + 1)) + 1)) + 1)) + 1)) + 1))))) ?hg ?ho ?hn ?hr ?_; (case ho => rfl); (case hg => rfl); (case hn => rfl); (case hr => first | (go_simp; done) | (go_simp; rfl)); intro w24 hw; have hg : w22.grownBy w24 (some go5) := (by rw [hw]; exact HP23.2); have hp_ : Kd.R k75 75 w24 w0.heap.size (fun k_ => (P0_ k_ ∨ w.heap.size ≤ k_)) (.slice (some ⟨go5, 0, none⟩) x0_1.length co12) y716 := (by rw [hw, Ny716.out]; exact HP23.1); clear HP23; replace HB := mA ((by rw [hw]; exact below_set (HB.out) GB5.out : Below w0.heap.size w0 w24)); replace HK := mA (Kept.of_grown (S := (fun k_ => P0_ k_)) hg (by repeat (first | (with_reducible first | exact HK.out | apply Kept.alloc | apply Kept.drewN | apply Kept.drew) | exact HK.out)) (fun k_ e_ => (HO_0.out.1 k_ e_))); replace HO_0 := mA (hp_); clear hg hw hp_; have p11 : 0 ≤ (x5_1 : Int) := of_decide_eq_true aT; have q11 : (x5_1 : Int) < ((x0_1.length : Int) : Int) := of_decide_eq_true aT; obtain ⟨ce11, hcl11, hM11, hcc11, hfr11⟩ := Kd.R_elem HO_0.out z75 (x5_1 : Int) p11 q11; obtain rfl := k75_openM hM11; have hx11_0 : w24.cell? ⟨go5, (x5_1 : Int).toNat * 7, none⟩ = some (.int .i64 ((rd_T75 y716 x5_1).f0.f0)) := hcc11 0 _ rfl; have hx11_1 : w24.cell? ⟨go5, (x5_1 : Int).toNat * 7 + 1, none⟩ = some (.int .i64 ((rd_T75 y716 x5_1).f0.f1)) := hcc11 1 _ rfl; have hx11_2 : w24.cell? ⟨go5, (x5_1 : Int).toNat * 7 + 2, none⟩ = some (.int .i64 ((rd_T75 y716 x5_1).f0.f2)) := hcc11 2 _ rfl; have hx11_3 : w24.cell? ⟨go5, (x5_1 : Int).toNat * 7 + 3, none⟩ = some (.int .i64 ((rd_T75 y716 x5_1).f1.f0)) := hcc11 3 _ rfl; have hx11_4 : w24.cell? ⟨go5, (x5_1 : Int).toNat * 7 + 4, none⟩ = some (.int .i64 ((rd_T75 y716 x5_1).f1.f1)) := hcc11 4 _ rfl; have hx11_5 : w24.cell? ⟨go5, (x5_1 : Int).toNat * 7 + 5, none⟩ = some (.int .i64 ((rd_T75 y716 x5_1).f1.f2)) := hcc11 5 _ rfl; have hx11_6 : w24.cell? ⟨go5, (x5_1 : Int).toNat * 7 + 6, none⟩ = some (.bool ((rd_T75 y716 x5_1).f2)) := hcc11 6 _ rfl; have hf11_0 : w24.frozen? ⟨go5, (x5_1 : Int).toNat * 7, none⟩ = false := hfr11 0; have hf11_1 : w24.frozen? ⟨go5, (x5_1 : Int).toNat * 7 + 1, none⟩ = false := hfr11 1; have hf11_2 : w24.frozen? ⟨go5, (x5_1 : Int).toNat * 7 + 2, none⟩ = false := hfr11 2; have hf11_3 : w24.frozen? ⟨go5, (x5_1 : Int).toNat * 7 + 3, none⟩ = false := hfr11 3; have hf11_4 : w24.frozen? ⟨go5, (x5_1 : Int).toNat * 7 + 4, none⟩ = false := hfr11 4; have hf11_5 : w24.frozen? ⟨go5, (x5_1 : Int).toNat * 7 + 5, none⟩ = false := hfr11 5; have hf11_6 : w24.frozen? ⟨go5, (x5_1 : Int).toNat * 7 + 6, none⟩ = false := hfr11 6; clear hcl11 hcc11 hfr11 hM11; replace p11 := eq_true p11; replace q11 := eq_true q11; have HX25 := mA (show Kd.R k75 75 w24 w0.heap.size (fun k_ => (P0_ k_ ∨ w.heap.size ≤ k_)) (.slice (some ⟨go5, 0, none⟩) x0_1.length co12) y716 from (rTR HO_0)); obtain ⟨ce25, hcl25, hM25, hcc25, hfr25⟩ := Kd.R_elem HX25.out z75 (x5_1 : Int) (of_decide_eq_true aT) (by have h_ : (x5_1 : Int) < ((x0_1.length : Int) : Int) := of_decide_eq_true aT; first | exact h_ | (have e_ := (Kd.R_reads' HO_0.out).1; omega) | simpa using h_); obtain rfl := k75_openM hM25; have HP25 := Kd.R_seg HX25.out (x5_1 : Int) (of_decide_eq_true aT) (by have h_ : (x5_1 : Int) < ((x0_1.length : Int) : Int) := of_decide_eq_true aT; first | exact h_ | (have e_ := (Kd.R_reads' HO_0.out).1; omega) | simpa using h_) (seg := [.bool ((Int.tmod (wrap64 ((wrap64 ((wrap64 ((wrap64 ((wrap64 ((wrap64 (x1_1 + 1)) + 1)) + 1)) + 1)) + 1)) + 1)) 3) == 0)]) (j := 6) hcl25 hcc25 (show 7 ≤ 7 from by decide) (x' := (⟨(⟨(rd_T75 y716 x5_1).f0.f0, (rd_T75 y716 x5_1).f0.f1, (rd_T75 y716 x5_1).f0.f2⟩ : S62), (⟨(rd_T75 y716 x5_1).f1.f0, (rd_T75 y716 x5_1).f1.f1, (rd_T75 y716 x5_1).f1.f2⟩ : S62), ((Int.tmod (wrap64 ((wrap64 ((wrap64 ((wrap64 ((wrap64 ((wrap64 (x1_1 + 1)) + 1)) + 1)) + 1)) + 1)) + 1)) 3) == 0)⟩ : S75)) (k75_mkM _ _ _ (⟨(⟨(rd_T75 y716 x5_1).f0.f0, (rd_T75 y716 x5_1).f0.f1, (rd_T75 y716 x5_1).f0.f2⟩ : S62), (⟨(rd_T75 y716 x5_1).f1.f0, (rd_T75 y716 x5_1).f1.f1, (rd_T75 y716 x5_1).f1.f2⟩ : S62), ((Int.tmod (wrap64 ((wrap64 ((wrap64 ((wrap64 ((wrap64 ((wrap64 (x1_1 + 1)) + 1)) + 1)) + 1)) + 1)) + 1)) 3) == 0)⟩ : S75) ) (fun _ hk => hk); have hx25_6 := hcc25 6 _ rfl; (try simp only [show (k75).sz = 7 from rfl, Nat.mul_one, Nat.add_zero] at hx25_6); have hf25_6 := hfr25 6; (try simp only [show (k75).sz = 7 from rfl, Nat.mul_one, Nat.add_zero] at hf25_6); clear hcl25 hcc25 hfr25 hM25) | ((with_reducible refine gate_store (t := 4) (p := 66) rfl ?_); refine store_event (t := 4) (p := 66) (v := ?vo_w26) (w1 := (w24.setCell ⟨go5, (x5_1 : Int).toNat * 7 + 6, none⟩ (.bool ((Int.tmod (wrap64 ((wrap64 ((wrap64 ((wrap64 ((wrap64 ((wrap64 (x1_1 + 1)) + 1)) + 1)) + 1)) + 1)) + 1)) 3) == 0)))) ?hg ?ho ?hn ?hr ?_; (case ho => rfl); (case hg => rfl); (case hn => rfl); (case hr => first | (go_simp; done) | (go_simp; rfl)); intro w26 hw; have hg : w24.grownBy w26 (some go5) := (by rw [hw]; exact HP25.2); have hp_ : Kd.R k75 75 w26 w0.heap.size (fun k_ => (P0_ k_ ∨ w.heap.size ≤ k_)) (.slice (some ⟨go5, 0, none⟩) x0_1.length co12) y717 := (by rw [hw, Ny717.out]; exact HP25.1); clear HP25; replace HB := mA ((by rw [hw]; exact below_set (HB.out) GB5.out : Below w0.heap.size w0 w26)); replace HK := mA (Kept.of_grown (S := (fun k_ => P0_ k_)) hg (by repeat (first | (with_reducible first | exact HK.out | apply Kept.alloc | apply Kept.drewN | apply Kept.drew) | exact HK.out)) (fun k_ e_ => (HO_0.out.1 k_ e_))); replace HO_0 := mA (hp_); clear hg hw hp_))
     go_roundg k1
     case measure => have := HK1.out; omega
     case rel => exact ⟨(y717), (wrap64 ((wrap64 ((wrap64 ((wrap64 ((wrap64 ((wrap64 ((wrap64 (x1_1 + 1)) + 1)) + 1)) + 1)) + 1)) + 1)) + 1)), (wrap64 (x5_1 + 1)), sT, sT, H', ⟨by have := HK1.out; omega⟩, ⟨rTR HO_0⟩, ⟨by repeat (first | (with_reducible first | exact HK.out | apply Kept.alloc | apply Kept.drewN | apply Kept.drew) | exact HK.out)⟩, ⟨bT HB⟩⟩
    ·
     rw [if_neg c4] at H
     exact absurd H (by simp)
   ·
    rw [if_neg c3] at H
    have c3b0 : decide (x5_1 < (x0_1.length : Int)) = false := decide_eq_false c3
    clear c3
    simp only [Option.some.injEq, Prod.mk.injEq] at H
    obtain ⟨rfl, rfl⟩ := H
    obtain ⟨Ao27, co27, eo27⟩ := Kd.R_slice HO_0.out
    subst eo27
    go_wp2
    go_ret
    exact ⟨eT, rTR HO_0, bT HB, by repeat (first | (with_reducible first | exact HK.out | apply Kept.alloc | apply Kept.drewN | apply Kept.drew) | exact HK.out)⟩

/-! ### laws_heldPairS: function 43 -/
def laws_heldPairS.l0 : Nat → List (S75) → Int → Int → Option (Int)
 | 0, _, _, _ => none
 | k + 1, x0, x1, x5 => if x5 < (x0.length : Int) then (if 0 ≤ x5 then (if ((rd_T75 x0 x5).f0.f0) = x1 then (if ((rd_T75 x0 x5).f0.f1) = (wrap64 (x1 + 1)) then (if ((rd_T75 x0 x5).f0.f2) = (wrap64 ((wrap64 (x1 + 1)) + 1)) then (if ((rd_T75 x0 x5).f1.f0) = (wrap64 ((wrap64 ((wrap64 (x1 + 1)) + 1)) + 1)) then (if ((rd_T75 x0 x5).f1.f1) = (wrap64 ((wrap64 ((wrap64 ((wrap64 (x1 + 1)) + 1)) + 1)) + 1)) then (if ((rd_T75 x0 x5).f1.f2) = (wrap64 ((wrap64 ((wrap64 ((wrap64 ((wrap64 (x1 + 1)) + 1)) + 1)) + 1)) + 1)) then (if (((rd_T75 x0 x5).f2) != ((Int.tmod (wrap64 ((wrap64 ((wrap64 ((wrap64 ((wrap64 ((wrap64 (x1 + 1)) + 1)) + 1)) + 1)) + 1)) + 1)) 3) == 0)) = true then (some (-1)) else (laws_heldPairS.l0 k x0 (wrap64 ((wrap64 ((wrap64 ((wrap64 ((wrap64 ((wrap64 ((wrap64 (x1 + 1)) + 1)) + 1)) + 1)) + 1)) + 1)) + 1)) (wrap64 (x5 + 1)))) else (some (-1))) else (some (-1))) else (some (-1))) else (some (-1))) else (some (-1))) else (some (-1))) else (none)) else (some x1)
def laws_heldPairS.f (k : Nat) (l0 : List (S75)) (a1 : Int) : Option (Int) := laws_heldPairS.l0 k l0 a1 0
theorem laws_heldPairS.mono_l : ∀ k, (∀ y0 y1 y2, LeO (laws_heldPairS.l0 k y0 y1 y2) (laws_heldPairS.l0 (k + 1) y0 y1 y2))
 | 0 => fun _ _ _ r h => by simp [laws_heldPairS.l0] at h
 | k + 1 => by
  have ih0 := laws_heldPairS.mono_l k
  ·
   intro y0 y1 y2
   unfold laws_heldPairS.l0
   repeat' first
   | (with_reducible exact ih0 _ _ _)
   | (with_reducible exact LeO.refl _)
   | (with_reducible exact LeO.none _)
   | (with_reducible refine LeO.ite ?_ ?_)
   | (with_reducible refine LeO.bind ?_ (fun _ => ?_))
   | exact ih0 _ _ _
   | exact LeO.none _
   | refine LeO.ite ?_ ?_
   | refine LeO.bind ?_ (fun _ => ?_)
theorem laws_heldPairS.mono : ∀ a0 a1 k, LeO (laws_heldPairS.f k a0 a1) (laws_heldPairS.f (k + 1) a0 a1) := by
 intro a0 a1 k
 have ih0 := laws_heldPairS.mono_l k
 unfold laws_heldPairS.f
 repeat' first
   | (with_reducible exact ih0 _ _ _)
   | (with_reducible exact LeO.refl _)
   | (with_reducible exact LeO.none _)
   | (with_reducible refine LeO.ite ?_ ?_)
   | (with_reducible refine LeO.bind ?_ (fun _ => ?_))
   | exact ih0 _ _ _
   | exact LeO.none _
   | refine LeO.ite ?_ ?_
   | refine LeO.bind ?_ (fun _ => ?_)
set_option maxHeartbeats 8000000 in
set_option maxRecDepth 100000 in
theorem laws_heldPairS.calls (k : Nat) (A0 : Option Addr) (c0 : Nat) (l0 : List (S75)) (a1 : Int) (r : Int) (w : World) (hr0 : Kd.C k75 w A0 l0.length l0) (hc0 : l0.length ≤ c0) (h : laws_heldPairS.f k l0 a1 = some r) :
  Calls Try.prog 43 #[.slice A0 l0.length c0, .int .i64 a1] w fun e w' => e = .returned (.int .i64 r) ∧ Drawn0 w w' := by
 have HR0 := mA hr0
 have HC0 := mA hc0
 clear hr0 hc0
 have H : (laws_heldPairS.l0 k l0 a1 0) = some r := h
 clear h
 have H' := mA H
 clear H
 go_enter Try.func43, Try.ntmps43
 go_wp2
 go_loopg [1, 5] k (fun kq v1 v5 w' => ∃ (x1_1 : Int) (x5_1 : Int), v1 = .int .i64 x1_1 ∧ v5 = .int .i64 x5_1 ∧ Aside0 (laws_heldPairS.l0 kq l0 x1_1 x5_1 = some r) ∧ Aside0 (kq ≤ k) ∧ Drawn0 w w')
 case atStart => exact ⟨(a1), (0), sT, sT, H', ⟨Nat.le_refl _⟩, by repeat (first | exact Drawn0.refl _ | apply Drawn0.step)⟩
 case round =>
  clear H'
  try clear p2
  obtain ⟨x1_1, x5_1, rfl, rfl, HA, HK1, ⟨m1, rfl⟩⟩ := hrel
  cases gk with
  | zero => exact absurd HA.out (by simp [laws_heldPairS.l0])
  | succ k1 =>
   have H := HA.out
   clear HA
   simp only [laws_heldPairS.l0] at H
   by_cases c3 : x5_1 < (l0.length : Int)
   ·
    rw [if_pos c3] at H
    have c3b0 : decide (x5_1 < (l0.length : Int)) = true := decide_eq_true c3
    clear c3
    by_cases c4 : 0 ≤ x5_1
    ·
     rw [if_pos c4] at H
     have c4b0 : decide (0 ≤ x5_1) = true := decide_eq_true c4
     clear c4
     by_cases c5 : ((rd_T75 l0 x5_1).f0.f0) = x1_1
     ·
      rw [if_pos c5] at H
      have c5b0 : (((rd_T75 l0 x5_1).f0.f0) == x1_1) = true := beq_iff_eq.mpr c5
      have c5b1 : (((rd_T75 l0 x5_1).f0.f0) != x1_1) = false := bne_eq_false_iff_eq.mpr c5
      clear c5
      by_cases c6 : ((rd_T75 l0 x5_1).f0.f1) = (wrap64 (x1_1 + 1))
      ·
       rw [if_pos c6] at H
       have c6b0 : (((rd_T75 l0 x5_1).f0.f1) == (wrap64 (x1_1 + 1))) = true := beq_iff_eq.mpr c6
       have c6b1 : (((rd_T75 l0 x5_1).f0.f1) != (wrap64 (x1_1 + 1))) = false := bne_eq_false_iff_eq.mpr c6
       clear c6
       by_cases c7 : ((rd_T75 l0 x5_1).f0.f2) = (wrap64 ((wrap64 (x1_1 + 1)) + 1))
       ·
        rw [if_pos c7] at H
        have c7b0 : (((rd_T75 l0 x5_1).f0.f2) == (wrap64 ((wrap64 (x1_1 + 1)) + 1))) = true := beq_iff_eq.mpr c7
        have c7b1 : (((rd_T75 l0 x5_1).f0.f2) != (wrap64 ((wrap64 (x1_1 + 1)) + 1))) = false := bne_eq_false_iff_eq.mpr c7
        clear c7
        by_cases c8 : ((rd_T75 l0 x5_1).f1.f0) = (wrap64 ((wrap64 ((wrap64 (x1_1 + 1)) + 1)) + 1))
        ·
         rw [if_pos c8] at H
         have c8b0 : (((rd_T75 l0 x5_1).f1.f0) == (wrap64 ((wrap64 ((wrap64 (x1_1 + 1)) + 1)) + 1))) = true := beq_iff_eq.mpr c8
         have c8b1 : (((rd_T75 l0 x5_1).f1.f0) != (wrap64 ((wrap64 ((wrap64 (x1_1 + 1)) + 1)) + 1))) = false := bne_eq_false_iff_eq.mpr c8
         clear c8
         by_cases c9 : ((rd_T75 l0 x5_1).f1.f1) = (wrap64 ((wrap64 ((wrap64 ((wrap64 (x1_1 + 1)) + 1)) + 1)) + 1))
         ·
          rw [if_pos c9] at H
          have c9b0 : (((rd_T75 l0 x5_1).f1.f1) == (wrap64 ((wrap64 ((wrap64 ((wrap64 (x1_1 + 1)) + 1)) + 1)) + 1))) = true := beq_iff_eq.mpr c9
          have c9b1 : (((rd_T75 l0 x5_1).f1.f1) != (wrap64 ((wrap64 ((wrap64 ((wrap64 (x1_1 + 1)) + 1)) + 1)) + 1))) = false := bne_eq_false_iff_eq.mpr c9
          clear c9
          by_cases c10 : ((rd_T75 l0 x5_1).f1.f2) = (wrap64 ((wrap64 ((wrap64 ((wrap64 ((wrap64 (x1_1 + 1)) + 1)) + 1)) + 1)) + 1))
          ·
           rw [if_pos c10] at H
           have c10b0 : (((rd_T75 l0 x5_1).f1.f2) == (wrap64 ((wrap64 ((wrap64 ((wrap64 ((wrap64 (x1_1 + 1)) + 1)) + 1)) + 1)) + 1))) = true := beq_iff_eq.mpr c10
           have c10b1 : (((rd_T75 l0 x5_1).f1.f2) != (wrap64 ((wrap64 ((wrap64 ((wrap64 ((wrap64 (x1_1 + 1)) + 1)) + 1)) + 1)) + 1))) = false := bne_eq_false_iff_eq.mpr c10
           clear c10
           by_cases c11 : (((rd_T75 l0 x5_1).f2) != ((Int.tmod (wrap64 ((wrap64 ((wrap64 ((wrap64 ((wrap64 ((wrap64 (x1_1 + 1)) + 1)) + 1)) + 1)) + 1)) + 1)) 3) == 0)) = true
           ·
            rw [if_pos c11] at H
            have c11b0 : (((rd_T75 l0 x5_1).f2) != ((Int.tmod (wrap64 ((wrap64 ((wrap64 ((wrap64 ((wrap64 ((wrap64 (x1_1 + 1)) + 1)) + 1)) + 1)) + 1)) + 1)) 3) == 0)) = true := c11
            (try (have c11b1 : decide (((rd_T75 l0 x5_1).f2) = ((Int.tmod (wrap64 ((wrap64 ((wrap64 ((wrap64 ((wrap64 ((wrap64 (x1_1 + 1)) + 1)) + 1)) + 1)) + 1)) + 1)) 3) == 0)) = false := by simpa using c11))
            (try (have c11b2 : (((rd_T75 l0 x5_1).f2) == ((Int.tmod (wrap64 ((wrap64 ((wrap64 ((wrap64 ((wrap64 ((wrap64 (x1_1 + 1)) + 1)) + 1)) + 1)) + 1)) + 1)) 3) == 0)) = false := by simpa using c11))
            (try (have c11b3 : ¬ (((rd_T75 l0 x5_1).f2) = ((Int.tmod (wrap64 ((wrap64 ((wrap64 ((wrap64 ((wrap64 ((wrap64 (x1_1 + 1)) + 1)) + 1)) + 1)) + 1)) + 1)) 3) == 0)) := by simpa using c11))
            clear c11
            obtain rfl := Option.some.inj H
            have p718 : 0 ≤ (x5_1 : Int) := of_decide_eq_true aT
            have q718 : x5_1 < (l0.length : Int) := of_decide_eq_true aT
            obtain ⟨ad718, e718, hx718_0, hx718_1, hx718_2, hx718_3, hx718_4, hx718_5, hx718_6⟩ := at_T75 HR0.out x5_1 p718 q718
            cases e718
            replace p718 := eq_true p718
            replace q718 := eq_true q718
            have p719 : 0 ≤ (x5_1 : Int) := of_decide_eq_true aT
            have q719 : x5_1 < (l0.length : Int) := of_decide_eq_true aT
            obtain ⟨ad719, e719, hx719_0, hx719_1, hx719_2, hx719_3, hx719_4, hx719_5, hx719_6⟩ := at_T75 HR0.out x5_1 p719 q719
            obtain rfl : ad718 = ad719 := (by injection e719)
            replace p719 := eq_true p719
            replace q719 := eq_true q719
            have p720 : 0 ≤ (x5_1 : Int) := of_decide_eq_true aT
            have q720 : x5_1 < (l0.length : Int) := of_decide_eq_true aT
            obtain ⟨ad720, e720, hx720_0, hx720_1, hx720_2, hx720_3, hx720_4, hx720_5, hx720_6⟩ := at_T75 HR0.out x5_1 p720 q720
            obtain rfl : ad718 = ad720 := (by injection e720)
            replace p720 := eq_true p720
            replace q720 := eq_true q720
            have p721 : 0 ≤ (x5_1 : Int) := of_decide_eq_true aT
            have q721 : x5_1 < (l0.length : Int) := of_decide_eq_true aT
            obtain ⟨ad721, e721, hx721_0, hx721_1, hx721_2, hx721_3, hx721_4, hx721_5, hx721_6⟩ := at_T75 HR0.out x5_1 p721 q721
            obtain rfl : ad718 = ad721 := (by injection e721)
            replace p721 := eq_true p721
            replace q721 := eq_true q721
            have p722 : 0 ≤ (x5_1 : Int) := of_decide_eq_true aT
            have q722 : x5_1 < (l0.length : Int) := of_decide_eq_true aT
            obtain ⟨ad722, e722, hx722_0, hx722_1, hx722_2, hx722_3, hx722_4, hx722_5, hx722_6⟩ := at_T75 HR0.out x5_1 p722 q722
            obtain rfl : ad718 = ad722 := (by injection e722)
            replace p722 := eq_true p722
            replace q722 := eq_true q722
            have p723 : 0 ≤ (x5_1 : Int) := of_decide_eq_true aT
            have q723 : x5_1 < (l0.length : Int) := of_decide_eq_true aT
            obtain ⟨ad723, e723, hx723_0, hx723_1, hx723_2, hx723_3, hx723_4, hx723_5, hx723_6⟩ := at_T75 HR0.out x5_1 p723 q723
            obtain rfl : ad718 = ad723 := (by injection e723)
            replace p723 := eq_true p723
            replace q723 := eq_true q723
            have p724 : 0 ≤ (x5_1 : Int) := of_decide_eq_true aT
            have q724 : x5_1 < (l0.length : Int) := of_decide_eq_true aT
            obtain ⟨ad724, e724, hx724_0, hx724_1, hx724_2, hx724_3, hx724_4, hx724_5, hx724_6⟩ := at_T75 HR0.out x5_1 p724 q724
            obtain rfl : ad718 = ad724 := (by injection e724)
            replace p724 := eq_true p724
            replace q724 := eq_true q724
            go_wp2
            go_ret
            exact ⟨sT, by repeat (first | exact Drawn0.refl _ | apply Drawn0.step)⟩
           ·
            rw [if_neg c11] at H
            have c11b0 : (((rd_T75 l0 x5_1).f2) != ((Int.tmod (wrap64 ((wrap64 ((wrap64 ((wrap64 ((wrap64 ((wrap64 (x1_1 + 1)) + 1)) + 1)) + 1)) + 1)) + 1)) 3) == 0)) = false := by simpa using c11
            (try (have c11b1 : decide (((rd_T75 l0 x5_1).f2) = ((Int.tmod (wrap64 ((wrap64 ((wrap64 ((wrap64 ((wrap64 ((wrap64 (x1_1 + 1)) + 1)) + 1)) + 1)) + 1)) + 1)) 3) == 0)) = true := by simpa using c11))
            (try (have c11b2 : (((rd_T75 l0 x5_1).f2) == ((Int.tmod (wrap64 ((wrap64 ((wrap64 ((wrap64 ((wrap64 ((wrap64 (x1_1 + 1)) + 1)) + 1)) + 1)) + 1)) + 1)) 3) == 0)) = true := by simpa using c11))
            clear c11
            have H' := mA H
            clear H
            have p718 : 0 ≤ (x5_1 : Int) := of_decide_eq_true aT
            have q718 : x5_1 < (l0.length : Int) := of_decide_eq_true aT
            obtain ⟨ad718, e718, hx718_0, hx718_1, hx718_2, hx718_3, hx718_4, hx718_5, hx718_6⟩ := at_T75 HR0.out x5_1 p718 q718
            cases e718
            replace p718 := eq_true p718
            replace q718 := eq_true q718
            have p719 : 0 ≤ (x5_1 : Int) := of_decide_eq_true aT
            have q719 : x5_1 < (l0.length : Int) := of_decide_eq_true aT
            obtain ⟨ad719, e719, hx719_0, hx719_1, hx719_2, hx719_3, hx719_4, hx719_5, hx719_6⟩ := at_T75 HR0.out x5_1 p719 q719
            obtain rfl : ad718 = ad719 := (by injection e719)
            replace p719 := eq_true p719
            replace q719 := eq_true q719
            have p720 : 0 ≤ (x5_1 : Int) := of_decide_eq_true aT
            have q720 : x5_1 < (l0.length : Int) := of_decide_eq_true aT
            obtain ⟨ad720, e720, hx720_0, hx720_1, hx720_2, hx720_3, hx720_4, hx720_5, hx720_6⟩ := at_T75 HR0.out x5_1 p720 q720
            obtain rfl : ad718 = ad720 := (by injection e720)
            replace p720 := eq_true p720
            replace q720 := eq_true q720
            have p721 : 0 ≤ (x5_1 : Int) := of_decide_eq_true aT
            have q721 : x5_1 < (l0.length : Int) := of_decide_eq_true aT
            obtain ⟨ad721, e721, hx721_0, hx721_1, hx721_2, hx721_3, hx721_4, hx721_5, hx721_6⟩ := at_T75 HR0.out x5_1 p721 q721
            obtain rfl : ad718 = ad721 := (by injection e721)
            replace p721 := eq_true p721
            replace q721 := eq_true q721
            have p722 : 0 ≤ (x5_1 : Int) := of_decide_eq_true aT
            have q722 : x5_1 < (l0.length : Int) := of_decide_eq_true aT
            obtain ⟨ad722, e722, hx722_0, hx722_1, hx722_2, hx722_3, hx722_4, hx722_5, hx722_6⟩ := at_T75 HR0.out x5_1 p722 q722
            obtain rfl : ad718 = ad722 := (by injection e722)
            replace p722 := eq_true p722
            replace q722 := eq_true q722
            have p723 : 0 ≤ (x5_1 : Int) := of_decide_eq_true aT
            have q723 : x5_1 < (l0.length : Int) := of_decide_eq_true aT
            obtain ⟨ad723, e723, hx723_0, hx723_1, hx723_2, hx723_3, hx723_4, hx723_5, hx723_6⟩ := at_T75 HR0.out x5_1 p723 q723
            obtain rfl : ad718 = ad723 := (by injection e723)
            replace p723 := eq_true p723
            replace q723 := eq_true q723
            have p724 : 0 ≤ (x5_1 : Int) := of_decide_eq_true aT
            have q724 : x5_1 < (l0.length : Int) := of_decide_eq_true aT
            obtain ⟨ad724, e724, hx724_0, hx724_1, hx724_2, hx724_3, hx724_4, hx724_5, hx724_6⟩ := at_T75 HR0.out x5_1 p724 q724
            obtain rfl : ad718 = ad724 := (by injection e724)
            replace p724 := eq_true p724
            replace q724 := eq_true q724
            go_wp2
            go_roundg k1
            case measure => have := HK1.out; omega
            case rel => exact ⟨(wrap64 ((wrap64 ((wrap64 ((wrap64 ((wrap64 ((wrap64 ((wrap64 (x1_1 + 1)) + 1)) + 1)) + 1)) + 1)) + 1)) + 1)), (wrap64 (x5_1 + 1)), sT, sT, H', ⟨by have := HK1.out; omega⟩, by repeat (first | exact Drawn0.refl _ | apply Drawn0.step)⟩
          ·
           rw [if_neg c10] at H
           have c10b0 : (((rd_T75 l0 x5_1).f1.f2) == (wrap64 ((wrap64 ((wrap64 ((wrap64 ((wrap64 (x1_1 + 1)) + 1)) + 1)) + 1)) + 1))) = false := beq_eq_false_iff_ne.mpr c10
           have c10b1 : (((rd_T75 l0 x5_1).f1.f2) != (wrap64 ((wrap64 ((wrap64 ((wrap64 ((wrap64 (x1_1 + 1)) + 1)) + 1)) + 1)) + 1))) = true := bne_iff_ne.mpr c10
           obtain rfl := Option.some.inj H
           have p718 : 0 ≤ (x5_1 : Int) := of_decide_eq_true aT
           have q718 : x5_1 < (l0.length : Int) := of_decide_eq_true aT
           obtain ⟨ad718, e718, hx718_0, hx718_1, hx718_2, hx718_3, hx718_4, hx718_5, hx718_6⟩ := at_T75 HR0.out x5_1 p718 q718
           cases e718
           replace p718 := eq_true p718
           replace q718 := eq_true q718
           have p719 : 0 ≤ (x5_1 : Int) := of_decide_eq_true aT
           have q719 : x5_1 < (l0.length : Int) := of_decide_eq_true aT
           obtain ⟨ad719, e719, hx719_0, hx719_1, hx719_2, hx719_3, hx719_4, hx719_5, hx719_6⟩ := at_T75 HR0.out x5_1 p719 q719
           obtain rfl : ad718 = ad719 := (by injection e719)
           replace p719 := eq_true p719
           replace q719 := eq_true q719
           have p720 : 0 ≤ (x5_1 : Int) := of_decide_eq_true aT
           have q720 : x5_1 < (l0.length : Int) := of_decide_eq_true aT
           obtain ⟨ad720, e720, hx720_0, hx720_1, hx720_2, hx720_3, hx720_4, hx720_5, hx720_6⟩ := at_T75 HR0.out x5_1 p720 q720
           obtain rfl : ad718 = ad720 := (by injection e720)
           replace p720 := eq_true p720
           replace q720 := eq_true q720
           have p721 : 0 ≤ (x5_1 : Int) := of_decide_eq_true aT
           have q721 : x5_1 < (l0.length : Int) := of_decide_eq_true aT
           obtain ⟨ad721, e721, hx721_0, hx721_1, hx721_2, hx721_3, hx721_4, hx721_5, hx721_6⟩ := at_T75 HR0.out x5_1 p721 q721
           obtain rfl : ad718 = ad721 := (by injection e721)
           replace p721 := eq_true p721
           replace q721 := eq_true q721
           have p722 : 0 ≤ (x5_1 : Int) := of_decide_eq_true aT
           have q722 : x5_1 < (l0.length : Int) := of_decide_eq_true aT
           obtain ⟨ad722, e722, hx722_0, hx722_1, hx722_2, hx722_3, hx722_4, hx722_5, hx722_6⟩ := at_T75 HR0.out x5_1 p722 q722
           obtain rfl : ad718 = ad722 := (by injection e722)
           replace p722 := eq_true p722
           replace q722 := eq_true q722
           have p723 : 0 ≤ (x5_1 : Int) := of_decide_eq_true aT
           have q723 : x5_1 < (l0.length : Int) := of_decide_eq_true aT
           obtain ⟨ad723, e723, hx723_0, hx723_1, hx723_2, hx723_3, hx723_4, hx723_5, hx723_6⟩ := at_T75 HR0.out x5_1 p723 q723
           obtain rfl : ad718 = ad723 := (by injection e723)
           replace p723 := eq_true p723
           replace q723 := eq_true q723
           go_wp2
           go_ret
           exact ⟨sT, by repeat (first | exact Drawn0.refl _ | apply Drawn0.step)⟩
         ·
          rw [if_neg c9] at H
          have c9b0 : (((rd_T75 l0 x5_1).f1.f1) == (wrap64 ((wrap64 ((wrap64 ((wrap64 (x1_1 + 1)) + 1)) + 1)) + 1))) = false := beq_eq_false_iff_ne.mpr c9
          have c9b1 : (((rd_T75 l0 x5_1).f1.f1) != (wrap64 ((wrap64 ((wrap64 ((wrap64 (x1_1 + 1)) + 1)) + 1)) + 1))) = true := bne_iff_ne.mpr c9
          obtain rfl := Option.some.inj H
          have p718 : 0 ≤ (x5_1 : Int) := of_decide_eq_true aT
          have q718 : x5_1 < (l0.length : Int) := of_decide_eq_true aT
          obtain ⟨ad718, e718, hx718_0, hx718_1, hx718_2, hx718_3, hx718_4, hx718_5, hx718_6⟩ := at_T75 HR0.out x5_1 p718 q718
          cases e718
          replace p718 := eq_true p718
          replace q718 := eq_true q718
          have p719 : 0 ≤ (x5_1 : Int) := of_decide_eq_true aT
          have q719 : x5_1 < (l0.length : Int) := of_decide_eq_true aT
          obtain ⟨ad719, e719, hx719_0, hx719_1, hx719_2, hx719_3, hx719_4, hx719_5, hx719_6⟩ := at_T75 HR0.out x5_1 p719 q719
          obtain rfl : ad718 = ad719 := (by injection e719)
          replace p719 := eq_true p719
          replace q719 := eq_true q719
          have p720 : 0 ≤ (x5_1 : Int) := of_decide_eq_true aT
          have q720 : x5_1 < (l0.length : Int) := of_decide_eq_true aT
          obtain ⟨ad720, e720, hx720_0, hx720_1, hx720_2, hx720_3, hx720_4, hx720_5, hx720_6⟩ := at_T75 HR0.out x5_1 p720 q720
          obtain rfl : ad718 = ad720 := (by injection e720)
          replace p720 := eq_true p720
          replace q720 := eq_true q720
          have p721 : 0 ≤ (x5_1 : Int) := of_decide_eq_true aT
          have q721 : x5_1 < (l0.length : Int) := of_decide_eq_true aT
          obtain ⟨ad721, e721, hx721_0, hx721_1, hx721_2, hx721_3, hx721_4, hx721_5, hx721_6⟩ := at_T75 HR0.out x5_1 p721 q721
          obtain rfl : ad718 = ad721 := (by injection e721)
          replace p721 := eq_true p721
          replace q721 := eq_true q721
          have p722 : 0 ≤ (x5_1 : Int) := of_decide_eq_true aT
          have q722 : x5_1 < (l0.length : Int) := of_decide_eq_true aT
          obtain ⟨ad722, e722, hx722_0, hx722_1, hx722_2, hx722_3, hx722_4, hx722_5, hx722_6⟩ := at_T75 HR0.out x5_1 p722 q722
          obtain rfl : ad718 = ad722 := (by injection e722)
          replace p722 := eq_true p722
          replace q722 := eq_true q722
          go_wp2
          go_ret
          exact ⟨sT, by repeat (first | exact Drawn0.refl _ | apply Drawn0.step)⟩
        ·
         rw [if_neg c8] at H
         have c8b0 : (((rd_T75 l0 x5_1).f1.f0) == (wrap64 ((wrap64 ((wrap64 (x1_1 + 1)) + 1)) + 1))) = false := beq_eq_false_iff_ne.mpr c8
         have c8b1 : (((rd_T75 l0 x5_1).f1.f0) != (wrap64 ((wrap64 ((wrap64 (x1_1 + 1)) + 1)) + 1))) = true := bne_iff_ne.mpr c8
         obtain rfl := Option.some.inj H
         have p718 : 0 ≤ (x5_1 : Int) := of_decide_eq_true aT
         have q718 : x5_1 < (l0.length : Int) := of_decide_eq_true aT
         obtain ⟨ad718, e718, hx718_0, hx718_1, hx718_2, hx718_3, hx718_4, hx718_5, hx718_6⟩ := at_T75 HR0.out x5_1 p718 q718
         cases e718
         replace p718 := eq_true p718
         replace q718 := eq_true q718
         have p719 : 0 ≤ (x5_1 : Int) := of_decide_eq_true aT
         have q719 : x5_1 < (l0.length : Int) := of_decide_eq_true aT
         obtain ⟨ad719, e719, hx719_0, hx719_1, hx719_2, hx719_3, hx719_4, hx719_5, hx719_6⟩ := at_T75 HR0.out x5_1 p719 q719
         obtain rfl : ad718 = ad719 := (by injection e719)
         replace p719 := eq_true p719
         replace q719 := eq_true q719
         have p720 : 0 ≤ (x5_1 : Int) := of_decide_eq_true aT
         have q720 : x5_1 < (l0.length : Int) := of_decide_eq_true aT
         obtain ⟨ad720, e720, hx720_0, hx720_1, hx720_2, hx720_3, hx720_4, hx720_5, hx720_6⟩ := at_T75 HR0.out x5_1 p720 q720
         obtain rfl : ad718 = ad720 := (by injection e720)
         replace p720 := eq_true p720
         replace q720 := eq_true q720
         have p721 : 0 ≤ (x5_1 : Int) := of_decide_eq_true aT
         have q721 : x5_1 < (l0.length : Int) := of_decide_eq_true aT
         obtain ⟨ad721, e721, hx721_0, hx721_1, hx721_2, hx721_3, hx721_4, hx721_5, hx721_6⟩ := at_T75 HR0.out x5_1 p721 q721
         obtain rfl : ad718 = ad721 := (by injection e721)
         replace p721 := eq_true p721
         replace q721 := eq_true q721
         go_wp2
         go_ret
         exact ⟨sT, by repeat (first | exact Drawn0.refl _ | apply Drawn0.step)⟩
       ·
        rw [if_neg c7] at H
        have c7b0 : (((rd_T75 l0 x5_1).f0.f2) == (wrap64 ((wrap64 (x1_1 + 1)) + 1))) = false := beq_eq_false_iff_ne.mpr c7
        have c7b1 : (((rd_T75 l0 x5_1).f0.f2) != (wrap64 ((wrap64 (x1_1 + 1)) + 1))) = true := bne_iff_ne.mpr c7
        obtain rfl := Option.some.inj H
        have p718 : 0 ≤ (x5_1 : Int) := of_decide_eq_true aT
        have q718 : x5_1 < (l0.length : Int) := of_decide_eq_true aT
        obtain ⟨ad718, e718, hx718_0, hx718_1, hx718_2, hx718_3, hx718_4, hx718_5, hx718_6⟩ := at_T75 HR0.out x5_1 p718 q718
        cases e718
        replace p718 := eq_true p718
        replace q718 := eq_true q718
        have p719 : 0 ≤ (x5_1 : Int) := of_decide_eq_true aT
        have q719 : x5_1 < (l0.length : Int) := of_decide_eq_true aT
        obtain ⟨ad719, e719, hx719_0, hx719_1, hx719_2, hx719_3, hx719_4, hx719_5, hx719_6⟩ := at_T75 HR0.out x5_1 p719 q719
        obtain rfl : ad718 = ad719 := (by injection e719)
        replace p719 := eq_true p719
        replace q719 := eq_true q719
        have p720 : 0 ≤ (x5_1 : Int) := of_decide_eq_true aT
        have q720 : x5_1 < (l0.length : Int) := of_decide_eq_true aT
        obtain ⟨ad720, e720, hx720_0, hx720_1, hx720_2, hx720_3, hx720_4, hx720_5, hx720_6⟩ := at_T75 HR0.out x5_1 p720 q720
        obtain rfl : ad718 = ad720 := (by injection e720)
        replace p720 := eq_true p720
        replace q720 := eq_true q720
        go_wp2
        go_ret
        exact ⟨sT, by repeat (first | exact Drawn0.refl _ | apply Drawn0.step)⟩
      ·
       rw [if_neg c6] at H
       have c6b0 : (((rd_T75 l0 x5_1).f0.f1) == (wrap64 (x1_1 + 1))) = false := beq_eq_false_iff_ne.mpr c6
       have c6b1 : (((rd_T75 l0 x5_1).f0.f1) != (wrap64 (x1_1 + 1))) = true := bne_iff_ne.mpr c6
       obtain rfl := Option.some.inj H
       have p718 : 0 ≤ (x5_1 : Int) := of_decide_eq_true aT
       have q718 : x5_1 < (l0.length : Int) := of_decide_eq_true aT
       obtain ⟨ad718, e718, hx718_0, hx718_1, hx718_2, hx718_3, hx718_4, hx718_5, hx718_6⟩ := at_T75 HR0.out x5_1 p718 q718
       cases e718
       replace p718 := eq_true p718
       replace q718 := eq_true q718
       have p719 : 0 ≤ (x5_1 : Int) := of_decide_eq_true aT
       have q719 : x5_1 < (l0.length : Int) := of_decide_eq_true aT
       obtain ⟨ad719, e719, hx719_0, hx719_1, hx719_2, hx719_3, hx719_4, hx719_5, hx719_6⟩ := at_T75 HR0.out x5_1 p719 q719
       obtain rfl : ad718 = ad719 := (by injection e719)
       replace p719 := eq_true p719
       replace q719 := eq_true q719
       go_wp2
       go_ret
       exact ⟨sT, by repeat (first | exact Drawn0.refl _ | apply Drawn0.step)⟩
     ·
      rw [if_neg c5] at H
      have c5b0 : (((rd_T75 l0 x5_1).f0.f0) == x1_1) = false := beq_eq_false_iff_ne.mpr c5
      have c5b1 : (((rd_T75 l0 x5_1).f0.f0) != x1_1) = true := bne_iff_ne.mpr c5
      obtain rfl := Option.some.inj H
      have p718 : 0 ≤ (x5_1 : Int) := of_decide_eq_true aT
      have q718 : x5_1 < (l0.length : Int) := of_decide_eq_true aT
      obtain ⟨ad718, e718, hx718_0, hx718_1, hx718_2, hx718_3, hx718_4, hx718_5, hx718_6⟩ := at_T75 HR0.out x5_1 p718 q718
      cases e718
      replace p718 := eq_true p718
      replace q718 := eq_true q718
      go_wp2
      go_ret
      exact ⟨sT, by repeat (first | exact Drawn0.refl _ | apply Drawn0.step)⟩
    ·
     rw [if_neg c4] at H
     exact absurd H (by simp)
   ·
    rw [if_neg c3] at H
    have c3b0 : decide (x5_1 < (l0.length : Int)) = false := decide_eq_false c3
    clear c3
    obtain rfl := Option.some.inj H
    go_wp2
    go_ret
    exact ⟨sT, by repeat (first | exact Drawn0.refl _ | apply Drawn0.step)⟩

end Go.Proofs.Ythciieopabndcaa.P
