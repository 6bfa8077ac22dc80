/- Walks: what the functions compute. Printed by gen.py; no condition. -/
import Derived.Test.YtoncjohnkiilcaaVFnExactRollupGroupsb
namespace Go.Proofs.Ytoncjohnkiilcaa.K
open Go Go.RowKit
set_option linter.unusedVariables false
set_option linter.unusedSimpArgs false
mutual
def slices_pdqsortCmpFunc_impl_Group_at93.j3 : Nat → (List S88) → Int → Int → Int → Int → Int → Option ((List S88))
 | 0, _, _, _, _, _, _ => none
 | k + 1, x9_ml0, x9_1, x9_2, x9_3, x9_12, x9_13 => (slices_partitionCmpFunc_impl_Group_at93.f k x9_ml0 x9_1 x9_2 x9_13).bind fun bt10 => (if (wrap64 (bt10.1 - x9_1)) < (wrap64 (x9_2 - bt10.1)) then ((slices_pdqsortCmpFunc_impl_Group_at93.f k bt10.2.2 x9_1 bt10.1 x9_3).bind fun t12 => (slices_pdqsortCmpFunc_impl_Group_at93.l0 k t12 (wrap64 (bt10.1 + 1)) x9_2 x9_3 (decide ((wrap64 (bt10.1 - x9_1)) ≥ (wrap64 (Int.tdiv x9_12 8)))) bt10.2.1)) else ((slices_pdqsortCmpFunc_impl_Group_at93.f k bt10.2.2 (wrap64 (bt10.1 + 1)) x9_2 x9_3).bind fun t13 => (slices_pdqsortCmpFunc_impl_Group_at93.l0 k t13 x9_1 bt10.1 x9_3 (decide ((wrap64 (x9_2 - bt10.1)) ≥ (wrap64 (Int.tdiv x9_12 8)))) bt10.2.1)))
def slices_pdqsortCmpFunc_impl_Group_at93.j2 : Nat → (List S88) → Int → Int → Int → Bool → Bool → Int → Int → Option ((List S88))
 | 0, _, _, _, _, _, _, _, _ => none
 | k + 1, x8_ml0, x8_1, x8_2, x8_3, x8_10, x8_11, x8_12, x8_13 => if x8_1 > 0 then (if 0 ≤ (wrap64 (x8_1 - 1)) then (if (wrap64 (x8_1 - 1)) < (x8_ml0.length : Int) then (if 0 ≤ x8_13 then (if x8_13 < (x8_ml0.length : Int) then ((impl_MergeGroups_1.f ((rd_T88 x8_ml0 (wrap64 (x8_1 - 1))).f0) ((rd_T88 x8_ml0 (wrap64 (x8_1 - 1))).f1) ((rd_T88 x8_ml0 (wrap64 (x8_1 - 1))).f2) ((rd_T88 x8_ml0 (wrap64 (x8_1 - 1))).f3) ((rd_T88 x8_ml0 (wrap64 (x8_1 - 1))).f4) ((rd_T88 x8_ml0 x8_13).f0) ((rd_T88 x8_ml0 x8_13).f1) ((rd_T88 x8_ml0 x8_13).f2) ((rd_T88 x8_ml0 x8_13).f3) ((rd_T88 x8_ml0 x8_13).f4)).bind fun t19 => (if t19 < 0 then (slices_pdqsortCmpFunc_impl_Group_at93.j3 k x8_ml0 x8_1 x8_2 x8_3 x8_12 x8_13) else (none))) else none) else none) else none) else none) else (slices_pdqsortCmpFunc_impl_Group_at93.j3 k x8_ml0 x8_1 x8_2 x8_3 x8_12 x8_13)
def slices_pdqsortCmpFunc_impl_Group_at93.j1 : Nat → (List S88) → Int → Int → Int → Bool → Bool → Int → Int → Int → Option ((List S88))
 | 0, _, _, _, _, _, _, _, _, _ => none
 | k + 1, x7_ml0, x7_1, x7_2, x7_3, x7_10, x7_11, x7_12, x7_13, x7_14 => if x7_10 = true then (if x7_11 = true then (if x7_14 = 1 then ((slices_partialInsertionSortCmpFunc_impl_Group_at93.f k x7_ml0 x7_1 x7_2).bind fun bt24 => (if bt24.1 = true then (some bt24.2) else (slices_pdqsortCmpFunc_impl_Group_at93.j2 k bt24.2 x7_1 x7_2 x7_3 true true x7_12 x7_13))) else (slices_pdqsortCmpFunc_impl_Group_at93.j2 k x7_ml0 x7_1 x7_2 x7_3 true true x7_12 x7_13)) else (slices_pdqsortCmpFunc_impl_Group_at93.j2 k x7_ml0 x7_1 x7_2 x7_3 true false x7_12 x7_13)) else (slices_pdqsortCmpFunc_impl_Group_at93.j2 k x7_ml0 x7_1 x7_2 x7_3 false x7_11 x7_12 x7_13)
def slices_pdqsortCmpFunc_impl_Group_at93.j0 : Nat → (List S88) → Int → Int → Int → Bool → Bool → Int → Option ((List S88))
 | 0, _, _, _, _, _, _, _ => none
 | k + 1, x6_ml0, x6_1, x6_2, x6_3, x6_10, x6_11, x6_12 => (slices_choosePivotCmpFunc_impl_Group_at93.f k x6_ml0 x6_1 x6_2).bind fun bt6 => (if bt6.2 = 2 then ((slices_reverseRangeCmpFunc_impl_Group_at93.f k x6_ml0 x6_1 x6_2).bind fun t27 => (slices_pdqsortCmpFunc_impl_Group_at93.j1 k t27 x6_1 x6_2 x6_3 x6_10 x6_11 x6_12 (wrap64 ((wrap64 (x6_2 - 1)) - (wrap64 (bt6.1 - x6_1)))) 1)) else (slices_pdqsortCmpFunc_impl_Group_at93.j1 k x6_ml0 x6_1 x6_2 x6_3 x6_10 x6_11 x6_12 bt6.1 bt6.2))
def slices_pdqsortCmpFunc_impl_Group_at93.l0 : Nat → (List S88) → Int → Int → Int → Bool → Bool → Option ((List S88))
 | 0, _, _, _, _, _, _ => none
 | k + 1, x1_ml0, x1_1, x1_2, x1_3, x1_10, x1_11 => if (wrap64 (x1_2 - x1_1)) ≤ 12 then ((slices_insertionSortCmpFunc_impl_Group_at93.f k x1_ml0 x1_1 x1_2).bind fun t2 => (some t2)) else (if x1_3 = 0 then ((slices_heapSortCmpFunc_impl_Group_at93.f k x1_ml0 x1_1 x1_2).bind fun t4 => (some t4)) else (if x1_10 = true then (slices_pdqsortCmpFunc_impl_Group_at93.j0 k x1_ml0 x1_1 x1_2 x1_3 true x1_11 (wrap64 (x1_2 - x1_1))) else ((slices_breakPatternsCmpFunc_impl_Group_at93.f k x1_ml0 x1_1 x1_2).bind fun t29 => (slices_pdqsortCmpFunc_impl_Group_at93.j0 k t29 x1_1 x1_2 (wrap64 (x1_3 - 1)) false x1_11 (wrap64 (x1_2 - x1_1))))))
def slices_pdqsortCmpFunc_impl_Group_at93.f : Nat → (List S88) → Int → Int → Int → Option ((List S88))
 | 0, _, _, _, _ => none
 | k + 1, l0, a1, a2, a3 => slices_pdqsortCmpFunc_impl_Group_at93.l0 k l0 a1 a2 a3 true true
end
set_option maxHeartbeats 4000000 in
set_option maxRecDepth 100000 in
theorem slices_pdqsortCmpFunc_impl_Group_at93.ok_ : ∀ (N k : Nat) (hk : k ≤ N) (l0 : List S88) (Al0 : Option Addr) (cl0 : Nat) (a1 : Int) (a2 : Int) (a3 : Int) (r0 : List S88) (h : slices_pdqsortCmpFunc_impl_Group_at93.f k l0 a1 a2 a3 = some r0), Fn Try.prog 102 [.slice Al0 l0.length cl0, .int .i64 a1, .int .i64 a2, .int .i64 a3, .func (.func 93) #[] #[]] [] [.sl 1 k88 Al0 cl0 l0 1 false] (fun v bx en => v = .tuple #[] ∧ bx = [] ∧ en = [.sl 1 k88 Al0 cl0 r0 1 false] ∧ r0.length = l0.length) := by
 intro N
 induction N with
 | zero => intro k hk l0 Al0 cl0 a1 a2 a3 r0 h; obtain rfl : k = 0 := by omega
           rw [slices_pdqsortCmpFunc_impl_Group_at93.f] at h; cases h
 | succ N ih =>
 intro k hk l0 Al0 cl0 a1 a2 a3 r0 H
 rcases k with _ | k
 · rw [slices_pdqsortCmpFunc_impl_Group_at93.f] at H; cases H
 refine fn_ 148 Try.func102 rfl rfl rfl (fun base T w0 => ?_)
 rw [slices_pdqsortCmpFunc_impl_Group_at93.f] at H
 refine gs (rg (sv (EV.as rfl) rfl (re (gs (rg (sv (EV.as rfl) rfl (re (gb ?_))))))))
 refine lo (fun kk S => ∃ (x1_ml0 : List S88) (x1_1 : Int) (x1_2 : Int) (x1_3 : Int) (x1_10 : Bool) (x1_11 : Bool), kk ≤ k ∧ slices_pdqsortCmpFunc_impl_Group_at93.l0 kk x1_ml0 x1_1 x1_2 x1_3 x1_10 x1_11 = some r0 ∧ x1_ml0.length = l0.length ∧ S = ⟨[(0, .slice Al0 x1_ml0.length cl0), (1, .int .i64 x1_1), (2, .int .i64 x1_2), (3, .int .i64 x1_3), (4, .func (.func 93) #[] #[]), (10, .bool x1_10), (11, .bool x1_11)], [], [.sl 1 k88 Al0 cl0 x1_ml0 1 false]⟩) (fun S hS => ?_) (fun n0 ih0 S hS => ?_) ⟨l0, a1, a2, a3, true, true, by omega, H, (by first | rfl | assumption | omega | (simp only [List.length_set]; first | done | assumption | omega)), rfl⟩ (fun h => wk [0, 1, 2, 3, 4, 10, 11] [] [⟨0, 1, 1, false⟩] h)
 · clear H; obtain ⟨_, _, _, _, _, _, _, H, _⟩ := hS; rw [slices_pdqsortCmpFunc_impl_Group_at93.l0] at H; cases H
 clear H
 obtain ⟨x1_ml0, x1_1, x1_2, x1_3, x1_10, x1_11, lk0, H, ex1_ml0, rfl⟩ := hS
 rw [slices_pdqsortCmpFunc_impl_Group_at93.l0] at H
 refine gb (gs (rg (sv (EV.mv rfl) rfl (sv (EV.mv rfl) rfl (sv (EV.sub rfl rfl) rfl (sv (EV.as rfl) rfl (re (gs (gs (rg (sv (EV.mv rfl) rfl (sv (EV.leq rfl rfl) rfl (re ?_)))))))))))))
 revert H; refine ifsI ?_ ?_ <;> intro c1 H
 ·
  refine gt rfl (dT c1) (gs (rg (sv (EV.mv rfl) rfl (sv (EV.mv rfl) rfl (sv (EV.mv rfl) rfl (sv (EV.mv rfl) rfl ?_))))))
  revert H; refine bdI ?_; rintro t2 A2 H
  refine so rfl (op_callM (slices_insertionSortCmpFunc_impl_Group_at93.ok n0 x1_ml0 Al0 cl0 x1_1 x1_2 _ A2) [⟨0, 1, 1, false⟩] [] [] 2 rfl rfl rfl rfl rfl rfl rfl rfl ?_)
  rintro _ _ _ ⟨rfl, rfl, rfl, q2_0⟩
  refine rlT 0 (v' := .slice Al0 t2.length cl0) rfl (slq _ _ q2_0) (rlT 26 (v' := .slice Al0 t2.length cl0) rfl (slq _ _ q2_0) (nmE (en := [.sl 1 k88 Al0 cl0 t2 3 false]) (by kernel_rfl) (re (pr [] [] [0] rfl rfl rfl rfl ?_))))
  cases H
  exact rt Try.func102 rfl .nil rfl [] [⟨0, 1, 1, false⟩] rfl rfl rfl rfl rfl ⟨rfl, rfl, rfl, by first | rfl | assumption | omega | (simp only [List.length_set]; first | done | assumption | omega)⟩
 ·
  refine gf rfl (dF c1) (gk (gs (gs (rg (sv (EV.mv rfl) rfl (sv (EV.eql rfl rfl) rfl (re (pr [0, 1, 2, 3, 4, 10, 11, 12, 32] [] [0] rfl rfl rfl rfl ?_))))))))
  revert H; refine ifsI ?_ ?_ <;> intro c3 H
  ·
   refine gt rfl (dT c3) (gs (rg (sv (EV.mv rfl) rfl (sv (EV.mv rfl) rfl (sv (EV.mv rfl) rfl (sv (EV.mv rfl) rfl ?_))))))
   revert H; refine bdI ?_; rintro t4 A4 H
   refine so rfl (op_callM (slices_heapSortCmpFunc_impl_Group_at93.ok n0 x1_ml0 Al0 cl0 x1_1 x1_2 _ A4) [⟨0, 1, 1, false⟩] [] [] 2 rfl rfl rfl rfl rfl rfl rfl rfl ?_)
   rintro _ _ _ ⟨rfl, rfl, rfl, q4_0⟩
   refine rlT 0 (v' := .slice Al0 t4.length cl0) rfl (slq _ _ q4_0) (rlT 33 (v' := .slice Al0 t4.length cl0) rfl (slq _ _ q4_0) (nmE (en := [.sl 1 k88 Al0 cl0 t4 3 false]) (by kernel_rfl) (re (pr [] [] [0] rfl rfl rfl rfl ?_))))
   cases H
   exact rt Try.func102 rfl .nil rfl [] [⟨0, 1, 1, false⟩] rfl rfl rfl rfl rfl ⟨rfl, rfl, rfl, by first | rfl | assumption | omega | (simp only [List.length_set]; first | done | assumption | omega)⟩
  ·
   refine gf rfl (dF c3) (gk ?_)
   refine jo (fun S => ∃ (m : Nat) (x6_ml0 : List S88) (x6_1 : Int) (x6_2 : Int) (x6_3 : Int) (x6_10 : Bool) (x6_11 : Bool) (x6_12 : Int), m ≤ n0 ∧ slices_pdqsortCmpFunc_impl_Group_at93.j0 m x6_ml0 x6_1 x6_2 x6_3 x6_10 x6_11 x6_12 = some r0 ∧ x6_ml0.length = l0.length ∧ S = ⟨[(0, .slice Al0 x6_ml0.length cl0), (1, .int .i64 x6_1), (2, .int .i64 x6_2), (3, .int .i64 x6_3), (4, .func (.func 93) #[] #[]), (10, .bool x6_10), (11, .bool x6_11), (12, .int .i64 x6_12)], [], [.sl 1 k88 Al0 cl0 x6_ml0 1 false]⟩) (fun S hS => ?_) (fun jh0 => ?_)
   ·
    clear H
    obtain ⟨m5, x6_ml0, x6_1, x6_2, x6_3, x6_10, x6_11, x6_12, lm5, H, ex6_ml0, rfl⟩ := hS
    rcases m5 with _ | m5
    · rw [slices_pdqsortCmpFunc_impl_Group_at93.j0] at H; cases H
    rw [slices_pdqsortCmpFunc_impl_Group_at93.j0] at H
    refine gs (rg (sv (EV.mv rfl) rfl (sv (EV.mv rfl) rfl (sv (EV.mv rfl) rfl (sv (EV.mv rfl) rfl ?_)))))
    revert H; refine bdI ?_; rintro ⟨t6_0, t6_1⟩ A6 H
    refine so rfl (op_call (slices_choosePivotCmpFunc_impl_Group_at93.ok m5 x6_ml0 Al0 cl0 x6_1 x6_2 _ _ A6) [⟨0, 0, 0, false⟩] 2 rfl rfl rfl rfl rfl ?_)
    rintro _ _ _ ⟨rfl, rfl, rfl⟩
    refine sv (EV.mv rfl) rfl (sv (EV.ex rfl rfl) rfl (sv (EV.ex rfl rfl) rfl (sv (EV.as rfl) rfl (sv (EV.as rfl) rfl (re (pr [0, 1, 2, 3, 4, 10, 11, 12, 13, 14] [] [0] rfl rfl rfl rfl ?_))))))
    refine jo (fun S => ∃ (m : Nat) (x7_ml0 : List S88) (x7_1 : Int) (x7_2 : Int) (x7_3 : Int) (x7_10 : Bool) (x7_11 : Bool) (x7_12 : Int) (x7_13 : Int) (x7_14 : Int), m ≤ m5 ∧ slices_pdqsortCmpFunc_impl_Group_at93.j1 m x7_ml0 x7_1 x7_2 x7_3 x7_10 x7_11 x7_12 x7_13 x7_14 = some r0 ∧ x7_ml0.length = l0.length ∧ S = ⟨[(0, .slice Al0 x7_ml0.length cl0), (1, .int .i64 x7_1), (2, .int .i64 x7_2), (3, .int .i64 x7_3), (4, .func (.func 93) #[] #[]), (10, .bool x7_10), (11, .bool x7_11), (12, .int .i64 x7_12), (13, .int .i64 x7_13), (14, .int .i64 x7_14)], [], [.sl 1 k88 Al0 cl0 x7_ml0 1 false]⟩) (fun S hS => ?_) (fun jh1 => ?_)
    ·
     clear H
     obtain ⟨m7, x7_ml0, x7_1, x7_2, x7_3, x7_10, x7_11, x7_12, x7_13, x7_14, lm7, H, ex7_ml0, rfl⟩ := hS
     rcases m7 with _ | m7
     · rw [slices_pdqsortCmpFunc_impl_Group_at93.j1] at H; cases H
     rw [slices_pdqsortCmpFunc_impl_Group_at93.j1] at H
     refine jo (fun S => ∃ (m : Nat) (x8_ml0 : List S88) (x8_1 : Int) (x8_2 : Int) (x8_3 : Int) (x8_10 : Bool) (x8_11 : Bool) (x8_12 : Int) (x8_13 : Int), m ≤ m7 ∧ slices_pdqsortCmpFunc_impl_Group_at93.j2 m x8_ml0 x8_1 x8_2 x8_3 x8_10 x8_11 x8_12 x8_13 = some r0 ∧ x8_ml0.length = l0.length ∧ S = ⟨[(0, .slice Al0 x8_ml0.length cl0), (1, .int .i64 x8_1), (2, .int .i64 x8_2), (3, .int .i64 x8_3), (4, .func (.func 93) #[] #[]), (10, .bool x8_10), (11, .bool x8_11), (12, .int .i64 x8_12), (13, .int .i64 x8_13)], [], [.sl 1 k88 Al0 cl0 x8_ml0 1 false]⟩) (fun S hS => ?_) (fun jh2 => ?_)
     ·
      clear H
      obtain ⟨m8, x8_ml0, x8_1, x8_2, x8_3, x8_10, x8_11, x8_12, x8_13, lm8, H, ex8_ml0, rfl⟩ := hS
      rcases m8 with _ | m8
      · rw [slices_pdqsortCmpFunc_impl_Group_at93.j2] at H; cases H
      rw [slices_pdqsortCmpFunc_impl_Group_at93.j2] at H
      refine jo (fun S => ∃ (m : Nat) (x9_ml0 : List S88) (x9_1 : Int) (x9_2 : Int) (x9_3 : Int) (x9_12 : Int) (x9_13 : Int), m ≤ m8 ∧ slices_pdqsortCmpFunc_impl_Group_at93.j3 m x9_ml0 x9_1 x9_2 x9_3 x9_12 x9_13 = some r0 ∧ x9_ml0.length = l0.length ∧ S = ⟨[(0, .slice Al0 x9_ml0.length cl0), (1, .int .i64 x9_1), (2, .int .i64 x9_2), (3, .int .i64 x9_3), (4, .func (.func 93) #[] #[]), (12, .int .i64 x9_12), (13, .int .i64 x9_13)], [], [.sl 1 k88 Al0 cl0 x9_ml0 1 false]⟩) (fun S hS => ?_) (fun jh3 => ?_)
      ·
       clear H
       obtain ⟨m9, x9_ml0, x9_1, x9_2, x9_3, x9_12, x9_13, lm9, H, ex9_ml0, rfl⟩ := hS
       rcases m9 with _ | m9
       · rw [slices_pdqsortCmpFunc_impl_Group_at93.j3] at H; cases H
       rw [slices_pdqsortCmpFunc_impl_Group_at93.j3] at H
       refine gs (rg (sv (EV.mv rfl) rfl (sv (EV.mv rfl) rfl (sv (EV.mv rfl) rfl (sv (EV.mv rfl) rfl (sv (EV.mv rfl) rfl ?_))))))
       revert H; refine bdI ?_; rintro ⟨t10_0, t10_1, t10_2⟩ A10 H
       refine so rfl (op_callM (slices_partitionCmpFunc_impl_Group_at93.ok m9 x9_ml0 Al0 cl0 x9_1 x9_2 x9_13 _ _ _ A10) [⟨0, 1, 1, false⟩] [] [] 2 rfl rfl rfl rfl rfl rfl rfl rfl ?_)
       rintro _ _ _ ⟨rfl, rfl, rfl, q10_0⟩
       refine rlT 0 (v' := .slice Al0 t10_2.length cl0) rfl (slq _ _ q10_0) (rlT 106 (v' := .slice Al0 t10_2.length cl0) rfl (slq _ _ q10_0) (nmE (en := [.sl 1 k88 Al0 cl0 t10_2 3 false]) (by kernel_rfl) (sv (EV.mv rfl) rfl (sv (EV.ex rfl rfl) rfl (sv (EV.ex rfl rfl) rfl (sv (EV.as rfl) rfl (sv (EV.as rfl) rfl (re (pr [0, 1, 2, 3, 4, 12, 16, 17] [] [0] rfl rfl rfl rfl (gs (rg (sv (EV.mv rfl) rfl (sv (EV.as rfl) rfl (re (gs (rg (sv (EV.mv rfl) rfl (sv (EV.mv rfl) rfl (sv (EV.sub rfl rfl) rfl (sv (EV.mv rfl) rfl (sv (EV.mv rfl) rfl (sv (EV.sub rfl rfl) rfl (sv (EV.as rfl) rfl (sv (EV.as rfl) rfl (re (pr [0, 1, 2, 3, 4, 11, 12, 16, 18, 19] [] [0] rfl rfl rfl rfl (gs (rg (sv (EV.mv rfl) rfl ?_)))))))))))))))))))))))))))))
       refine sv (EV.quo rfl rfl dq) rfl (sv (EV.as rfl) rfl (re (gs (rg (sv (EV.mv rfl) rfl (sv (EV.mv rfl) rfl (sv (EV.lss rfl rfl) rfl (re ?_))))))))
       revert H; refine ifsI ?_ ?_ <;> intro c11 H
       ·
        refine gt rfl (dT c11) (gs (rg (sv (EV.mv rfl) rfl (sv (EV.mv rfl) rfl (sv (EV.geq rfl rfl) rfl (sv (EV.as rfl) rfl (re (pr [0, 1, 2, 3, 4, 10, 11, 16] [] [0] rfl rfl rfl rfl (gs (rg (sv (EV.mv rfl) rfl (sv (EV.mv rfl) rfl (sv (EV.mv rfl) rfl (sv (EV.mv rfl) rfl (sv (EV.mv rfl) rfl ?_)))))))))))))))
        revert H; refine bdI ?_; rintro t12 A12 H
        refine so rfl (op_callM ((ih m9 (by omega)) t10_2 Al0 cl0 x9_1 t10_0 x9_3 _ A12) [⟨0, 1, 1, false⟩] [] [] 4 rfl rfl rfl rfl rfl rfl rfl rfl ?_)
        rintro _ _ _ ⟨rfl, rfl, rfl, q12_0⟩
        exact rlT 0 (v' := .slice Al0 t12.length cl0) rfl (slq _ _ q12_0) (rlT 129 (v' := .slice Al0 t12.length cl0) rfl (slq _ _ q12_0) (nmE (en := [.sl 1 k88 Al0 cl0 t12 5 false]) (by kernel_rfl) (re (pr [0, 2, 3, 4, 10, 11, 16] [] [0] rfl rfl rfl rfl (rg (sv (EV.mv rfl) rfl (sv (EV.add rfl rfl) rfl (sv (EV.as rfl) rfl (re (ge (wk [0, 1, 2, 3, 4, 10, 11] [] [⟨0, 1, 1, false⟩] (ih0 _ (by omega) _ ⟨t12, wrap64 (t10_0 + 1), x9_2, x9_3, decide ((wrap64 (t10_0 - x9_1)) ≥ (wrap64 (Int.tdiv x9_12 8))), t10_1, by omega, H, (by first | rfl | assumption | omega | (simp only [List.length_set]; first | done | assumption | omega)), rfl⟩))))))))))))
       ·
        refine gf rfl (dF c11) (gs (rg (sv (EV.mv rfl) rfl (sv (EV.mv rfl) rfl (sv (EV.geq rfl rfl) rfl (sv (EV.as rfl) rfl (re (pr [0, 1, 2, 3, 4, 10, 11, 16] [] [0] rfl rfl rfl rfl (gs (rg (sv (EV.mv rfl) rfl (sv (EV.mv rfl) rfl (sv (EV.add rfl rfl) rfl (sv (EV.mv rfl) rfl (sv (EV.mv rfl) rfl (sv (EV.mv rfl) rfl ?_))))))))))))))))
        revert H; refine bdI ?_; rintro t13 A13 H
        refine so rfl (op_callM ((ih m9 (by omega)) t10_2 Al0 cl0 (wrap64 (t10_0 + 1)) x9_2 x9_3 _ A13) [⟨0, 1, 1, false⟩] [] [] 4 rfl rfl rfl rfl rfl rfl rfl rfl ?_)
        rintro _ _ _ ⟨rfl, rfl, rfl, q13_0⟩
        exact rlT 0 (v' := .slice Al0 t13.length cl0) rfl (slq _ _ q13_0) (rlT 140 (v' := .slice Al0 t13.length cl0) rfl (slq _ _ q13_0) (nmE (en := [.sl 1 k88 Al0 cl0 t13 5 false]) (by kernel_rfl) (re (pr [0, 1, 3, 4, 10, 11, 16] [] [0] rfl rfl rfl rfl (rg (sv (EV.mv rfl) rfl (sv (EV.as rfl) rfl (re (ge (wk [0, 1, 2, 3, 4, 10, 11] [] [⟨0, 1, 1, false⟩] (ih0 _ (by omega) _ ⟨t13, x9_1, t10_0, x9_3, decide ((wrap64 (x9_2 - t10_0)) ≥ (wrap64 (Int.tdiv x9_12 8))), t10_1, by omega, H, (by first | rfl | assumption | omega | (simp only [List.length_set]; first | done | assumption | omega)), rfl⟩)))))))))))
      ·
       refine gs (dr [] [0] [] 17 rfl rfl rfl rfl (xv 0 [] [0] rfl (EV.mv rfl) rfl rfl rfl rfl (xv 1 [] [0] rfl (EV.gtr rfl rfl) rfl rfl rfl rfl (xv 2 [] [0] rfl (EV.mv rfl) rfl rfl rfl rfl ?_))))
       revert H; refine ifsI ?_ ?_ <;> intro c14 H
       ·
        refine ts 83 rfl (dT c14) (xv 3 [] [0] rfl (EV.mv rfl) rfl rfl rfl rfl (xv 4 [] [0] rfl (EV.mv rfl) rfl rfl rfl rfl (xv 5 [] [0] rfl (EV.mv rfl) rfl rfl rfl rfl (xv 6 [] [0] rfl (EV.sub rfl rfl) rfl rfl rfl rfl ?_))))
        revert H; refine ggI ?_; intro g15 H
        revert H; refine ggI ?_; intro g16 H
        refine xv 7 [] [0] rfl (EV.ix 0 rfl rfl rfl g15 g16 rfl) rfl rfl rfl rfl (xv 8 [] [0] rfl (EV.le (v := .agg #[.int .i64 ((rd_T88 x8_ml0 (wrap64 (x8_1 - 1))).f0), .int .i64 ((rd_T88 x8_ml0 (wrap64 (x8_1 - 1))).f1), .int .i64 ((rd_T88 x8_ml0 (wrap64 (x8_1 - 1))).f2), .int .i64 ((rd_T88 x8_ml0 (wrap64 (x8_1 - 1))).f3), .int .i64 ((rd_T88 x8_ml0 (wrap64 (x8_1 - 1))).f4)]) (wrap64 (x8_1 - 1)) 0 (some 5) 0 z88 rfl rfl rfl g15 g16 rfl rfl rfl) rfl rfl rfl rfl (xv 9 [] [0] rfl (EV.mv rfl) rfl rfl rfl rfl (xv 10 [] [0] rfl (EV.mv rfl) rfl rfl rfl rfl ?_)))
        revert H; refine ggI ?_; intro g17 H
        revert H; refine ggI ?_; intro g18 H
        refine xv 11 [] [0] rfl (EV.ix 0 rfl rfl rfl g17 g18 rfl) rfl rfl rfl rfl (xv 12 [] [0] rfl (EV.le (v := .agg #[.int .i64 ((rd_T88 x8_ml0 x8_13).f0), .int .i64 ((rd_T88 x8_ml0 x8_13).f1), .int .i64 ((rd_T88 x8_ml0 x8_13).f2), .int .i64 ((rd_T88 x8_ml0 x8_13).f3), .int .i64 ((rd_T88 x8_ml0 x8_13).f4)]) x8_13 0 (some 5) 0 z88 rfl rfl rfl g17 g18 rfl rfl rfl) rfl rfl rfl rfl (one1 13 rfl rfl ?_))
        revert H; refine bdI ?_; rintro t19 A19 H
        refine cvf (f := 93) rfl (op_call (impl_MergeGroups_1.ok ((rd_T88 x8_ml0 (wrap64 (x8_1 - 1))).f0) ((rd_T88 x8_ml0 (wrap64 (x8_1 - 1))).f1) ((rd_T88 x8_ml0 (wrap64 (x8_1 - 1))).f2) ((rd_T88 x8_ml0 (wrap64 (x8_1 - 1))).f3) ((rd_T88 x8_ml0 (wrap64 (x8_1 - 1))).f4) ((rd_T88 x8_ml0 x8_13).f0) ((rd_T88 x8_ml0 x8_13).f1) ((rd_T88 x8_ml0 x8_13).f2) ((rd_T88 x8_ml0 x8_13).f3) ((rd_T88 x8_ml0 x8_13).f4) _ A19) [] 2 rfl rfl rfl rfl rfl ?_)
        rintro _ _ _ ⟨rfl, rfl, rfl⟩
        refine xs [] [0] rfl rfl rfl (xv 14 [] [0] rfl (EV.lss rfl rfl) rfl rfl rfl rfl (xv 15 [] [0] rfl (EV.nt rfl) rfl rfl rfl rfl (xv 16 [] [0] rfl (EV.pt rfl rfl rfl) rfl rfl rfl rfl (xd ?_))))
        revert H; refine ifsI ?_ ?_ <;> intro c20 H
        ·
         exact gf rfl (nF c20) (gk (wk [0, 1, 2, 3, 4, 12, 13] [] [⟨0, 1, 1, false⟩] (jh3 _ ⟨_, x8_ml0, x8_1, x8_2, x8_3, x8_12, x8_13, by omega, H, (by first | rfl | assumption | omega | (simp only [List.length_set]; first | done | assumption | omega)), rfl⟩)))
        ·
         refine gt rfl (nT c20) (gs (rg (sv (EV.mv rfl) rfl (sv (EV.mv rfl) rfl (sv (EV.mv rfl) rfl (sv (EV.mv rfl) rfl (sv (EV.mv rfl) rfl ?_)))))))
         cases H
       ·
        exact ts 83 rfl (dF c14) (xk 3 [] [0] rfl rfl rfl rfl rfl (xk 4 [] [0] rfl rfl rfl rfl rfl (xk 5 [] [0] rfl rfl rfl rfl rfl (xk 6 [] [0] rfl rfl rfl rfl rfl (xk 7 [] [0] rfl rfl rfl rfl rfl (xk 8 [] [0] rfl rfl rfl rfl rfl (xk 9 [] [0] rfl rfl rfl rfl rfl (xk 10 [] [0] rfl rfl rfl rfl rfl (xk 11 [] [0] rfl rfl rfl rfl rfl (xk 12 [] [0] rfl rfl rfl rfl rfl (xk 13 [] [0] rfl rfl rfl rfl rfl (xk 14 [] [0] rfl rfl rfl rfl rfl (xk 15 [] [0] rfl rfl rfl rfl rfl (xv 16 [] [0] rfl (EV.pf rfl rfl rfl) rfl rfl rfl rfl (xd (pr [0, 1, 2, 3, 4, 10, 11, 12, 13, 97] [] [0] rfl rfl rfl rfl (gf rfl rfl (gk (wk [0, 1, 2, 3, 4, 12, 13] [] [⟨0, 1, 1, false⟩] (jh3 _ ⟨_, x8_ml0, x8_1, x8_2, x8_3, x8_12, x8_13, by omega, H, (by first | rfl | assumption | omega | (simp only [List.length_set]; first | done | assumption | omega)), rfl⟩))))))))))))))))))))
     ·
      refine gs (rg (sv (EV.mv rfl) rfl (sv (EV.mv rfl) rfl ?_)))
      revert H; refine ifsI ?_ ?_ <;> intro c21 H
      ·
       subst c21
       refine ts 69 rfl rfl (sv (EV.mv rfl) rfl (sv (EV.pt rfl rfl rfl) rfl (sv (EV.mv rfl) rfl ?_)))
       revert H; refine ifsI ?_ ?_ <;> intro c22 H
       ·
        subst c22
        refine ts 72 rfl rfl (sv (EV.mv rfl) rfl (sv (EV.eql rfl rfl) rfl (sv (EV.pt rfl rfl rfl) rfl (re ?_))))
        revert H; refine ifsI ?_ ?_ <;> intro c23 H
        ·
         refine gt rfl (dT c23) (gs (rg (sv (EV.mv rfl) rfl (sv (EV.mv rfl) rfl (sv (EV.mv rfl) rfl (sv (EV.mv rfl) rfl ?_))))))
         revert H; refine bdI ?_; rintro ⟨t24_0, t24_1⟩ A24 H
         refine so rfl (op_callM (slices_partialInsertionSortCmpFunc_impl_Group_at93.ok m7 x7_ml0 Al0 cl0 x7_1 x7_2 _ _ A24) [⟨0, 1, 1, false⟩] [] [] 2 rfl rfl rfl rfl rfl rfl rfl rfl ?_)
         rintro _ _ _ ⟨rfl, rfl, rfl, q24_0⟩
         refine rlT 0 (v' := .slice Al0 t24_1.length cl0) rfl (slq _ _ q24_0) (rlT 76 (v' := .slice Al0 t24_1.length cl0) rfl (slq _ _ q24_0) (nmE (en := [.sl 1 k88 Al0 cl0 t24_1 3 false]) (by kernel_rfl) (re (pr [0, 1, 2, 3, 4, 10, 11, 12, 13, 70, 73, 74, 80] [] [0] rfl rfl rfl rfl ?_))))
         revert H; refine ifsI ?_ ?_ <;> intro c25 H
         ·
          subst c25
          refine gt rfl rfl ?_
          cases H
          exact rt Try.func102 rfl .nil rfl [] [⟨0, 1, 1, false⟩] rfl rfl rfl rfl rfl ⟨rfl, rfl, rfl, by first | rfl | assumption | omega | (simp only [List.length_set]; first | done | assumption | omega)⟩
         ·
          have xc25 := bF c25; subst xc25
          exact gf rfl rfl (gk (wk [0, 1, 2, 3, 4, 10, 11, 12, 13] [] [⟨0, 1, 1, false⟩] (jh2 _ ⟨_, t24_1, x7_1, x7_2, x7_3, true, true, x7_12, x7_13, by omega, H, (by first | rfl | assumption | omega | (simp only [List.length_set]; first | done | assumption | omega)), rfl⟩)))
        ·
         exact gf rfl (dF c23) (gk (wk [0, 1, 2, 3, 4, 10, 11, 12, 13] [] [⟨0, 1, 1, false⟩] (jh2 _ ⟨_, x7_ml0, x7_1, x7_2, x7_3, true, true, x7_12, x7_13, by omega, H, (by first | rfl | assumption | omega | (simp only [List.length_set]; first | done | assumption | omega)), rfl⟩)))
       ·
        have xc22 := bF c22; subst xc22
        exact ts 72 rfl rfl (sk rfl (sk rfl (sv (EV.pf rfl rfl rfl) rfl (re (pr [0, 1, 2, 3, 4, 10, 11, 12, 13, 70, 75] [] [0] rfl rfl rfl rfl (gf rfl rfl (gk (wk [0, 1, 2, 3, 4, 10, 11, 12, 13] [] [⟨0, 1, 1, false⟩] (jh2 _ ⟨_, x7_ml0, x7_1, x7_2, x7_3, true, false, x7_12, x7_13, by omega, H, (by first | rfl | assumption | omega | (simp only [List.length_set]; first | done | assumption | omega)), rfl⟩)))))))))
      ·
       have xc21 := bF c21; subst xc21
       exact ts 69 rfl rfl (sk rfl (sv (EV.pf rfl rfl rfl) rfl (sv (EV.mv rfl) rfl (sk rfl (sk rfl (sv (EV.pf rfl rfl rfl) rfl (re (pr [0, 1, 2, 3, 4, 10, 11, 12, 13, 75] [] [0] rfl rfl rfl rfl (gf rfl rfl (gk (wk [0, 1, 2, 3, 4, 10, 11, 12, 13] [] [⟨0, 1, 1, false⟩] (jh2 _ ⟨_, x7_ml0, x7_1, x7_2, x7_3, false, x7_11, x7_12, x7_13, by omega, H, (by first | rfl | assumption | omega | (simp only [List.length_set]; first | done | assumption | omega)), rfl⟩))))))))))))
    ·
     refine gs (rg (sv (EV.mv rfl) rfl (sv (EV.eql rfl rfl) rfl (re ?_))))
     revert H; refine ifsI ?_ ?_ <;> intro c26 H
     ·
      refine gt rfl (dT c26) (gs (rg (sv (EV.mv rfl) rfl (sv (EV.mv rfl) rfl (sv (EV.mv rfl) rfl (sv (EV.mv rfl) rfl ?_))))))
      revert H; refine bdI ?_; rintro t27 A27 H
      refine so rfl (op_callM (slices_reverseRangeCmpFunc_impl_Group_at93.ok m5 x6_ml0 Al0 cl0 x6_1 x6_2 _ A27) [⟨0, 1, 1, false⟩] [] [] 2 rfl rfl rfl rfl rfl rfl rfl rfl ?_)
      rintro _ _ _ ⟨rfl, rfl, rfl, q27_0⟩
      exact rlT 0 (v' := .slice Al0 t27.length cl0) rfl (slq _ _ q27_0) (rlT 57 (v' := .slice Al0 t27.length cl0) rfl (slq _ _ q27_0) (nmE (en := [.sl 1 k88 Al0 cl0 t27 3 false]) (by kernel_rfl) (re (pr [0, 1, 2, 3, 4, 10, 11, 12, 13] [] [0] rfl rfl rfl rfl (gs (rg (sv (EV.mv rfl) rfl (sv (EV.sub rfl rfl) rfl (sv (EV.mv rfl) rfl (sv (EV.mv rfl) rfl (sv (EV.sub rfl rfl) rfl (sv (EV.sub rfl rfl) rfl (sv (EV.as rfl) rfl (re (pr [0, 1, 2, 3, 4, 10, 11, 12, 13] [] [0] rfl rfl rfl rfl (rg (sv (EV.as rfl) rfl (re (wk [0, 1, 2, 3, 4, 10, 11, 12, 13, 14] [] [⟨0, 1, 1, false⟩] (jh1 _ ⟨_, t27, x6_1, x6_2, x6_3, x6_10, x6_11, x6_12, wrap64 ((wrap64 (x6_2 - 1)) - (wrap64 (t6_0 - x6_1))), 1, by omega, H, (by first | rfl | assumption | omega | (simp only [List.length_set]; first | done | assumption | omega)), rfl⟩))))))))))))))))))))
     ·
      exact gf rfl (dF c26) (gk (wk [0, 1, 2, 3, 4, 10, 11, 12, 13, 14] [] [⟨0, 1, 1, false⟩] (jh1 _ ⟨_, x6_ml0, x6_1, x6_2, x6_3, x6_10, x6_11, x6_12, t6_0, t6_1, by omega, H, (by first | rfl | assumption | omega | (simp only [List.length_set]; first | done | assumption | omega)), rfl⟩)))
   ·
    refine gs (rg (sv (EV.mv rfl) rfl (sv (EV.nt rfl) rfl (re ?_))))
    revert H; refine ifsI ?_ ?_ <;> intro c28 H
    ·
     subst c28
     exact gf rfl rfl (gk (wk [0, 1, 2, 3, 4, 10, 11, 12] [] [⟨0, 1, 1, false⟩] (jh0 _ ⟨_, x1_ml0, x1_1, x1_2, x1_3, true, x1_11, wrap64 (x1_2 - x1_1), by omega, H, (by first | rfl | assumption | omega | (simp only [List.length_set]; first | done | assumption | omega)), rfl⟩)))
    ·
     have xc28 := bF c28; subst xc28
     refine gt rfl rfl (gs (rg (sv (EV.mv rfl) rfl (sv (EV.mv rfl) rfl (sv (EV.mv rfl) rfl (sv (EV.mv rfl) rfl ?_))))))
     revert H; refine bdI ?_; rintro t29 A29 H
     refine so rfl (op_callM (slices_breakPatternsCmpFunc_impl_Group_at93.ok n0 x1_ml0 Al0 cl0 x1_1 x1_2 _ A29) [⟨0, 1, 1, false⟩] [] [] 2 rfl rfl rfl rfl rfl rfl rfl rfl ?_)
     rintro _ _ _ ⟨rfl, rfl, rfl, q29_0⟩
     exact rlT 0 (v' := .slice Al0 t29.length cl0) rfl (slq _ _ q29_0) (rlT 40 (v' := .slice Al0 t29.length cl0) rfl (slq _ _ q29_0) (nmE (en := [.sl 1 k88 Al0 cl0 t29 3 false]) (by kernel_rfl) (re (pr [0, 1, 2, 3, 4, 10, 11, 12] [] [0] rfl rfl rfl rfl (rg (sv (EV.mv rfl) rfl (sv (EV.sub rfl rfl) rfl (sv (EV.as rfl) rfl (re (wk [0, 1, 2, 3, 4, 10, 11, 12] [] [⟨0, 1, 1, false⟩] (jh0 _ ⟨_, t29, x1_1, x1_2, wrap64 (x1_3 - 1), false, x1_11, wrap64 (x1_2 - x1_1), by omega, H, (by first | rfl | assumption | omega | (simp only [List.length_set]; first | done | assumption | omega)), rfl⟩)))))))))))
theorem slices_pdqsortCmpFunc_impl_Group_at93.ok (k : Nat) (l0 : List S88) (Al0 : Option Addr) (cl0 : Nat) (a1 : Int) (a2 : Int) (a3 : Int) (r0 : List S88) (h : slices_pdqsortCmpFunc_impl_Group_at93.f k l0 a1 a2 a3 = some r0) : Fn Try.prog 102 [.slice Al0 l0.length cl0, .int .i64 a1, .int .i64 a2, .int .i64 a3, .func (.func 93) #[] #[]] [] [.sl 1 k88 Al0 cl0 l0 1 false] (fun v bx en => v = .tuple #[] ∧ bx = [] ∧ en = [.sl 1 k88 Al0 cl0 r0 1 false] ∧ r0.length = l0.length) := slices_pdqsortCmpFunc_impl_Group_at93.ok_ k k (Nat.le_refl k) l0 Al0 cl0 a1 a2 a3 r0 h
def slices_SortFunc_impl_Group_impl_Group_at93.f (k : Nat) (l0 : List S88) : Option ((List S88)) := (bits_Len.f k (IntKind.u64.wrap (l0.length : Int))).bind fun t1 => ((slices_pdqsortCmpFunc_impl_Group_at93.f k l0 0 (l0.length : Int) t1).bind fun t2 => (some t2))
set_option maxHeartbeats 4000000 in
set_option maxRecDepth 100000 in
theorem slices_SortFunc_impl_Group_impl_Group_at93.ok (k : Nat) (l0 : List S88) (Al0 : Option Addr) (cl0 : Nat) (r0 : List S88) (H : slices_SortFunc_impl_Group_impl_Group_at93.f k l0 = some r0) : Fn Try.prog 92 [.slice Al0 l0.length cl0, .func (.func 93) #[] #[]] [] [.sl 1 k88 Al0 cl0 l0 1 false] (fun v bx en => v = .tuple #[] ∧ bx = [] ∧ en = [.sl 1 k88 Al0 cl0 r0 1 false] ∧ r0.length = l0.length) := by
 refine fn_ 14 Try.func92 rfl rfl rfl (fun base T w0 => ?_)
 rw [slices_SortFunc_impl_Group_impl_Group_at93.f] at H
 refine gs (rg (sv (EV.mv rfl) rfl (sv (EV.ln rfl) rfl (sv (EV.as rfl) rfl (re (rg (sv (EV.mv rfl) rfl (sv (EV.mv rfl) rfl (sv (EV.mv rfl) rfl (sv (EV.cv (k' := .u64) rfl) rfl ?_))))))))))
 revert H; refine bdI ?_; rintro t1 A1 H
 refine so rfl (op_call (bits_Len.ok k (IntKind.u64.wrap (l0.length : Int)) _ A1) [] 2 rfl rfl rfl rfl rfl ?_)
 rintro _ _ _ ⟨rfl, rfl, rfl⟩
 refine sv (EV.mv rfl) rfl ?_
 revert H; refine bdI ?_; rintro t2 A2 H
 refine so rfl (op_callM (slices_pdqsortCmpFunc_impl_Group_at93.ok k l0 Al0 cl0 0 (l0.length : Int) t1 _ A2) [⟨0, 1, 1, false⟩] [] [] 2 rfl rfl rfl rfl rfl rfl rfl rfl ?_)
 rintro _ _ _ ⟨rfl, rfl, rfl, q2_0⟩
 refine rlT 0 (v' := .slice Al0 t2.length cl0) rfl (slq _ _ q2_0) (rlT 5 (v' := .slice Al0 t2.length cl0) rfl (slq _ _ q2_0) (rlT 7 (v' := .slice Al0 t2.length cl0) rfl (slq _ _ q2_0) (nmE (en := [.sl 1 k88 Al0 cl0 t2 3 false]) (by kernel_rfl) (re (pr [] [] [0] rfl rfl rfl rfl ?_)))))
 cases H
 exact rt0 Try.func92 rfl .nil rfl [] [⟨0, 1, 1, false⟩] rfl rfl rfl rfl rfl ⟨rfl, rfl, rfl, by first | rfl | assumption | omega | (simp only [List.length_set]; first | done | assumption | omega)⟩
def impl_CombineGroups.f (a0_0 : Int) (a0_1 : Int) (a0_2 : Int) (a0_3 : Int) (a0_4 : Int) (a1_0 : Int) (a1_1 : Int) (a1_2 : Int) (a1_3 : Int) (a1_4 : Int) : Option (Int × Int × Int × Int × Int) := if a0_0 = a1_0 then (some (a0_0, wrap64 (a0_1 + a1_1), wrap64 (a0_2 + a1_2), mn a0_3 a1_3, mx a0_4 a1_4)) else (some (a0_0, a0_1, a0_2, a0_3, a0_4))
set_option maxHeartbeats 4000000 in
set_option maxRecDepth 100000 in
theorem impl_CombineGroups.ok (a0_0 : Int) (a0_1 : Int) (a0_2 : Int) (a0_3 : Int) (a0_4 : Int) (a1_0 : Int) (a1_1 : Int) (a1_2 : Int) (a1_3 : Int) (a1_4 : Int) (r0 : Int) (r1 : Int) (r2 : Int) (r3 : Int) (r4 : Int) (H : impl_CombineGroups.f a0_0 a0_1 a0_2 a0_3 a0_4 a1_0 a1_1 a1_2 a1_3 a1_4 = some (r0, r1, r2, r3, r4)) : Fn Try.prog 91 [.agg #[.int .i64 a0_0, .int .i64 a0_1, .int .i64 a0_2, .int .i64 a0_3, .int .i64 a0_4], .agg #[.int .i64 a1_0, .int .i64 a1_1, .int .i64 a1_2, .int .i64 a1_3, .int .i64 a1_4]] [] [] (fun v bx en => v = .agg #[.int .i64 r0, .int .i64 r1, .int .i64 r2, .int .i64 r3, .int .i64 r4] ∧ bx = [] ∧ en = []) := by
 refine fn_ 34 Try.func91 rfl rfl rfl (fun base T w0 => ?_)
 rw [impl_CombineGroups.f] at H
 refine gs (rg (so rfl (op_box (cs := [.int .i64 a0_0, .int .i64 a0_1, .int .i64 a0_2, .int .i64 a0_3, .int .i64 a0_4]) rfl rfl rfl fun b2 => (so rfl (op_box (cs := [.int .i64 a1_0, .int .i64 a1_1, .int .i64 a1_2, .int .i64 a1_3, .int .i64 a1_4]) rfl rfl rfl fun b3 => (so rfl (op_alloc (cs := [.int .i64 0, .int .i64 0, .int .i64 0, .int .i64 0, .int .i64 0]) (by kernel_rfl) rfl fun b4 => (re (gs (gs (rg (sv (EV.fa 0 rfl) rfl (sv (EV.ld 0 none rfl rfl rfl) rfl (sv (EV.fa 0 rfl) rfl (sv (EV.ld 1 none rfl rfl rfl) rfl (sv (EV.neq rfl rfl) rfl (re (pr [2, 3, 4, 9] [0, 1, 2] [] rfl rfl rfl rfl ?_))))))))))))))))))
 revert H; refine ifsI ?_ ?_ <;> intro c1 H
 ·
  refine gf rfl (nF c1) (gk (gs (rg (sv (EV.fa 0 rfl) rfl (sv (EV.ld 0 none rfl rfl rfl) rfl (sv (EV.fa 1 rfl) rfl (sv (EV.ld 0 none rfl rfl rfl) rfl (sv (EV.fa 1 rfl) rfl (sv (EV.ld 1 none rfl rfl rfl) rfl (sv (EV.add rfl rfl) rfl (sv (EV.fa 2 rfl) rfl (sv (EV.ld 0 none rfl rfl rfl) rfl (sv (EV.fa 2 rfl) rfl (sv (EV.ld 1 none rfl rfl rfl) rfl (sv (EV.add rfl rfl) rfl (sv (EV.fa 3 rfl) rfl (sv (EV.ld 0 none rfl rfl rfl) rfl (sv (EV.fa 3 rfl) rfl (sv (EV.ld 1 none rfl rfl rfl) rfl (sv (EV.mn rfl rfl) rfl (sv (EV.fa 4 rfl) rfl (sv (EV.ld 0 none rfl rfl rfl) rfl (sv (EV.fa 4 rfl) rfl (sv (EV.ld 1 none rfl rfl rfl) rfl (sv (EV.mx rfl rfl) rfl (sv (EV.bd (v := .agg #[.int .i64 a0_0, .int .i64 (wrap64 (a0_1 + a1_1)), .int .i64 (wrap64 (a0_2 + a1_2)), .int .i64 (mn a0_3 a1_3), .int .i64 (mx a0_4 a1_4)]) rfl (by kernel_rfl)) rfl (so rfl (op_st (cs' := [.int .i64 a0_0, .int .i64 (wrap64 (a0_1 + a1_1)), .int .i64 (wrap64 (a0_2 + a1_2)), .int .i64 (mn a0_3 a1_3), .int .i64 (mx a0_4 a1_4)]) 2 rfl rfl rfl rfl rfl rfl (re ?_)))))))))))))))))))))))))))))
  refine pr [4] [2] [] rfl rfl rfl rfl ?_
  cases H
  exact rt Try.func91 rfl (.cell 0 (some 5) rfl rfl rfl .nil) rfl [] [] rfl rfl rfl rfl rfl ⟨rfl, rfl, rfl⟩
 ·
  refine gt rfl (nT c1) (gs (rg (sv (EV.ld (v := .agg #[.int .i64 a0_0, .int .i64 a0_1, .int .i64 a0_2, .int .i64 a0_3, .int .i64 a0_4]) 0 (some 5) rfl rfl rfl) rfl (so rfl (op_st (cs' := [.int .i64 a0_0, .int .i64 a0_1, .int .i64 a0_2, .int .i64 a0_3, .int .i64 a0_4]) 2 rfl rfl rfl rfl rfl rfl (re ?_))))))
  cases H
  exact rt Try.func91 rfl (.cell 2 (some 5) rfl rfl rfl .nil) rfl [] [] rfl rfl rfl rfl rfl ⟨rfl, rfl, rfl⟩
def impl_MergeGroups.l0 : Nat → (List S88) → (List (Int × Int)) → Int → Int → (List S88) → Option ((List S88))
 | 0, _, _, _, _, _ => none
 | k + 1, x2_3, x2_4, x2_12, x2_13, l0 => if x2_13 < x2_12 then (if 0 ≤ x2_13 then (if x2_13 < (l0.length : Int) then (if ((mGet x2_4 ((rd_T88 l0 x2_13).f0)).isSome) = true then (if 0 ≤ ((mGet x2_4 ((rd_T88 l0 x2_13).f0)).getD 0) then (if ((mGet x2_4 ((rd_T88 l0 x2_13).f0)).getD 0) < (x2_3.length : Int) then ((impl_CombineGroups.f ((rd_T88 x2_3 ((mGet x2_4 ((rd_T88 l0 x2_13).f0)).getD 0)).f0) ((rd_T88 x2_3 ((mGet x2_4 ((rd_T88 l0 x2_13).f0)).getD 0)).f1) ((rd_T88 x2_3 ((mGet x2_4 ((rd_T88 l0 x2_13).f0)).getD 0)).f2) ((rd_T88 x2_3 ((mGet x2_4 ((rd_T88 l0 x2_13).f0)).getD 0)).f3) ((rd_T88 x2_3 ((mGet x2_4 ((rd_T88 l0 x2_13).f0)).getD 0)).f4) ((rd_T88 l0 x2_13).f0) ((rd_T88 l0 x2_13).f1) ((rd_T88 l0 x2_13).f2) ((rd_T88 l0 x2_13).f3) ((rd_T88 l0 x2_13).f4)).bind fun bt9 => ((some (x2_3.set ((mGet x2_4 ((rd_T88 l0 x2_13).f0)).getD 0).toNat (⟨bt9.1, bt9.2.1, bt9.2.2.1, bt9.2.2.2.1, bt9.2.2.2.2⟩ : S88))).bind fun s10 => (impl_MergeGroups.l0 k s10 x2_4 x2_12 (wrap64 (x2_13 + 1)) l0))) else none) else none) else (if x2_3.length < 3518437208883 then (impl_MergeGroups.l0 k (x2_3 ++ ([(⟨(rd_T88 l0 x2_13).f0, (rd_T88 l0 x2_13).f1, (rd_T88 l0 x2_13).f2, (rd_T88 l0 x2_13).f3, (rd_T88 l0 x2_13).f4⟩ : S88)] : List S88)) (mSet x2_4 ((rd_T88 l0 x2_13).f0) (x2_3.length : Int)) x2_12 (wrap64 (x2_13 + 1)) l0) else none)) else none) else none) else ((slices_SortFunc_impl_Group_impl_Group_at93.f k x2_3).bind fun t14 => (some t14))
def impl_MergeGroups.f (k : Nat) (l0 : List S88) : Option ((List S88)) := impl_MergeGroups.l0 k [] ([] : List (Int × Int)) (l0.length : Int) 0 l0
set_option maxHeartbeats 4000000 in
set_option maxRecDepth 100000 in
theorem impl_MergeGroups.ok (k : Nat) (l0 : List S88) (Al0 : Option Addr) (cl0 : Nat) (r0 : List S88) (H : impl_MergeGroups.f k l0 = some r0) : Fn Try.prog 69 [.slice Al0 l0.length cl0] [] [.sl 0 k88 Al0 cl0 l0 0 false] (fun v bx en => ∃ A0 c0, v = .slice A0 r0.length c0 ∧ bx = [] ∧ en = [.sl 1 k88 A0 c0 r0 1 false]) := by
 refine fn_ 48 Try.func69 rfl rfl rfl (fun base T w0 => ?_)
 rw [impl_MergeGroups.f] at H
 refine gs (rg (sv (EV.as rfl) rfl (re (gs (rg (so rfl (op_lit (s := 5) (by_ := 40) k88 ([] : List S88) [] [] 1 [] rfl rfl rfl rfl rfl rfl rfl rfl rfl rfl rfl rfl rfl dq rfl fun A9_1 c9_1 => (so rfl (op_mkm (β := Int) .i64 (Value.int .i64) 2 rfl dq rfl fun r10_2 => (sv (EV.as rfl) rfl (sv (EV.as rfl) rfl (re (gs (gs (rg (sv (EV.mv rfl) rfl (sv (EV.ln rfl) rfl (sv (EV.mv rfl) rfl (re (gb ?_))))))))))))))))))))
 refine lo (fun kk S => ∃ (x2_3 : List S88) (Ax2_3 : Option Addr) (cx2_3 : Nat) (x2_4 : List (Int × Int)) (rx2_4 : Nat) (x2_12 : Int) (x2_13 : Int), impl_MergeGroups.l0 kk x2_3 x2_4 x2_12 x2_13 l0 = some r0 ∧ S = ⟨[(3, .slice Ax2_3 x2_3.length cx2_3), (4, .map (some rx2_4)), (11, .slice Al0 l0.length cl0), (12, .int .i64 x2_12), (13, .int .i64 x2_13)], [], [.sl 2 k88 Ax2_3 cx2_3 x2_3 1 true, mapE .i64 (Value.int .i64) rx2_4 x2_4 2, .sl 0 k88 Al0 cl0 l0 0 false]⟩) (fun S hS => ?_) (fun n0 ih0 S hS => ?_) ⟨[], A9_1, c9_1, ([] : List (Int × Int)), r10_2, (l0.length : Int), 0, H, rfl⟩ (fun h => wk [3, 4, 11, 12, 13] [] [⟨1, 2, 1, true⟩, ⟨2, 1, 2, false⟩, ⟨0, 0, 0, false⟩] h)
 · clear H; obtain ⟨_, _, _, _, _, _, _, H, _⟩ := hS; rw [impl_MergeGroups.l0] at H; cases H
 clear H
 obtain ⟨x2_3, Ax2_3, cx2_3, x2_4, rx2_4, x2_12, x2_13, H, rfl⟩ := hS
 rw [impl_MergeGroups.l0] at H
 refine gs (rg (sv (EV.lss rfl rfl) rfl (re (gs ?_))))
 revert H; refine ifsI ?_ ?_ <;> intro c3 H
 ·
  refine gt rfl (dT c3) (gk (gs (gb (gs (rg ?_)))))
  revert H; refine ggI ?_; intro g4 H
  revert H; refine ggI ?_; intro g5 H
  refine sv (EV.ix 2 rfl rfl rfl g4 g5 rfl) rfl (sv (EV.le (v := .agg #[.int .i64 ((rd_T88 l0 x2_13).f0), .int .i64 ((rd_T88 l0 x2_13).f1), .int .i64 ((rd_T88 l0 x2_13).f2), .int .i64 ((rd_T88 l0 x2_13).f3), .int .i64 ((rd_T88 l0 x2_13).f4)]) x2_13 0 (some 5) 2 z88 rfl rfl rfl g4 g5 rfl rfl rfl) rfl (so rfl (op_alloc (cs := [.int .i64 0, .int .i64 0, .int .i64 0, .int .i64 0, .int .i64 0]) (by kernel_rfl) rfl fun b6 => (so rfl (op_st (cs' := [.int .i64 ((rd_T88 l0 x2_13).f0), .int .i64 ((rd_T88 l0 x2_13).f1), .int .i64 ((rd_T88 l0 x2_13).f2), .int .i64 ((rd_T88 l0 x2_13).f3), .int .i64 ((rd_T88 l0 x2_13).f4)]) 0 rfl rfl rfl rfl rfl rfl (re (gs (rg (sv (EV.mv rfl) rfl (sv (EV.fa 0 rfl) rfl (sv (EV.ld 0 none rfl rfl rfl) rfl (sv (EV.lk2 (vf := (Value.int .i64)) (zz := 0) 1 rfl rfl rfl) rfl (sv (EV.mv rfl) rfl (sv (EV.ex rfl rfl) rfl (sv (EV.ex rfl rfl) rfl (sv (EV.as rfl) rfl (sv (EV.as rfl) rfl (re (pr [3, 4, 6, 7, 8, 11, 12, 13] [0] [0, 1, 2] rfl rfl rfl rfl (gs (gs (rg (sv (EV.mv rfl) rfl (sv (EV.nt rfl) rfl (re ?_)))))))))))))))))))))))))
  revert H; refine ifsI ?_ ?_ <;> intro c6 H
  ·
   refine gf rfl (bN c6) (gk ?_)
   revert H; refine ggI ?_; intro g7 H
   revert H; refine ggI ?_; intro g8 H
   refine dr [0] [0, 1, 2] [9] 10 rfl rfl rfl rfl (xv 0 [0] [0, 1, 2] rfl (EV.mv rfl) rfl rfl rfl rfl (xv 1 [0] [0, 1, 2] rfl (EV.mv rfl) rfl rfl rfl rfl (xv 2 [0] [0, 1, 2] rfl (EV.mv rfl) rfl rfl rfl rfl (xv 3 [0] [0, 1, 2] rfl (EV.mv rfl) rfl rfl rfl rfl (xv 4 [0] [0, 1, 2] rfl (EV.ix 0 rfl rfl rfl g7 g8 rfl) rfl rfl rfl rfl (xv 5 [0] [0, 1, 2] rfl (EV.le (v := .agg #[.int .i64 ((rd_T88 x2_3 ((mGet x2_4 ((rd_T88 l0 x2_13).f0)).getD 0)).f0), .int .i64 ((rd_T88 x2_3 ((mGet x2_4 ((rd_T88 l0 x2_13).f0)).getD 0)).f1), .int .i64 ((rd_T88 x2_3 ((mGet x2_4 ((rd_T88 l0 x2_13).f0)).getD 0)).f2), .int .i64 ((rd_T88 x2_3 ((mGet x2_4 ((rd_T88 l0 x2_13).f0)).getD 0)).f3), .int .i64 ((rd_T88 x2_3 ((mGet x2_4 ((rd_T88 l0 x2_13).f0)).getD 0)).f4)]) ((mGet x2_4 ((rd_T88 l0 x2_13).f0)).getD 0) 0 (some 5) 0 z88 rfl rfl rfl g7 g8 rfl rfl rfl) rfl rfl rfl rfl (xv 6 [0] [0, 1, 2] rfl (EV.ld (v := .agg #[.int .i64 ((rd_T88 l0 x2_13).f0), .int .i64 ((rd_T88 l0 x2_13).f1), .int .i64 ((rd_T88 l0 x2_13).f2), .int .i64 ((rd_T88 l0 x2_13).f3), .int .i64 ((rd_T88 l0 x2_13).f4)]) 0 (some 5) rfl rfl rfl) rfl rfl rfl rfl (one1 7 rfl rfl ?_))))))))
   revert H; refine bdI ?_; rintro ⟨t9_0, t9_1, t9_2, t9_3, t9_4⟩ A9 H
   refine op_call (impl_CombineGroups.ok ((rd_T88 x2_3 ((mGet x2_4 ((rd_T88 l0 x2_13).f0)).getD 0)).f0) ((rd_T88 x2_3 ((mGet x2_4 ((rd_T88 l0 x2_13).f0)).getD 0)).f1) ((rd_T88 x2_3 ((mGet x2_4 ((rd_T88 l0 x2_13).f0)).getD 0)).f2) ((rd_T88 x2_3 ((mGet x2_4 ((rd_T88 l0 x2_13).f0)).getD 0)).f3) ((rd_T88 x2_3 ((mGet x2_4 ((rd_T88 l0 x2_13).f0)).getD 0)).f4) ((rd_T88 l0 x2_13).f0) ((rd_T88 l0 x2_13).f1) ((rd_T88 l0 x2_13).f2) ((rd_T88 l0 x2_13).f3) ((rd_T88 l0 x2_13).f4) _ _ _ _ _ A9) [] 3 rfl rfl rfl rfl rfl ?_
   rintro _ _ _ ⟨rfl, rfl, rfl⟩
   refine xs [0] [0, 1, 2] rfl rfl rfl (xv 8 [0] [0, 1, 2] rfl (EV.ix 0 rfl rfl rfl g7 g8 rfl) rfl rfl rfl rfl (one1 9 rfl rfl ?_))
   revert H; refine bdI ?_; intro s10 A10 H; have q10 := stl (Option.some.inj A10)
   exact op_stg ((mGet x2_4 ((rd_T88 l0 x2_13).f0)).getD 0) 0 0 z88 (⟨t9_0, t9_1, t9_2, t9_3, t9_4⟩ : S88) (Option.some.inj A10) rfl rfl rfl rfl g7 g8 rfl rfl rfl rfl dq rfl (rlT 3 (v' := .slice Ax2_3 s10.length cx2_3) rfl (slq _ _ q10) (rlT 35 (v' := .slice Ax2_3 s10.length cx2_3) rfl (slq _ _ q10) (rlT 37 (v' := .slice Ax2_3 s10.length cx2_3) rfl (slq _ _ q10) (nmE (en := [mapE .i64 (Value.int .i64) rx2_4 x2_4 2, .sl 0 k88 Al0 cl0 l0 0 false, .sl 2 k88 Ax2_3 cx2_3 s10 1 true]) (by kernel_rfl) (xn rfl (xd (pr [3, 4, 11, 12, 13] [] [0, 1, 2] rfl rfl rfl rfl (ge (rg (sv (EV.add rfl rfl) rfl (sv (EV.mv rfl) rfl (re (wk [3, 4, 11, 12, 13] [] [⟨2, 2, 1, true⟩, ⟨0, 1, 2, false⟩, ⟨1, 0, 0, false⟩] (ih0 _ (by omega) _ ⟨s10, Ax2_3, cx2_3, x2_4, rx2_4, x2_12, wrap64 (x2_13 + 1), H, rfl⟩))))))))))))))
  ·
   refine gt rfl (bM c6) (gs (rg (sv (EV.mv rfl) rfl (sv (EV.fa 0 rfl) rfl (sv (EV.ld 0 none rfl rfl rfl) rfl (sv (EV.mv rfl) rfl (sv (EV.ln rfl) rfl (so rfl (op_mu 1 (x2_3.length : Int) rfl rfl rfl rfl rfl (nmE (en := [.sl 2 k88 Ax2_3 cx2_3 x2_3 1 true, .sl 0 k88 Al0 cl0 l0 0 false, mapE .i64 (Value.int .i64) rx2_4 (mSet x2_4 ((rd_T88 l0 x2_13).f0) (x2_3.length : Int)) 2]) (by kernel_rfl) (re (pr [3, 4, 6, 11, 12, 13] [0] [0, 1, 2] rfl rfl rfl rfl (gs (rg (sv (EV.mv rfl) rfl (sv (EV.ld (v := .agg #[.int .i64 ((rd_T88 l0 x2_13).f0), .int .i64 ((rd_T88 l0 x2_13).f1), .int .i64 ((rd_T88 l0 x2_13).f2), .int .i64 ((rd_T88 l0 x2_13).f3), .int .i64 ((rd_T88 l0 x2_13).f4)]) 0 (some 5) rfl rfl rfl) rfl (so rfl (op_lit (s := 5) (by_ := 40) k88 ([(⟨(rd_T88 l0 x2_13).f0, (rd_T88 l0 x2_13).f1, (rd_T88 l0 x2_13).f2, (rd_T88 l0 x2_13).f3, (rd_T88 l0 x2_13).f4⟩ : S88)] : List S88) [[]] [] 3 [.tmp 32] rfl rfl rfl rfl rfl rfl rfl rfl rfl rfl rfl rfl rfl dq rfl fun A33_11 c33_11 => ?_))))))))))))))))))
   revert H; refine ggI ?_; intro g12 H
   exact so rfl (op_app (k := k88) (s := 5) (by_ := 40) 0 3 rfl rfl rfl rfl (ap1 g12 dq) (ap1n g12 dq) (.inl rfl) true (fun _ => .inl rfl) rfl rfl fun A34_13 c34_13 => (nmE (en := [.sl 0 k88 Al0 cl0 l0 0 false, mapE .i64 (Value.int .i64) rx2_4 (mSet x2_4 ((rd_T88 l0 x2_13).f0) (x2_3.length : Int)) 2, .sl 2 k88 A33_11 c33_11 ([(⟨(rd_T88 l0 x2_13).f0, (rd_T88 l0 x2_13).f1, (rd_T88 l0 x2_13).f2, (rd_T88 l0 x2_13).f3, (rd_T88 l0 x2_13).f4⟩ : S88)] : List S88) 3 true, .sl 2 k88 A34_13 c34_13 (x2_3 ++ ([(⟨(rd_T88 l0 x2_13).f0, (rd_T88 l0 x2_13).f1, (rd_T88 l0 x2_13).f2, (rd_T88 l0 x2_13).f3, (rd_T88 l0 x2_13).f4⟩ : S88)] : List S88)) 1 true]) (by kernel_rfl) (sv (EV.as rfl) rfl (re (gx rfl (rg (sv (EV.add rfl rfl) rfl (sv (EV.mv rfl) rfl (re (pr [3, 4, 11, 12, 13] [] [0, 1, 3] rfl rfl rfl rfl (wk [3, 4, 11, 12, 13] [] [⟨2, 2, 1, true⟩, ⟨1, 1, 2, false⟩, ⟨0, 0, 0, false⟩] (ih0 _ (by omega) _ ⟨x2_3 ++ ([(⟨(rd_T88 l0 x2_13).f0, (rd_T88 l0 x2_13).f1, (rd_T88 l0 x2_13).f2, (rd_T88 l0 x2_13).f3, (rd_T88 l0 x2_13).f4⟩ : S88)] : List S88), A34_13, c34_13, mSet x2_4 ((rd_T88 l0 x2_13).f0) (x2_3.length : Int), rx2_4, x2_12, wrap64 (x2_13 + 1), H, rfl⟩))))))))))))
 ·
  refine gf rfl (dF c3) (gx rfl (gs (rg (sv (EV.mv rfl) rfl ?_))))
  revert H; refine bdI ?_; rintro t14 A14 H
  refine so rfl (op_callM (slices_SortFunc_impl_Group_impl_Group_at93.ok n0 x2_3 Ax2_3 cx2_3 _ A14) [⟨0, 1, 1, false⟩] [] [] 3 rfl rfl rfl rfl rfl rfl rfl rfl ?_)
  rintro _ _ _ ⟨rfl, rfl, rfl, q14_0⟩
  refine rlT 3 (v' := .slice Ax2_3 t14.length cx2_3) rfl (slq _ _ q14_0) (rlT 45 (v' := .slice Ax2_3 t14.length cx2_3) rfl (slq _ _ q14_0) (nmE (en := [mapE .i64 (Value.int .i64) rx2_4 x2_4 2, .sl 0 k88 Al0 cl0 l0 0 false, .sl 1 k88 Ax2_3 cx2_3 t14 4 false]) (by kernel_rfl) (re (pr [3] [] [2] rfl rfl rfl rfl (gs (rg (sv (EV.mv rfl) rfl (sv (EV.as rfl) rfl (re ?_)))))))))
  cases H
  exact rt Try.func69 rfl (.tmp rfl .nil) rfl [] [⟨0, 1, 1, false⟩] rfl rfl rfl rfl rfl ⟨_, _, rfl, rfl, rfl⟩
mutual
def impl_RollupGroups.l2 : Nat → (List S92) → Int → Int → (List S88) → Int → Int → (List S88) → Option ((List S92))
 | 0, _, _, _, _, _, _, _ => none
 | k + 1, x34_3, x34_4, x34_11, x34_32, x34_33, x34_34, l0 => if x34_34 < x34_33 then (if 0 ≤ x34_34 then (if x34_34 < (x34_32.length : Int) then (if x34_3.length < 2932031007402 then (impl_RollupGroups.l2 k (x34_3 ++ ([(⟨x34_4, (⟨(rd_T88 x34_32 x34_34).f0, (rd_T88 x34_32 x34_34).f1, (rd_T88 x34_32 x34_34).f2, (rd_T88 x34_32 x34_34).f3, (rd_T88 x34_32 x34_34).f4⟩ : S88)⟩ : S92)] : List S92)) x34_4 x34_11 x34_32 x34_33 (wrap64 (x34_34 + 1)) l0) else none) else none) else none) else (impl_RollupGroups.l0 k x34_3 (wrap64 (x34_11 + 1)) l0)
def impl_RollupGroups.l1 : Nat → (List S92) → Int → (List S88) → Int → Int → Int → (List S88) → Option ((List S92))
 | 0, _, _, _, _, _, _, _ => none
 | k + 1, x32_3, x32_4, x32_5, x32_11, x32_16, x32_17, l0 => if x32_17 < x32_16 then (if 0 ≤ x32_17 then (if x32_17 < (l0.length : Int) then ((impl_RollupKey.f ((rd_T88 l0 x32_17).f0) x32_4).bind fun t7 => (if x32_5.length < 3518437208883 then (impl_RollupGroups.l1 k x32_3 x32_4 (x32_5 ++ ([(⟨t7, (rd_T88 l0 x32_17).f1, (rd_T88 l0 x32_17).f2, (rd_T88 l0 x32_17).f3, (rd_T88 l0 x32_17).f4⟩ : S88)] : List S88)) x32_11 x32_16 (wrap64 (x32_17 + 1)) l0) else none)) else none) else none) else ((impl_MergeGroups.f k x32_5).bind fun t11 => (impl_RollupGroups.l2 k x32_3 x32_4 x32_11 t11 (t11.length : Int) 0 l0))
def impl_RollupGroups.l0 : Nat → (List S92) → Int → (List S88) → Option ((List S92))
 | 0, _, _, _ => none
 | k + 1, x18_3, x18_11, l0 => if x18_11 < 3 then (impl_RollupGroups.l1 k x18_3 x18_11 [] x18_11 (l0.length : Int) 0 l0) else (some x18_3)
end
def impl_RollupGroups.f (k : Nat) (l0 : List S88) : Option ((List S92)) := impl_RollupGroups.l0 k [] 0 l0
set_option maxHeartbeats 4000000 in
set_option maxRecDepth 100000 in
theorem impl_RollupGroups.ok (k : Nat) (l0 : List S88) (Al0 : Option Addr) (cl0 : Nat) (r0 : List S92) (H : impl_RollupGroups.f k l0 = some r0) : Fn Try.prog 34 [.slice Al0 l0.length cl0] [] [.sl 0 k88 Al0 cl0 l0 0 false] (fun v bx en => ∃ A0 c0, v = .slice A0 r0.length c0 ∧ bx = [] ∧ en = [.sl 2 k92 A0 c0 r0 1 true]) := by
 refine fn_ 47 Try.func34 rfl rfl rfl (fun base T w0 => ?_)
 rw [impl_RollupGroups.f] at H
 refine gs (rg (sv (EV.as rfl) rfl (re (gs (rg (so rfl (op_lit (s := 6) (by_ := 48) k92 ([] : List S92) [] [] 1 [] rfl rfl rfl rfl rfl rfl rfl rfl rfl rfl rfl rfl rfl dq rfl fun A10_1 c10_1 => (sv (EV.as rfl) rfl (re (gs (gs (rg (sv (EV.mv rfl) rfl (re (gb ?_)))))))))))))))
 refine lo (fun kk S => ∃ (x18_3 : List S92) (Ax18_3 : Option Addr) (cx18_3 : Nat) (x18_11 : Int), impl_RollupGroups.l0 kk x18_3 x18_11 l0 = some r0 ∧ S = ⟨[(0, .slice Al0 l0.length cl0), (3, .slice Ax18_3 x18_3.length cx18_3), (11, .int .i64 x18_11)], [], [.sl 2 k92 Ax18_3 cx18_3 x18_3 1 true, .sl 0 k88 Al0 cl0 l0 0 false]⟩) (fun S hS => ?_) (fun n0 ih0 S hS => ?_) ⟨[], A10_1, c10_1, 0, H, rfl⟩ (fun h => wk [0, 3, 11] [] [⟨1, 2, 1, true⟩, ⟨0, 0, 0, false⟩] h)
 · clear H; obtain ⟨_, _, _, _, H, _⟩ := hS; rw [impl_RollupGroups.l0] at H; cases H
 clear H
 obtain ⟨x18_3, Ax18_3, cx18_3, x18_11, H, rfl⟩ := hS
 rw [impl_RollupGroups.l0] at H
 refine gs (rg (sv (EV.lss rfl rfl) rfl (re (gs ?_))))
 revert H; refine ifsI ?_ ?_ <;> intro c2 H
 ·
  refine gt rfl (dT c2) (gk (gs (gb (gs (rg (sv (EV.mv rfl) rfl (sv (EV.as rfl) rfl (re (gs (rg (so rfl (op_lit (s := 5) (by_ := 40) k88 ([] : List S88) [] [] 2 [] rfl rfl rfl rfl rfl rfl rfl rfl rfl rfl rfl rfl rfl dq rfl fun A14_3 c14_3 => (sv (EV.as rfl) rfl (re (gs (gs (rg (sv (EV.mv rfl) rfl (sv (EV.ln rfl) rfl (sv (EV.mv rfl) rfl (re (gb ?_))))))))))))))))))))))
  refine lo (fun kk S => ∃ (x32_3 : List S92) (Ax32_3 : Option Addr) (cx32_3 : Nat) (x32_4 : Int) (x32_5 : List S88) (Ax32_5 : Option Addr) (cx32_5 : Nat) (x32_11 : Int) (x32_16 : Int) (x32_17 : Int), kk ≤ n0 ∧ impl_RollupGroups.l1 kk x32_3 x32_4 x32_5 x32_11 x32_16 x32_17 l0 = some r0 ∧ S = ⟨[(0, .slice Al0 l0.length cl0), (3, .slice Ax32_3 x32_3.length cx32_3), (4, .int .i64 x32_4), (5, .slice Ax32_5 x32_5.length cx32_5), (11, .int .i64 x32_11), (15, .slice Al0 l0.length cl0), (16, .int .i64 x32_16), (17, .int .i64 x32_17)], [], [.sl 2 k92 Ax32_3 cx32_3 x32_3 1 true, .sl 2 k88 Ax32_5 cx32_5 x32_5 2 true, .sl 0 k88 Al0 cl0 l0 0 false]⟩) (fun S hS => ?_) (fun n1 ih1 S hS => ?_) ⟨x18_3, Ax18_3, cx18_3, x18_11, [], A14_3, c14_3, x18_11, (l0.length : Int), 0, by omega, H, rfl⟩ (fun h => wk [0, 3, 4, 5, 11, 15, 16, 17] [] [⟨0, 2, 1, true⟩, ⟨2, 2, 2, true⟩, ⟨1, 0, 0, false⟩] h)
  · clear H; obtain ⟨_, _, _, _, _, _, _, _, _, _, _, H, _⟩ := hS; rw [impl_RollupGroups.l1] at H; cases H
  clear H
  obtain ⟨x32_3, Ax32_3, cx32_3, x32_4, x32_5, Ax32_5, cx32_5, x32_11, x32_16, x32_17, lk1, H, rfl⟩ := hS
  rw [impl_RollupGroups.l1] at H
  refine gs (rg (sv (EV.lss rfl rfl) rfl (re (gs ?_))))
  revert H; refine ifsI ?_ ?_ <;> intro c4 H
  ·
   refine gt rfl (dT c4) (gk (gs (gb (gs (rg ?_)))))
   revert H; refine ggI ?_; intro g5 H
   revert H; refine ggI ?_; intro g6 H
   refine sv (EV.ix 2 rfl rfl rfl g5 g6 rfl) rfl (sv (EV.le (v := .agg #[.int .i64 ((rd_T88 l0 x32_17).f0), .int .i64 ((rd_T88 l0 x32_17).f1), .int .i64 ((rd_T88 l0 x32_17).f2), .int .i64 ((rd_T88 l0 x32_17).f3), .int .i64 ((rd_T88 l0 x32_17).f4)]) x32_17 0 (some 5) 2 z88 rfl rfl rfl g5 g6 rfl rfl rfl) rfl (so rfl (op_alloc (cs := [.int .i64 0, .int .i64 0, .int .i64 0, .int .i64 0, .int .i64 0]) (by kernel_rfl) rfl fun b7 => (so rfl (op_st (cs' := [.int .i64 ((rd_T88 l0 x32_17).f0), .int .i64 ((rd_T88 l0 x32_17).f1), .int .i64 ((rd_T88 l0 x32_17).f2), .int .i64 ((rd_T88 l0 x32_17).f3), .int .i64 ((rd_T88 l0 x32_17).f4)]) 0 rfl rfl rfl rfl rfl rfl (re (gs (rg (sv (EV.fa 0 rfl) rfl (sv (EV.ld 0 none rfl rfl rfl) rfl (sv (EV.mv rfl) rfl ?_)))))))))))
   revert H; refine bdI ?_; rintro t7 A7 H
   refine so rfl (op_call (impl_RollupKey.ok ((rd_T88 l0 x32_17).f0) x32_4 _ A7) [] 3 rfl rfl rfl rfl rfl ?_)
   rintro _ _ _ ⟨rfl, rfl, rfl⟩
   refine sv (EV.fa 0 rfl) rfl (so rfl (op_st (cs' := [.int .i64 t7, .int .i64 ((rd_T88 l0 x32_17).f1), .int .i64 ((rd_T88 l0 x32_17).f2), .int .i64 ((rd_T88 l0 x32_17).f3), .int .i64 ((rd_T88 l0 x32_17).f4)]) 0 rfl rfl rfl rfl rfl rfl (re (pr [0, 3, 4, 5, 7, 11, 15, 16, 17] [0] [0, 1, 2] rfl rfl rfl rfl (rg (sv (EV.mv rfl) rfl (sv (EV.ld (v := .agg #[.int .i64 t7, .int .i64 ((rd_T88 l0 x32_17).f1), .int .i64 ((rd_T88 l0 x32_17).f2), .int .i64 ((rd_T88 l0 x32_17).f3), .int .i64 ((rd_T88 l0 x32_17).f4)]) 0 (some 5) rfl rfl rfl) rfl (so rfl (op_lit (s := 5) (by_ := 40) k88 ([(⟨t7, (rd_T88 l0 x32_17).f1, (rd_T88 l0 x32_17).f2, (rd_T88 l0 x32_17).f3, (rd_T88 l0 x32_17).f4⟩ : S88)] : List S88) [[]] [] 3 [.tmp 27] rfl rfl rfl rfl rfl rfl rfl rfl rfl rfl rfl rfl rfl dq rfl fun A28_8 c28_8 => ?_)))))))))
   revert H; refine ggI ?_; intro g9 H
   exact so rfl (op_app (k := k88) (s := 5) (by_ := 40) 1 3 rfl rfl rfl rfl (ap1 g9 dq) (ap1n g9 dq) (.inl rfl) true (fun _ => .inl rfl) rfl rfl fun A29_10 c29_10 => (nmE (en := [.sl 2 k92 Ax32_3 cx32_3 x32_3 1 true, .sl 0 k88 Al0 cl0 l0 0 false, .sl 2 k88 A28_8 c28_8 ([(⟨t7, (rd_T88 l0 x32_17).f1, (rd_T88 l0 x32_17).f2, (rd_T88 l0 x32_17).f3, (rd_T88 l0 x32_17).f4⟩ : S88)] : List S88) 3 true, .sl 2 k88 A29_10 c29_10 (x32_5 ++ ([(⟨t7, (rd_T88 l0 x32_17).f1, (rd_T88 l0 x32_17).f2, (rd_T88 l0 x32_17).f3, (rd_T88 l0 x32_17).f4⟩ : S88)] : List S88)) 2 true]) (by kernel_rfl) (sv (EV.as rfl) rfl (re (ge (rg (sv (EV.add rfl rfl) rfl (sv (EV.mv rfl) rfl (re (pr [0, 3, 4, 5, 11, 15, 16, 17] [] [0, 1, 3] rfl rfl rfl rfl (wk [0, 3, 4, 5, 11, 15, 16, 17] [] [⟨0, 2, 1, true⟩, ⟨2, 2, 2, true⟩, ⟨1, 0, 0, false⟩] (ih1 _ (by omega) _ ⟨x32_3, Ax32_3, cx32_3, x32_4, x32_5 ++ ([(⟨t7, (rd_T88 l0 x32_17).f1, (rd_T88 l0 x32_17).f2, (rd_T88 l0 x32_17).f3, (rd_T88 l0 x32_17).f4⟩ : S88)] : List S88), A29_10, c29_10, x32_11, x32_16, wrap64 (x32_17 + 1), by omega, H, rfl⟩))))))))))))
  ·
   refine gf rfl (dF c4) (gx rfl (gs (rg (sv (EV.mv rfl) rfl ?_))))
   revert H; refine bdI ?_; rintro t11 A11 H
   refine so rfl (op_call (impl_MergeGroups.ok n1 x32_5 Ax32_5 cx32_5 _ A11) [⟨1, 0, 0, false⟩] 3 rfl rfl rfl rfl rfl ?_)
   rintro _ _ _ ⟨At11, ct11, rfl, rfl, rfl⟩
   refine sv (EV.ln rfl) rfl (sv (EV.mv rfl) rfl (re (pr [0, 3, 4, 11, 32, 33, 34] [] [0, 2, 3] rfl rfl rfl rfl (gb ?_))))
   refine lo (fun kk S => ∃ (x34_3 : List S92) (Ax34_3 : Option Addr) (cx34_3 : Nat) (x34_4 : Int) (x34_11 : Int) (x34_32 : List S88) (Ax34_32 : Option Addr) (cx34_32 : Nat) (x34_33 : Int) (x34_34 : Int), kk ≤ n1 ∧ impl_RollupGroups.l2 kk x34_3 x34_4 x34_11 x34_32 x34_33 x34_34 l0 = some r0 ∧ S = ⟨[(0, .slice Al0 l0.length cl0), (3, .slice Ax34_3 x34_3.length cx34_3), (4, .int .i64 x34_4), (11, .int .i64 x34_11), (32, .slice Ax34_32 x34_32.length cx34_32), (33, .int .i64 x34_33), (34, .int .i64 x34_34)], [], [.sl 2 k92 Ax34_3 cx34_3 x34_3 1 true, .sl 1 k88 Ax34_32 cx34_32 x34_32 2 false, .sl 0 k88 Al0 cl0 l0 0 false]⟩) (fun S hS => ?_) (fun n2 ih2 S hS => ?_) ⟨x32_3, Ax32_3, cx32_3, x32_4, x32_11, t11, At11, ct11, (t11.length : Int), 0, by omega, H, rfl⟩ (fun h => wk [0, 3, 4, 11, 32, 33, 34] [] [⟨0, 2, 1, true⟩, ⟨2, 1, 2, false⟩, ⟨1, 0, 0, false⟩] h)
   · clear H; obtain ⟨_, _, _, _, _, _, _, _, _, _, _, H, _⟩ := hS; rw [impl_RollupGroups.l2] at H; cases H
   clear H
   obtain ⟨x34_3, Ax34_3, cx34_3, x34_4, x34_11, x34_32, Ax34_32, cx34_32, x34_33, x34_34, lk2, H, rfl⟩ := hS
   rw [impl_RollupGroups.l2] at H
   refine gs (rg (sv (EV.lss rfl rfl) rfl (re (gs ?_))))
   revert H; refine ifsI ?_ ?_ <;> intro c12 H
   ·
    refine gt rfl (dT c12) (gk (gs (gb (gs (rg ?_)))))
    revert H; refine ggI ?_; intro g13 H
    revert H; refine ggI ?_; intro g14 H
    refine sv (EV.ix 1 rfl rfl rfl g13 g14 rfl) rfl (sv (EV.le (v := .agg #[.int .i64 ((rd_T88 x34_32 x34_34).f0), .int .i64 ((rd_T88 x34_32 x34_34).f1), .int .i64 ((rd_T88 x34_32 x34_34).f2), .int .i64 ((rd_T88 x34_32 x34_34).f3), .int .i64 ((rd_T88 x34_32 x34_34).f4)]) x34_34 0 (some 5) 1 z88 rfl rfl rfl g13 g14 rfl rfl rfl) rfl (so rfl (op_alloc (cs := [.int .i64 0, .int .i64 0, .int .i64 0, .int .i64 0, .int .i64 0]) (by kernel_rfl) rfl fun b9 => (so rfl (op_st (cs' := [.int .i64 ((rd_T88 x34_32 x34_34).f0), .int .i64 ((rd_T88 x34_32 x34_34).f1), .int .i64 ((rd_T88 x34_32 x34_34).f2), .int .i64 ((rd_T88 x34_32 x34_34).f3), .int .i64 ((rd_T88 x34_32 x34_34).f4)]) 0 rfl rfl rfl rfl rfl rfl (re (rg (sv (EV.mv rfl) rfl (sv (EV.mv rfl) rfl (sv (EV.ld (v := .agg #[.int .i64 ((rd_T88 x34_32 x34_34).f0), .int .i64 ((rd_T88 x34_32 x34_34).f1), .int .i64 ((rd_T88 x34_32 x34_34).f2), .int .i64 ((rd_T88 x34_32 x34_34).f3), .int .i64 ((rd_T88 x34_32 x34_34).f4)]) 0 (some 5) rfl rfl rfl) rfl (sv (EV.bd (v := .agg #[.int .i64 x34_4, .int .i64 ((rd_T88 x34_32 x34_34).f0), .int .i64 ((rd_T88 x34_32 x34_34).f1), .int .i64 ((rd_T88 x34_32 x34_34).f2), .int .i64 ((rd_T88 x34_32 x34_34).f3), .int .i64 ((rd_T88 x34_32 x34_34).f4)]) rfl (by kernel_rfl)) rfl (so rfl (op_lit (s := 6) (by_ := 48) k92 ([(⟨x34_4, (⟨(rd_T88 x34_32 x34_34).f0, (rd_T88 x34_32 x34_34).f1, (rd_T88 x34_32 x34_34).f2, (rd_T88 x34_32 x34_34).f3, (rd_T88 x34_32 x34_34).f4⟩ : S88)⟩ : S92)] : List S92) [[]] [] 3 [.tmp 41] rfl rfl rfl rfl rfl rfl rfl rfl rfl rfl rfl rfl rfl dq rfl fun A42_15 c42_15 => ?_)))))))))))))
    revert H; refine ggI ?_; intro g16 H
    exact so rfl (op_app (k := k92) (s := 6) (by_ := 48) 0 3 rfl rfl rfl rfl (ap1 g16 dq) (ap1n g16 dq) (.inl rfl) true (fun _ => .inl rfl) rfl rfl fun A43_17 c43_17 => (nmE (en := [.sl 1 k88 Ax34_32 cx34_32 x34_32 2 false, .sl 0 k88 Al0 cl0 l0 0 false, .sl 2 k92 A42_15 c42_15 ([(⟨x34_4, (⟨(rd_T88 x34_32 x34_34).f0, (rd_T88 x34_32 x34_34).f1, (rd_T88 x34_32 x34_34).f2, (rd_T88 x34_32 x34_34).f3, (rd_T88 x34_32 x34_34).f4⟩ : S88)⟩ : S92)] : List S92) 3 true, .sl 2 k92 A43_17 c43_17 (x34_3 ++ ([(⟨x34_4, (⟨(rd_T88 x34_32 x34_34).f0, (rd_T88 x34_32 x34_34).f1, (rd_T88 x34_32 x34_34).f2, (rd_T88 x34_32 x34_34).f3, (rd_T88 x34_32 x34_34).f4⟩ : S88)⟩ : S92)] : List S92)) 1 true]) (by kernel_rfl) (sv (EV.as rfl) rfl (re (pr [0, 3, 4, 11, 32, 33, 34] [] [0, 1, 3] rfl rfl rfl rfl (ge (rg (sv (EV.add rfl rfl) rfl (sv (EV.mv rfl) rfl (re (wk [0, 3, 4, 11, 32, 33, 34] [] [⟨2, 2, 1, true⟩, ⟨0, 1, 2, false⟩, ⟨1, 0, 0, false⟩] (ih2 _ (by omega) _ ⟨x34_3 ++ ([(⟨x34_4, (⟨(rd_T88 x34_32 x34_34).f0, (rd_T88 x34_32 x34_34).f1, (rd_T88 x34_32 x34_34).f2, (rd_T88 x34_32 x34_34).f3, (rd_T88 x34_32 x34_34).f4⟩ : S88)⟩ : S92)] : List S92), A43_17, c43_17, x34_4, x34_11, x34_32, Ax34_32, cx34_32, x34_33, wrap64 (x34_34 + 1), by omega, H, rfl⟩))))))))))))
   ·
    exact gf rfl (dF c12) (gx rfl (ge (rg (sv (EV.add rfl rfl) rfl (sv (EV.mv rfl) rfl (re (pr [0, 3, 11] [] [0, 2] rfl rfl rfl rfl (wk [0, 3, 11] [] [⟨0, 2, 1, true⟩, ⟨1, 0, 0, false⟩] (ih0 _ (by omega) _ ⟨x34_3, Ax34_3, cx34_3, wrap64 (x34_11 + 1), H, rfl⟩)))))))))
 ·
  refine gf rfl (dF c2) (gx rfl (gs (rg (sv (EV.mv rfl) rfl (sv (EV.as rfl) rfl (re ?_))))))
  cases H
  exact rt Try.func34 rfl (.tmp rfl .nil) rfl [] [⟨0, 2, 1, true⟩] rfl rfl rfl rfl rfl ⟨_, _, rfl, rfl, rfl⟩
def laws_eqGroup.f (a0_0 : Int) (a0_1 : Int) (a0_2 : Int) (a0_3 : Int) (a0_4 : Int) (a1_0 : Int) (a1_1 : Int) (a1_2 : Int) (a1_3 : Int) (a1_4 : Int) : Option (Bool) := if a0_0 = a1_0 then (if a0_1 = a1_1 then (if a0_2 = a1_2 then (if a0_3 = a1_3 then (if a0_4 = a1_4 then (some true) else (some false)) else (some false)) else (some false)) else (some false)) else (some false)
set_option maxHeartbeats 4000000 in
set_option maxRecDepth 100000 in
theorem laws_eqGroup.ok (a0_0 : Int) (a0_1 : Int) (a0_2 : Int) (a0_3 : Int) (a0_4 : Int) (a1_0 : Int) (a1_1 : Int) (a1_2 : Int) (a1_3 : Int) (a1_4 : Int) (r0 : Bool) (H : laws_eqGroup.f a0_0 a0_1 a0_2 a0_3 a0_4 a1_0 a1_1 a1_2 a1_3 a1_4 = some r0) : Fn Try.prog 71 [.agg #[.int .i64 a0_0, .int .i64 a0_1, .int .i64 a0_2, .int .i64 a0_3, .int .i64 a0_4], .agg #[.int .i64 a1_0, .int .i64 a1_1, .int .i64 a1_2, .int .i64 a1_3, .int .i64 a1_4]] [] [] (fun v bx en => v = .bool r0 ∧ bx = [] ∧ en = []) := by
 refine fn_ 30 Try.func71 rfl rfl rfl (fun base T w0 => ?_)
 rw [laws_eqGroup.f] at H
 refine gs (rg (so rfl (op_box (cs := [.int .i64 a0_0, .int .i64 a0_1, .int .i64 a0_2, .int .i64 a0_3, .int .i64 a0_4]) rfl rfl rfl fun b2 => (so rfl (op_box (cs := [.int .i64 a1_0, .int .i64 a1_1, .int .i64 a1_2, .int .i64 a1_3, .int .i64 a1_4]) rfl rfl rfl fun b3 => (sv (EV.as rfl) rfl (re (gs (gs (rg (sv (EV.fa 0 rfl) rfl (sv (EV.ld 0 none rfl rfl rfl) rfl (sv (EV.fa 0 rfl) rfl (sv (EV.ld 1 none rfl rfl rfl) rfl (sv (EV.neq rfl rfl) rfl (re (pr [2, 3, 9] [0, 1] [] rfl rfl rfl rfl ?_)))))))))))))))))
 revert H; refine ifsI ?_ ?_ <;> intro c1 H
 ·
  refine gf rfl (nF c1) (gk (gs (gs (rg (sv (EV.fa 1 rfl) rfl (sv (EV.ld 0 none rfl rfl rfl) rfl (sv (EV.fa 1 rfl) rfl (sv (EV.ld 1 none rfl rfl rfl) rfl (sv (EV.neq rfl rfl) rfl (re ?_))))))))))
  revert H; refine ifsI ?_ ?_ <;> intro c2 H
  ·
   refine gf rfl (nF c2) (gk (gs (gs (rg (sv (EV.fa 2 rfl) rfl (sv (EV.ld 0 none rfl rfl rfl) rfl (sv (EV.fa 2 rfl) rfl (sv (EV.ld 1 none rfl rfl rfl) rfl (sv (EV.neq rfl rfl) rfl (re (pr [2, 3, 19] [0, 1] [] rfl rfl rfl rfl ?_)))))))))))
   revert H; refine ifsI ?_ ?_ <;> intro c3 H
   ·
    refine gf rfl (nF c3) (gk (gs (gs (rg (sv (EV.fa 3 rfl) rfl (sv (EV.ld 0 none rfl rfl rfl) rfl (sv (EV.fa 3 rfl) rfl (sv (EV.ld 1 none rfl rfl rfl) rfl (sv (EV.neq rfl rfl) rfl (re ?_))))))))))
    revert H; refine ifsI ?_ ?_ <;> intro c4 H
    ·
     refine gf rfl (nF c4) (gk (gs (gs (rg (sv (EV.fa 4 rfl) rfl (sv (EV.ld 0 none rfl rfl rfl) rfl (sv (EV.fa 4 rfl) rfl (sv (EV.ld 1 none rfl rfl rfl) rfl (sv (EV.neq rfl rfl) rfl (re (pr [29] [] [] rfl rfl rfl rfl ?_)))))))))))
     revert H; refine ifsI ?_ ?_ <;> intro c5 H
     ·
      refine gf rfl (nF c5) (gk (gs (rg (sv (EV.as rfl) rfl (re ?_)))))
      cases H
      exact rt Try.func71 rfl (.tmp rfl .nil) rfl [] [] rfl rfl rfl rfl rfl ⟨rfl, rfl, rfl⟩
     ·
      refine gt rfl (nT c5) (gs (rg (sv (EV.as rfl) rfl (re ?_))))
      cases H
      exact rt Try.func71 rfl (.tmp rfl .nil) rfl [] [] rfl rfl rfl rfl rfl ⟨rfl, rfl, rfl⟩
    ·
     refine gt rfl (nT c4) (gs (rg (sv (EV.as rfl) rfl (re (pr [4] [] [] rfl rfl rfl rfl ?_)))))
     cases H
     exact rt Try.func71 rfl (.tmp rfl .nil) rfl [] [] rfl rfl rfl rfl rfl ⟨rfl, rfl, rfl⟩
   ·
    refine gt rfl (nT c3) (gs (rg (sv (EV.as rfl) rfl (re ?_))))
    cases H
    exact rt Try.func71 rfl (.tmp rfl .nil) rfl [] [] rfl rfl rfl rfl rfl ⟨rfl, rfl, rfl⟩
  ·
   refine gt rfl (nT c2) (gs (rg (sv (EV.as rfl) rfl (re (pr [4] [] [] rfl rfl rfl rfl ?_)))))
   cases H
   exact rt Try.func71 rfl (.tmp rfl .nil) rfl [] [] rfl rfl rfl rfl rfl ⟨rfl, rfl, rfl⟩
 ·
  refine gt rfl (nT c1) (gs (rg (sv (EV.as rfl) rfl (re ?_))))
  cases H
  exact rt Try.func71 rfl (.tmp rfl .nil) rfl [] [] rfl rfl rfl rfl rfl ⟨rfl, rfl, rfl⟩
def laws_eqRollupRow.f (a0_0 : Int) (a0_1 : Int) (a0_2 : Int) (a0_3 : Int) (a0_4 : Int) (a0_5 : Int) (a1_0 : Int) (a1_1 : Int) (a1_2 : Int) (a1_3 : Int) (a1_4 : Int) (a1_5 : Int) : Option (Bool) := if a0_0 = a1_0 then ((laws_eqGroup.f a0_1 a0_2 a0_3 a0_4 a0_5 a1_1 a1_2 a1_3 a1_4 a1_5).bind fun t2 => (if t2 = true then (some true) else (some false))) else (some false)
set_option maxHeartbeats 4000000 in
set_option maxRecDepth 100000 in
theorem laws_eqRollupRow.ok (a0_0 : Int) (a0_1 : Int) (a0_2 : Int) (a0_3 : Int) (a0_4 : Int) (a0_5 : Int) (a1_0 : Int) (a1_1 : Int) (a1_2 : Int) (a1_3 : Int) (a1_4 : Int) (a1_5 : Int) (r0 : Bool) (H : laws_eqRollupRow.f a0_0 a0_1 a0_2 a0_3 a0_4 a0_5 a1_0 a1_1 a1_2 a1_3 a1_4 a1_5 = some r0) : Fn Try.prog 70 [.agg #[.int .i64 a0_0, .int .i64 a0_1, .int .i64 a0_2, .int .i64 a0_3, .int .i64 a0_4, .int .i64 a0_5], .agg #[.int .i64 a1_0, .int .i64 a1_1, .int .i64 a1_2, .int .i64 a1_3, .int .i64 a1_4, .int .i64 a1_5]] [] [] (fun v bx en => v = .bool r0 ∧ bx = [] ∧ en = []) := by
 refine fn_ 16 Try.func70 rfl rfl rfl (fun base T w0 => ?_)
 rw [laws_eqRollupRow.f] at H
 refine gs (rg (so rfl (op_box (cs := [.int .i64 a0_0, .int .i64 a0_1, .int .i64 a0_2, .int .i64 a0_3, .int .i64 a0_4, .int .i64 a0_5]) rfl rfl rfl fun b2 => (so rfl (op_box (cs := [.int .i64 a1_0, .int .i64 a1_1, .int .i64 a1_2, .int .i64 a1_3, .int .i64 a1_4, .int .i64 a1_5]) rfl rfl rfl fun b3 => (sv (EV.as rfl) rfl (re (gs (gs (rg (sv (EV.fa 0 rfl) rfl (sv (EV.ld 0 none rfl rfl rfl) rfl (sv (EV.fa 0 rfl) rfl (sv (EV.ld 1 none rfl rfl rfl) rfl (sv (EV.neq rfl rfl) rfl (re (pr [2, 3, 9] [0, 1] [] rfl rfl rfl rfl ?_)))))))))))))))))
 revert H; refine ifsI ?_ ?_ <;> intro c1 H
 ·
  refine gf rfl (nF c1) (gk (gs (gs (rg (sv (EV.fa 1 rfl) rfl (sv (EV.ld (v := .agg #[.int .i64 a0_1, .int .i64 a0_2, .int .i64 a0_3, .int .i64 a0_4, .int .i64 a0_5]) 0 (some 5) rfl rfl rfl) rfl (sv (EV.fa 1 rfl) rfl (sv (EV.ld (v := .agg #[.int .i64 a1_1, .int .i64 a1_2, .int .i64 a1_3, .int .i64 a1_4, .int .i64 a1_5]) 1 (some 5) rfl rfl rfl) rfl ?_))))))))
  revert H; refine bdI ?_; rintro t2 A2 H
  refine so rfl (op_call (laws_eqGroup.ok a0_1 a0_2 a0_3 a0_4 a0_5 a1_1 a1_2 a1_3 a1_4 a1_5 _ A2) [] 1 rfl rfl rfl rfl rfl ?_)
  rintro _ _ _ ⟨rfl, rfl, rfl⟩
  refine sv (EV.nt rfl) rfl (re (pr [15] [] [] rfl rfl rfl rfl ?_))
  revert H; refine ifsI ?_ ?_ <;> intro c3 H
  ·
   subst c3
   refine gf rfl rfl (gk (gs (rg (sv (EV.as rfl) rfl (re ?_)))))
   cases H
   exact rt Try.func70 rfl (.tmp rfl .nil) rfl [] [] rfl rfl rfl rfl rfl ⟨rfl, rfl, rfl⟩
  ·
   have xc3 := bF c3; subst xc3
   refine gt rfl rfl (gs (rg (sv (EV.as rfl) rfl (re ?_))))
   cases H
   exact rt Try.func70 rfl (.tmp rfl .nil) rfl [] [] rfl rfl rfl rfl rfl ⟨rfl, rfl, rfl⟩
 ·
  refine gt rfl (nT c1) (gs (rg (sv (EV.as rfl) rfl (re ?_))))
  cases H
  exact rt Try.func70 rfl (.tmp rfl .nil) rfl [] [] rfl rfl rfl rfl rfl ⟨rfl, rfl, rfl⟩
def laws_eqRollupRowS.l0 : Nat → Int → (List S92) → (List S92) → Option (Bool)
 | 0, _, _, _ => none
 | k + 1, x2_5, l0, l1 => if x2_5 < (l0.length : Int) then (if 0 ≤ x2_5 then (if x2_5 < (l1.length : Int) then ((laws_eqRollupRow.f ((rd_T92 l0 x2_5).f0) ((rd_T92 l0 x2_5).f1.f0) ((rd_T92 l0 x2_5).f1.f1) ((rd_T92 l0 x2_5).f1.f2) ((rd_T92 l0 x2_5).f1.f3) ((rd_T92 l0 x2_5).f1.f4) ((rd_T92 l1 x2_5).f0) ((rd_T92 l1 x2_5).f1.f0) ((rd_T92 l1 x2_5).f1.f1) ((rd_T92 l1 x2_5).f1.f2) ((rd_T92 l1 x2_5).f1.f3) ((rd_T92 l1 x2_5).f1.f4)).bind fun t5 => (if t5 = true then (laws_eqRollupRowS.l0 k (wrap64 (x2_5 + 1)) l0 l1) else (some false))) else none) else none) else (some true)
def laws_eqRollupRowS.f (k : Nat) (l0 : List S92) (l1 : List S92) : Option (Bool) := if (l0.length : Int) = (l1.length : Int) then (laws_eqRollupRowS.l0 k 0 l0 l1) else (some false)
set_option maxHeartbeats 4000000 in
set_option maxRecDepth 100000 in
theorem laws_eqRollupRowS.ok (k : Nat) (l0 : List S92) (Al0 : Option Addr) (cl0 : Nat) (l1 : List S92) (Al1 : Option Addr) (cl1 : Nat) (r0 : Bool) (H : laws_eqRollupRowS.f k l0 l1 = some r0) : Fn Try.prog 35 [.slice Al0 l0.length cl0, .slice Al1 l1.length cl1] [] [.sl 0 k92 Al0 cl0 l0 0 false, .sl 0 k92 Al1 cl1 l1 0 false] (fun v bx en => v = .bool r0 ∧ bx = [] ∧ en = []) := by
 refine fn_ 27 Try.func35 rfl rfl rfl (fun base T w0 => ?_)
 rw [laws_eqRollupRowS.f] at H
 refine gs (rg (sv (EV.as rfl) rfl (re (gs (gs (rg (sv (EV.mv rfl) rfl (sv (EV.ln rfl) rfl (sv (EV.mv rfl) rfl (sv (EV.ln rfl) rfl (sv (EV.neq rfl rfl) rfl (re ?_))))))))))))
 revert H; refine ifsI ?_ ?_ <;> intro c1 H
 ·
  refine gf rfl (nF c1) (gk (gs (gs (rg (sv (EV.as rfl) rfl (re (pr [0, 1, 5] [] [0, 1] rfl rfl rfl rfl (gb ?_))))))))
  refine lo (fun kk S => ∃ (x2_5 : Int), laws_eqRollupRowS.l0 kk x2_5 l0 l1 = some r0 ∧ S = ⟨[(0, .slice Al0 l0.length cl0), (1, .slice Al1 l1.length cl1), (5, .int .i64 x2_5)], [], [.sl 0 k92 Al0 cl0 l0 0 false, .sl 0 k92 Al1 cl1 l1 0 false]⟩) (fun S hS => ?_) (fun n0 ih0 S hS => ?_) ⟨0, H, rfl⟩ (fun h => wk [0, 1, 5] [] [⟨0, 0, 0, false⟩, ⟨1, 0, 0, false⟩] h)
  · clear H; obtain ⟨_, H, _⟩ := hS; rw [laws_eqRollupRowS.l0] at H; cases H
  clear H
  obtain ⟨x2_5, H, rfl⟩ := hS
  rw [laws_eqRollupRowS.l0] at H
  refine gs (gs (rg (sv (EV.mv rfl) rfl (sv (EV.mv rfl) rfl (sv (EV.ln rfl) rfl (sv (EV.lss rfl rfl) rfl (re ?_)))))))
  revert H; refine ifsI ?_ ?_ <;> intro c2 H
  ·
   refine gt rfl (dT c2) (gk (gs (gb (gs ?_))))
   revert H; refine ggI ?_; intro g3 H
   revert H; refine ggI ?_; intro g4 H
   refine dr [] [0, 1] [] 10 rfl rfl rfl rfl (xv 0 [] [0, 1] rfl (EV.mv rfl) rfl rfl rfl rfl (xv 1 [] [0, 1] rfl (EV.mv rfl) rfl rfl rfl rfl (xv 2 [] [0, 1] rfl (EV.ix 0 rfl rfl rfl g3 c2 rfl) rfl rfl rfl rfl (xv 3 [] [0, 1] rfl (EV.le (v := .agg #[.int .i64 ((rd_T92 l0 x2_5).f0), .int .i64 ((rd_T92 l0 x2_5).f1.f0), .int .i64 ((rd_T92 l0 x2_5).f1.f1), .int .i64 ((rd_T92 l0 x2_5).f1.f2), .int .i64 ((rd_T92 l0 x2_5).f1.f3), .int .i64 ((rd_T92 l0 x2_5).f1.f4)]) x2_5 0 (some 6) 0 z92 rfl rfl rfl g3 c2 rfl rfl rfl) rfl rfl rfl rfl (xv 4 [] [0, 1] rfl (EV.mv rfl) rfl rfl rfl rfl (xv 5 [] [0, 1] rfl (EV.mv rfl) rfl rfl rfl rfl (xv 6 [] [0, 1] rfl (EV.ix 1 rfl rfl rfl g3 g4 rfl) rfl rfl rfl rfl (xv 7 [] [0, 1] rfl (EV.le (v := .agg #[.int .i64 ((rd_T92 l1 x2_5).f0), .int .i64 ((rd_T92 l1 x2_5).f1.f0), .int .i64 ((rd_T92 l1 x2_5).f1.f1), .int .i64 ((rd_T92 l1 x2_5).f1.f2), .int .i64 ((rd_T92 l1 x2_5).f1.f3), .int .i64 ((rd_T92 l1 x2_5).f1.f4)]) x2_5 0 (some 6) 1 z92 rfl rfl rfl g3 g4 rfl rfl rfl) rfl rfl rfl rfl (one1 8 rfl rfl ?_)))))))))
   revert H; refine bdI ?_; rintro t5 A5 H
   refine op_call (laws_eqRollupRow.ok ((rd_T92 l0 x2_5).f0) ((rd_T92 l0 x2_5).f1.f0) ((rd_T92 l0 x2_5).f1.f1) ((rd_T92 l0 x2_5).f1.f2) ((rd_T92 l0 x2_5).f1.f3) ((rd_T92 l0 x2_5).f1.f4) ((rd_T92 l1 x2_5).f0) ((rd_T92 l1 x2_5).f1.f0) ((rd_T92 l1 x2_5).f1.f1) ((rd_T92 l1 x2_5).f1.f2) ((rd_T92 l1 x2_5).f1.f3) ((rd_T92 l1 x2_5).f1.f4) _ A5) [] 1 rfl rfl rfl rfl rfl ?_
   rintro _ _ _ ⟨rfl, rfl, rfl⟩
   refine xs [] [0, 1] rfl rfl rfl (xv 9 [] [0, 1] rfl (EV.nt rfl) rfl rfl rfl rfl (xd (pr [0, 1, 5, 26] [] [0, 1] rfl rfl rfl rfl ?_)))
   revert H; refine ifsI ?_ ?_ <;> intro c6 H
   ·
    subst c6
    exact gf rfl rfl (gk (ge (rg (sv (EV.mv rfl) rfl (sv (EV.add rfl rfl) rfl (sv (EV.as rfl) rfl (re (wk [0, 1, 5] [] [⟨0, 0, 0, false⟩, ⟨1, 0, 0, false⟩] (ih0 _ (by omega) _ ⟨wrap64 (x2_5 + 1), H, rfl⟩)))))))))
   ·
    have xc6 := bF c6; subst xc6
    refine gt rfl rfl (gs (rg (sv (EV.as rfl) rfl (re ?_))))
    cases H
    exact rt Try.func35 rfl (.tmp rfl .nil) rfl [] [] rfl rfl rfl rfl rfl ⟨rfl, rfl, rfl⟩
  ·
   refine gf rfl (dF c2) (gx rfl (gs (rg (sv (EV.as rfl) rfl (re (pr [4] [] [] rfl rfl rfl rfl ?_))))))
   cases H
   exact rt Try.func35 rfl (.tmp rfl .nil) rfl [] [] rfl rfl rfl rfl rfl ⟨rfl, rfl, rfl⟩
 ·
  refine gt rfl (nT c1) (gs (rg (sv (EV.as rfl) rfl (re (pr [4] [] [] rfl rfl rfl rfl ?_)))))
  cases H
  exact rt Try.func35 rfl (.tmp rfl .nil) rfl [] [] rfl rfl rfl rfl rfl ⟨rfl, rfl, rfl⟩
def laws_eqGroupS.l0 : Nat → Int → (List S88) → (List S88) → Option (Bool)
 | 0, _, _, _ => none
 | k + 1, x2_5, l0, l1 => if x2_5 < (l0.length : Int) then (if 0 ≤ x2_5 then (if x2_5 < (l1.length : Int) then ((laws_eqGroup.f ((rd_T88 l0 x2_5).f0) ((rd_T88 l0 x2_5).f1) ((rd_T88 l0 x2_5).f2) ((rd_T88 l0 x2_5).f3) ((rd_T88 l0 x2_5).f4) ((rd_T88 l1 x2_5).f0) ((rd_T88 l1 x2_5).f1) ((rd_T88 l1 x2_5).f2) ((rd_T88 l1 x2_5).f3) ((rd_T88 l1 x2_5).f4)).bind fun t5 => (if t5 = true then (laws_eqGroupS.l0 k (wrap64 (x2_5 + 1)) l0 l1) else (some false))) else none) else none) else (some true)
def laws_eqGroupS.f (k : Nat) (l0 : List S88) (l1 : List S88) : Option (Bool) := if (l0.length : Int) = (l1.length : Int) then (laws_eqGroupS.l0 k 0 l0 l1) else (some false)
set_option maxHeartbeats 4000000 in
set_option maxRecDepth 100000 in
theorem laws_eqGroupS.ok (k : Nat) (l0 : List S88) (Al0 : Option Addr) (cl0 : Nat) (l1 : List S88) (Al1 : Option Addr) (cl1 : Nat) (r0 : Bool) (H : laws_eqGroupS.f k l0 l1 = some r0) : Fn Try.prog 36 [.slice Al0 l0.length cl0, .slice Al1 l1.length cl1] [] [.sl 0 k88 Al0 cl0 l0 0 false, .sl 0 k88 Al1 cl1 l1 0 false] (fun v bx en => v = .bool r0 ∧ bx = [] ∧ en = []) := by
 refine fn_ 27 Try.func36 rfl rfl rfl (fun base T w0 => ?_)
 rw [laws_eqGroupS.f] at H
 refine gs (rg (sv (EV.as rfl) rfl (re (gs (gs (rg (sv (EV.mv rfl) rfl (sv (EV.ln rfl) rfl (sv (EV.mv rfl) rfl (sv (EV.ln rfl) rfl (sv (EV.neq rfl rfl) rfl (re ?_))))))))))))
 revert H; refine ifsI ?_ ?_ <;> intro c1 H
 ·
  refine gf rfl (nF c1) (gk (gs (gs (rg (sv (EV.as rfl) rfl (re (pr [0, 1, 5] [] [0, 1] rfl rfl rfl rfl (gb ?_))))))))
  refine lo (fun kk S => ∃ (x2_5 : Int), laws_eqGroupS.l0 kk x2_5 l0 l1 = some r0 ∧ S = ⟨[(0, .slice Al0 l0.length cl0), (1, .slice Al1 l1.length cl1), (5, .int .i64 x2_5)], [], [.sl 0 k88 Al0 cl0 l0 0 false, .sl 0 k88 Al1 cl1 l1 0 false]⟩) (fun S hS => ?_) (fun n0 ih0 S hS => ?_) ⟨0, H, rfl⟩ (fun h => wk [0, 1, 5] [] [⟨0, 0, 0, false⟩, ⟨1, 0, 0, false⟩] h)
  · clear H; obtain ⟨_, H, _⟩ := hS; rw [laws_eqGroupS.l0] at H; cases H
  clear H
  obtain ⟨x2_5, H, rfl⟩ := hS
  rw [laws_eqGroupS.l0] at H
  refine gs (gs (rg (sv (EV.mv rfl) rfl (sv (EV.mv rfl) rfl (sv (EV.ln rfl) rfl (sv (EV.lss rfl rfl) rfl (re ?_)))))))
  revert H; refine ifsI ?_ ?_ <;> intro c2 H
  ·
   refine gt rfl (dT c2) (gk (gs (gb (gs ?_))))
   revert H; refine ggI ?_; intro g3 H
   revert H; refine ggI ?_; intro g4 H
   refine dr [] [0, 1] [] 10 rfl rfl rfl rfl (xv 0 [] [0, 1] rfl (EV.mv rfl) rfl rfl rfl rfl (xv 1 [] [0, 1] rfl (EV.mv rfl) rfl rfl rfl rfl (xv 2 [] [0, 1] rfl (EV.ix 0 rfl rfl rfl g3 c2 rfl) rfl rfl rfl rfl (xv 3 [] [0, 1] rfl (EV.le (v := .agg #[.int .i64 ((rd_T88 l0 x2_5).f0), .int .i64 ((rd_T88 l0 x2_5).f1), .int .i64 ((rd_T88 l0 x2_5).f2), .int .i64 ((rd_T88 l0 x2_5).f3), .int .i64 ((rd_T88 l0 x2_5).f4)]) x2_5 0 (some 5) 0 z88 rfl rfl rfl g3 c2 rfl rfl rfl) rfl rfl rfl rfl (xv 4 [] [0, 1] rfl (EV.mv rfl) rfl rfl rfl rfl (xv 5 [] [0, 1] rfl (EV.mv rfl) rfl rfl rfl rfl (xv 6 [] [0, 1] rfl (EV.ix 1 rfl rfl rfl g3 g4 rfl) rfl rfl rfl rfl (xv 7 [] [0, 1] rfl (EV.le (v := .agg #[.int .i64 ((rd_T88 l1 x2_5).f0), .int .i64 ((rd_T88 l1 x2_5).f1), .int .i64 ((rd_T88 l1 x2_5).f2), .int .i64 ((rd_T88 l1 x2_5).f3), .int .i64 ((rd_T88 l1 x2_5).f4)]) x2_5 0 (some 5) 1 z88 rfl rfl rfl g3 g4 rfl rfl rfl) rfl rfl rfl rfl (one1 8 rfl rfl ?_)))))))))
   revert H; refine bdI ?_; rintro t5 A5 H
   refine op_call (laws_eqGroup.ok ((rd_T88 l0 x2_5).f0) ((rd_T88 l0 x2_5).f1) ((rd_T88 l0 x2_5).f2) ((rd_T88 l0 x2_5).f3) ((rd_T88 l0 x2_5).f4) ((rd_T88 l1 x2_5).f0) ((rd_T88 l1 x2_5).f1) ((rd_T88 l1 x2_5).f2) ((rd_T88 l1 x2_5).f3) ((rd_T88 l1 x2_5).f4) _ A5) [] 1 rfl rfl rfl rfl rfl ?_
   rintro _ _ _ ⟨rfl, rfl, rfl⟩
   refine xs [] [0, 1] rfl rfl rfl (xv 9 [] [0, 1] rfl (EV.nt rfl) rfl rfl rfl rfl (xd (pr [0, 1, 5, 26] [] [0, 1] rfl rfl rfl rfl ?_)))
   revert H; refine ifsI ?_ ?_ <;> intro c6 H
   ·
    subst c6
    exact gf rfl rfl (gk (ge (rg (sv (EV.mv rfl) rfl (sv (EV.add rfl rfl) rfl (sv (EV.as rfl) rfl (re (wk [0, 1, 5] [] [⟨0, 0, 0, false⟩, ⟨1, 0, 0, false⟩] (ih0 _ (by omega) _ ⟨wrap64 (x2_5 + 1), H, rfl⟩)))))))))
   ·
    have xc6 := bF c6; subst xc6
    refine gt rfl rfl (gs (rg (sv (EV.as rfl) rfl (re ?_))))
    cases H
    exact rt Try.func36 rfl (.tmp rfl .nil) rfl [] [] rfl rfl rfl rfl rfl ⟨rfl, rfl, rfl⟩
  ·
   refine gf rfl (dF c2) (gx rfl (gs (rg (sv (EV.as rfl) rfl (re (pr [4] [] [] rfl rfl rfl rfl ?_))))))
   cases H
   exact rt Try.func36 rfl (.tmp rfl .nil) rfl [] [] rfl rfl rfl rfl rfl ⟨rfl, rfl, rfl⟩
 ·
  refine gt rfl (nT c1) (gs (rg (sv (EV.as rfl) rfl (re (pr [4] [] [] rfl rfl rfl rfl ?_)))))
  cases H
  exact rt Try.func36 rfl (.tmp rfl .nil) rfl [] [] rfl rfl rfl rfl rfl ⟨rfl, rfl, rfl⟩
def laws_markGroupS.l0 : Nat → (List S88) → Int → Int → Option (Int × (List S88))
 | 0, _, _, _ => none
 | k + 1, x2_ml0, x2_1, x2_5 => if x2_5 < (x2_ml0.length : Int) then (if 0 ≤ x2_5 then ((some (x2_ml0.set x2_5.toNat (⟨x2_1, (rd_T88 x2_ml0 x2_5).f1, (rd_T88 x2_ml0 x2_5).f2, (rd_T88 x2_ml0 x2_5).f3, (rd_T88 x2_ml0 x2_5).f4⟩ : S88))).bind fun s3 => (if x2_5 < (s3.length : Int) then ((some (s3.set x2_5.toNat (⟨(rd_T88 s3 x2_5).f0, wrap64 (x2_1 + 1), (rd_T88 s3 x2_5).f2, (rd_T88 s3 x2_5).f3, (rd_T88 s3 x2_5).f4⟩ : S88))).bind fun s5 => (if x2_5 < (s5.length : Int) then ((some (s5.set x2_5.toNat (⟨(rd_T88 s5 x2_5).f0, (rd_T88 s5 x2_5).f1, wrap64 ((wrap64 (x2_1 + 1)) + 1), (rd_T88 s5 x2_5).f3, (rd_T88 s5 x2_5).f4⟩ : S88))).bind fun s7 => (if x2_5 < (s7.length : Int) then ((some (s7.set x2_5.toNat (⟨(rd_T88 s7 x2_5).f0, (rd_T88 s7 x2_5).f1, (rd_T88 s7 x2_5).f2, wrap64 ((wrap64 ((wrap64 (x2_1 + 1)) + 1)) + 1), (rd_T88 s7 x2_5).f4⟩ : S88))).bind fun s9 => (if x2_5 < (s9.length : Int) then ((some (s9.set x2_5.toNat (⟨(rd_T88 s9 x2_5).f0, (rd_T88 s9 x2_5).f1, (rd_T88 s9 x2_5).f2, (rd_T88 s9 x2_5).f3, wrap64 ((wrap64 ((wrap64 ((wrap64 (x2_1 + 1)) + 1)) + 1)) + 1)⟩ : S88))).bind fun s11 => (laws_markGroupS.l0 k s11 (wrap64 ((wrap64 ((wrap64 ((wrap64 ((wrap64 (x2_1 + 1)) + 1)) + 1)) + 1)) + 1)) (wrap64 (x2_5 + 1)))) else none)) else none)) else none)) else none)) else none) else (some (x2_1, x2_ml0))
def laws_markGroupS.f (k : Nat) (l0 : List S88) (a1 : Int) : Option (Int × (List S88)) := laws_markGroupS.l0 k l0 a1 0
set_option maxHeartbeats 4000000 in
set_option maxRecDepth 100000 in
theorem laws_markGroupS.ok (k : Nat) (l0 : List S88) (Al0 : Option Addr) (cl0 : Nat) (a1 : Int) (r0 : Int) (r1 : List S88) (H : laws_markGroupS.f k l0 a1 = some (r0, r1)) : Fn Try.prog 37 [.slice Al0 l0.length cl0, .int .i64 a1] [] [.sl 1 k88 Al0 cl0 l0 1 false] (fun v bx en => v = .int .i64 r0 ∧ bx = [] ∧ en = [.sl 1 k88 Al0 cl0 r1 1 false] ∧ r1.length = l0.length) := by
 refine fn_ 48 Try.func37 rfl rfl rfl (fun base T w0 => ?_)
 rw [laws_markGroupS.f] at H
 refine gs (rg (sv (EV.as rfl) rfl (re (gs (gs (rg (sv (EV.as rfl) rfl (re (gb ?_)))))))))
 refine lo (fun kk S => ∃ (x2_ml0 : List S88) (x2_1 : Int) (x2_5 : Int), laws_markGroupS.l0 kk x2_ml0 x2_1 x2_5 = some (r0, r1) ∧ x2_ml0.length = l0.length ∧ S = ⟨[(0, .slice Al0 x2_ml0.length cl0), (1, .int .i64 x2_1), (5, .int .i64 x2_5)], [], [.sl 1 k88 Al0 cl0 x2_ml0 1 false]⟩) (fun S hS => ?_) (fun n0 ih0 S hS => ?_) ⟨l0, a1, 0, H, (by first | rfl | assumption | omega | (simp only [List.length_set]; first | done | assumption | omega)), rfl⟩ (fun h => wk [0, 1, 5] [] [⟨0, 1, 1, false⟩] h)
 · clear H; obtain ⟨_, _, _, H, _⟩ := hS; rw [laws_markGroupS.l0] at H; cases H
 clear H
 obtain ⟨x2_ml0, x2_1, x2_5, H, ex2_ml0, rfl⟩ := hS
 rw [laws_markGroupS.l0] at H
 refine gs (gs (rg (sv (EV.mv rfl) rfl (sv (EV.mv rfl) rfl (sv (EV.ln rfl) rfl (sv (EV.lss rfl rfl) rfl (re ?_)))))))
 revert H; refine ifsI ?_ ?_ <;> intro c1 H
 ·
  refine gt rfl (dT c1) (gk (gs (gb (gs (rg (sv (EV.mv rfl) rfl (sv (EV.mv rfl) rfl (sv (EV.mv rfl) rfl ?_))))))))
  revert H; refine ggI ?_; intro g2 H
  refine sv (EV.ix 0 rfl rfl rfl g2 c1 rfl) rfl (sv (EV.fa 0 rfl) rfl ?_)
  revert H; refine bdI ?_; intro s3 A3 H; have q3 := stl (Option.some.inj A3)
  refine so rfl (op_stg x2_5 0 0 z88 (⟨x2_1, (rd_T88 x2_ml0 x2_5).f1, (rd_T88 x2_ml0 x2_5).f2, (rd_T88 x2_ml0 x2_5).f3, (rd_T88 x2_ml0 x2_5).f4⟩ : S88) (Option.some.inj A3) rfl rfl rfl rfl g2 c1 rfl rfl rfl rfl dq rfl (rlT 0 (v' := .slice Al0 s3.length cl0) rfl (slq _ _ q3) (rlT 7 (v' := .slice Al0 s3.length cl0) rfl (slq _ _ q3) (rlT 12 (v' := .slice Al0 s3.length cl0) rfl (slq _ _ q3) (nmE (en := [.sl 1 k88 Al0 cl0 s3 1 true]) (by kernel_rfl) (re (pr [0, 1, 5] [] [0] rfl rfl rfl rfl (gs (rg (sv (EV.mv rfl) rfl (sv (EV.add rfl rfl) rfl (sv (EV.as rfl) rfl (re (gs (rg (sv (EV.mv rfl) rfl (sv (EV.mv rfl) rfl (sv (EV.mv rfl) rfl ?_))))))))))))))))))
  revert H; refine ggI ?_; intro g4 H
  refine sv (EV.ix 0 rfl rfl rfl g2 g4 rfl) rfl (sv (EV.fa 1 rfl) rfl ?_)
  revert H; refine bdI ?_; intro s5 A5 H; have q5 := stl (Option.some.inj A5)
  refine so rfl (op_stg x2_5 1 0 z88 (⟨(rd_T88 s3 x2_5).f0, wrap64 (x2_1 + 1), (rd_T88 s3 x2_5).f2, (rd_T88 s3 x2_5).f3, (rd_T88 s3 x2_5).f4⟩ : S88) (Option.some.inj A5) rfl rfl rfl rfl g2 g4 rfl rfl rfl rfl dq rfl (rlT 0 (v' := .slice Al0 s5.length cl0) rfl (slq _ _ q5) (rlT 19 (v' := .slice Al0 s5.length cl0) rfl (slq _ _ q5) (nmE (en := [.sl 1 k88 Al0 cl0 s5 1 true]) (by kernel_rfl) (re (gs (rg (sv (EV.mv rfl) rfl (sv (EV.add rfl rfl) rfl (sv (EV.as rfl) rfl (re (pr [0, 1, 5] [] [0] rfl rfl rfl rfl (gs (rg (sv (EV.mv rfl) rfl (sv (EV.mv rfl) rfl (sv (EV.mv rfl) rfl ?_)))))))))))))))))
  revert H; refine ggI ?_; intro g6 H
  refine sv (EV.ix 0 rfl rfl rfl g2 g6 rfl) rfl (sv (EV.fa 2 rfl) rfl ?_)
  revert H; refine bdI ?_; intro s7 A7 H; have q7 := stl (Option.some.inj A7)
  refine so rfl (op_stg x2_5 2 0 z88 (⟨(rd_T88 s5 x2_5).f0, (rd_T88 s5 x2_5).f1, wrap64 ((wrap64 (x2_1 + 1)) + 1), (rd_T88 s5 x2_5).f3, (rd_T88 s5 x2_5).f4⟩ : S88) (Option.some.inj A7) rfl rfl rfl rfl g2 g6 rfl rfl rfl rfl dq rfl (rlT 0 (v' := .slice Al0 s7.length cl0) rfl (slq _ _ q7) (rlT 26 (v' := .slice Al0 s7.length cl0) rfl (slq _ _ q7) (nmE (en := [.sl 1 k88 Al0 cl0 s7 1 true]) (by kernel_rfl) (re (gs (rg (sv (EV.mv rfl) rfl (sv (EV.add rfl rfl) rfl (sv (EV.as rfl) rfl (re (gs (rg (sv (EV.mv rfl) rfl (sv (EV.mv rfl) rfl (sv (EV.mv rfl) rfl ?_))))))))))))))))
  revert H; refine ggI ?_; intro g8 H
  refine sv (EV.ix 0 rfl rfl rfl g2 g8 rfl) rfl (sv (EV.fa 3 rfl) rfl ?_)
  revert H; refine bdI ?_; intro s9 A9 H; have q9 := stl (Option.some.inj A9)
  refine so rfl (op_stg x2_5 3 0 z88 (⟨(rd_T88 s7 x2_5).f0, (rd_T88 s7 x2_5).f1, (rd_T88 s7 x2_5).f2, wrap64 ((wrap64 ((wrap64 (x2_1 + 1)) + 1)) + 1), (rd_T88 s7 x2_5).f4⟩ : S88) (Option.some.inj A9) rfl rfl rfl rfl g2 g8 rfl rfl rfl rfl dq rfl (rlT 0 (v' := .slice Al0 s9.length cl0) rfl (slq _ _ q9) (rlT 26 (v' := .slice Al0 s9.length cl0) rfl (slq _ _ q9) (rlT 33 (v' := .slice Al0 s9.length cl0) rfl (slq _ _ q9) (nmE (en := [.sl 1 k88 Al0 cl0 s9 1 true]) (by kernel_rfl) (re (pr [0, 1, 5] [] [0] rfl rfl rfl rfl (gs (rg (sv (EV.mv rfl) rfl (sv (EV.add rfl rfl) rfl (sv (EV.as rfl) rfl (re (gs (rg (sv (EV.mv rfl) rfl (sv (EV.mv rfl) rfl (sv (EV.mv rfl) rfl ?_))))))))))))))))))
  revert H; refine ggI ?_; intro g10 H
  refine sv (EV.ix 0 rfl rfl rfl g2 g10 rfl) rfl (sv (EV.fa 4 rfl) rfl ?_)
  revert H; refine bdI ?_; intro s11 A11 H; have q11 := stl (Option.some.inj A11)
  exact so rfl (op_stg x2_5 4 0 z88 (⟨(rd_T88 s9 x2_5).f0, (rd_T88 s9 x2_5).f1, (rd_T88 s9 x2_5).f2, (rd_T88 s9 x2_5).f3, wrap64 ((wrap64 ((wrap64 ((wrap64 (x2_1 + 1)) + 1)) + 1)) + 1)⟩ : S88) (Option.some.inj A11) rfl rfl rfl rfl g2 g10 rfl rfl rfl rfl dq rfl (rlT 0 (v' := .slice Al0 s11.length cl0) rfl (slq _ _ q11) (rlT 40 (v' := .slice Al0 s11.length cl0) rfl (slq _ _ q11) (nmE (en := [.sl 1 k88 Al0 cl0 s11 1 true]) (by kernel_rfl) (re (rg (sv (EV.mv rfl) rfl (sv (EV.add rfl rfl) rfl (sv (EV.as rfl) rfl (re (pr [0, 1, 5] [] [0] rfl rfl rfl rfl (ge (rg (sv (EV.mv rfl) rfl (sv (EV.add rfl rfl) rfl (sv (EV.as rfl) rfl (re (wk [0, 1, 5] [] [⟨0, 1, 1, false⟩] (ih0 _ (by omega) _ ⟨s11, wrap64 ((wrap64 ((wrap64 ((wrap64 ((wrap64 (x2_1 + 1)) + 1)) + 1)) + 1)) + 1), wrap64 (x2_5 + 1), H, (by first | rfl | assumption | omega | (simp only [List.length_set]; first | done | assumption | omega)), rfl⟩)))))))))))))))))))
 ·
  refine gf rfl (dF c1) (gx rfl (gs (rg (sv (EV.mv rfl) rfl (sv (EV.as rfl) rfl (re (pr [4] [] [0] rfl rfl rfl rfl ?_)))))))
  cases H
  exact rt Try.func37 rfl (.tmp rfl .nil) rfl [] [⟨0, 1, 1, false⟩] rfl rfl rfl rfl rfl ⟨rfl, rfl, rfl, by first | rfl | assumption | omega | (simp only [List.length_set]; first | done | assumption | omega)⟩
def laws_markRollupRowS.l0 : Nat → (List S92) → Int → Int → Option (Int × (List S92))
 | 0, _, _, _ => none
 | k + 1, x2_ml0, x2_1, x2_5 => if x2_5 < (x2_ml0.length : Int) then (if 0 ≤ x2_5 then ((some (x2_ml0.set x2_5.toNat (⟨x2_1, (⟨(rd_T92 x2_ml0 x2_5).f1.f0, (rd_T92 x2_ml0 x2_5).f1.f1, (rd_T92 x2_ml0 x2_5).f1.f2, (rd_T92 x2_ml0 x2_5).f1.f3, (rd_T92 x2_ml0 x2_5).f1.f4⟩ : S88)⟩ : S92))).bind fun s3 => (if x2_5 < (s3.length : Int) then ((some (s3.set x2_5.toNat (⟨(rd_T92 s3 x2_5).f0, (⟨wrap64 (x2_1 + 1), (rd_T92 s3 x2_5).f1.f1, (rd_T92 s3 x2_5).f1.f2, (rd_T92 s3 x2_5).f1.f3, (rd_T92 s3 x2_5).f1.f4⟩ : S88)⟩ : S92))).bind fun s5 => (if x2_5 < (s5.length : Int) then ((some (s5.set x2_5.toNat (⟨(rd_T92 s5 x2_5).f0, (⟨(rd_T92 s5 x2_5).f1.f0, wrap64 ((wrap64 (x2_1 + 1)) + 1), (rd_T92 s5 x2_5).f1.f2, (rd_T92 s5 x2_5).f1.f3, (rd_T92 s5 x2_5).f1.f4⟩ : S88)⟩ : S92))).bind fun s7 => (if x2_5 < (s7.length : Int) then ((some (s7.set x2_5.toNat (⟨(rd_T92 s7 x2_5).f0, (⟨(rd_T92 s7 x2_5).f1.f0, (rd_T92 s7 x2_5).f1.f1, wrap64 ((wrap64 ((wrap64 (x2_1 + 1)) + 1)) + 1), (rd_T92 s7 x2_5).f1.f3, (rd_T92 s7 x2_5).f1.f4⟩ : S88)⟩ : S92))).bind fun s9 => (if x2_5 < (s9.length : Int) then ((some (s9.set x2_5.toNat (⟨(rd_T92 s9 x2_5).f0, (⟨(rd_T92 s9 x2_5).f1.f0, (rd_T92 s9 x2_5).f1.f1, (rd_T92 s9 x2_5).f1.f2, wrap64 ((wrap64 ((wrap64 ((wrap64 (x2_1 + 1)) + 1)) + 1)) + 1), (rd_T92 s9 x2_5).f1.f4⟩ : S88)⟩ : S92))).bind fun s11 => (if x2_5 < (s11.length : Int) then ((some (s11.set x2_5.toNat (⟨(rd_T92 s11 x2_5).f0, (⟨(rd_T92 s11 x2_5).f1.f0, (rd_T92 s11 x2_5).f1.f1, (rd_T92 s11 x2_5).f1.f2, (rd_T92 s11 x2_5).f1.f3, wrap64 ((wrap64 ((wrap64 ((wrap64 ((wrap64 (x2_1 + 1)) + 1)) + 1)) + 1)) + 1)⟩ : S88)⟩ : S92))).bind fun s13 => (laws_markRollupRowS.l0 k s13 (wrap64 ((wrap64 ((wrap64 ((wrap64 ((wrap64 ((wrap64 (x2_1 + 1)) + 1)) + 1)) + 1)) + 1)) + 1)) (wrap64 (x2_5 + 1)))) else none)) else none)) else none)) else none)) else none)) else none) else (some (x2_1, x2_ml0))
def laws_markRollupRowS.f (k : Nat) (l0 : List S92) (a1 : Int) : Option (Int × (List S92)) := laws_markRollupRowS.l0 k l0 a1 0
set_option maxHeartbeats 4000000 in
set_option maxRecDepth 100000 in
theorem laws_markRollupRowS.ok (k : Nat) (l0 : List S92) (Al0 : Option Addr) (cl0 : Nat) (a1 : Int) (r0 : Int) (r1 : List S92) (H : laws_markRollupRowS.f k l0 a1 = some (r0, r1)) : Fn Try.prog 38 [.slice Al0 l0.length cl0, .int .i64 a1] [] [.sl 1 k92 Al0 cl0 l0 1 false] (fun v bx en => v = .int .i64 r0 ∧ bx = [] ∧ en = [.sl 1 k92 Al0 cl0 r1 1 false] ∧ r1.length = l0.length) := by
 refine fn_ 60 Try.func38 rfl rfl rfl (fun base T w0 => ?_)
 rw [laws_markRollupRowS.f] at H
 refine gs (rg (sv (EV.as rfl) rfl (re (gs (gs (rg (sv (EV.as rfl) rfl (re (gb ?_)))))))))
 refine lo (fun kk S => ∃ (x2_ml0 : List S92) (x2_1 : Int) (x2_5 : Int), laws_markRollupRowS.l0 kk x2_ml0 x2_1 x2_5 = some (r0, r1) ∧ x2_ml0.length = l0.length ∧ S = ⟨[(0, .slice Al0 x2_ml0.length cl0), (1, .int .i64 x2_1), (5, .int .i64 x2_5)], [], [.sl 1 k92 Al0 cl0 x2_ml0 1 false]⟩) (fun S hS => ?_) (fun n0 ih0 S hS => ?_) ⟨l0, a1, 0, H, (by first | rfl | assumption | omega | (simp only [List.length_set]; first | done | assumption | omega)), rfl⟩ (fun h => wk [0, 1, 5] [] [⟨0, 1, 1, false⟩] h)
 · clear H; obtain ⟨_, _, _, H, _⟩ := hS; rw [laws_markRollupRowS.l0] at H; cases H
 clear H
 obtain ⟨x2_ml0, x2_1, x2_5, H, ex2_ml0, rfl⟩ := hS
 rw [laws_markRollupRowS.l0] at H
 refine gs (gs (rg (sv (EV.mv rfl) rfl (sv (EV.mv rfl) rfl (sv (EV.ln rfl) rfl (sv (EV.lss rfl rfl) rfl (re ?_)))))))
 revert H; refine ifsI ?_ ?_ <;> intro c1 H
 ·
  refine gt rfl (dT c1) (gk (gs (gb (gs (rg (sv (EV.mv rfl) rfl (sv (EV.mv rfl) rfl (sv (EV.mv rfl) rfl ?_))))))))
  revert H; refine ggI ?_; intro g2 H
  refine sv (EV.ix 0 rfl rfl rfl g2 c1 rfl) rfl (sv (EV.fa 0 rfl) rfl ?_)
  revert H; refine bdI ?_; intro s3 A3 H; have q3 := stl (Option.some.inj A3)
  refine so rfl (op_stg x2_5 0 0 z92 (⟨x2_1, (⟨(rd_T92 x2_ml0 x2_5).f1.f0, (rd_T92 x2_ml0 x2_5).f1.f1, (rd_T92 x2_ml0 x2_5).f1.f2, (rd_T92 x2_ml0 x2_5).f1.f3, (rd_T92 x2_ml0 x2_5).f1.f4⟩ : S88)⟩ : S92) (Option.some.inj A3) rfl rfl rfl rfl g2 c1 rfl rfl rfl rfl dq rfl (rlT 0 (v' := .slice Al0 s3.length cl0) rfl (slq _ _ q3) (rlT 7 (v' := .slice Al0 s3.length cl0) rfl (slq _ _ q3) (rlT 12 (v' := .slice Al0 s3.length cl0) rfl (slq _ _ q3) (nmE (en := [.sl 1 k92 Al0 cl0 s3 1 true]) (by kernel_rfl) (re (pr [0, 1, 5] [] [0] rfl rfl rfl rfl (gs (rg (sv (EV.mv rfl) rfl (sv (EV.add rfl rfl) rfl (sv (EV.as rfl) rfl (re (gs (rg (sv (EV.mv rfl) rfl (sv (EV.mv rfl) rfl (sv (EV.mv rfl) rfl ?_))))))))))))))))))
  revert H; refine ggI ?_; intro g4 H
  refine sv (EV.ix 0 rfl rfl rfl g2 g4 rfl) rfl (sv (EV.fa 1 rfl) rfl (sv (EV.fa 0 rfl) rfl ?_))
  revert H; refine bdI ?_; intro s5 A5 H; have q5 := stl (Option.some.inj A5)
  refine so rfl (op_stg x2_5 1 0 z92 (⟨(rd_T92 s3 x2_5).f0, (⟨wrap64 (x2_1 + 1), (rd_T92 s3 x2_5).f1.f1, (rd_T92 s3 x2_5).f1.f2, (rd_T92 s3 x2_5).f1.f3, (rd_T92 s3 x2_5).f1.f4⟩ : S88)⟩ : S92) (Option.some.inj A5) rfl rfl rfl rfl g2 g4 rfl rfl rfl rfl dq rfl (rlT 0 (v' := .slice Al0 s5.length cl0) rfl (slq _ _ q5) (rlT 19 (v' := .slice Al0 s5.length cl0) rfl (slq _ _ q5) (nmE (en := [.sl 1 k92 Al0 cl0 s5 1 true]) (by kernel_rfl) (re (gs (rg (sv (EV.mv rfl) rfl (sv (EV.add rfl rfl) rfl (sv (EV.as rfl) rfl (re (pr [0, 1, 5] [] [0] rfl rfl rfl rfl (gs (rg (sv (EV.mv rfl) rfl (sv (EV.mv rfl) rfl (sv (EV.mv rfl) rfl ?_)))))))))))))))))
  revert H; refine ggI ?_; intro g6 H
  refine sv (EV.ix 0 rfl rfl rfl g2 g6 rfl) rfl (sv (EV.fa 1 rfl) rfl (sv (EV.fa 1 rfl) rfl ?_))
  revert H; refine bdI ?_; intro s7 A7 H; have q7 := stl (Option.some.inj A7)
  refine so rfl (op_stg x2_5 2 0 z92 (⟨(rd_T92 s5 x2_5).f0, (⟨(rd_T92 s5 x2_5).f1.f0, wrap64 ((wrap64 (x2_1 + 1)) + 1), (rd_T92 s5 x2_5).f1.f2, (rd_T92 s5 x2_5).f1.f3, (rd_T92 s5 x2_5).f1.f4⟩ : S88)⟩ : S92) (Option.some.inj A7) rfl rfl rfl rfl g2 g6 rfl rfl rfl rfl dq rfl (rlT 0 (v' := .slice Al0 s7.length cl0) rfl (slq _ _ q7) (rlT 27 (v' := .slice Al0 s7.length cl0) rfl (slq _ _ q7) (nmE (en := [.sl 1 k92 Al0 cl0 s7 1 true]) (by kernel_rfl) (re (gs (rg (sv (EV.mv rfl) rfl (sv (EV.add rfl rfl) rfl (sv (EV.as rfl) rfl (re (gs (rg (sv (EV.mv rfl) rfl (sv (EV.mv rfl) rfl (sv (EV.mv rfl) rfl ?_))))))))))))))))
  revert H; refine ggI ?_; intro g8 H
  refine sv (EV.ix 0 rfl rfl rfl g2 g8 rfl) rfl (sv (EV.fa 1 rfl) rfl (sv (EV.fa 2 rfl) rfl ?_))
  revert H; refine bdI ?_; intro s9 A9 H; have q9 := stl (Option.some.inj A9)
  refine so rfl (op_stg x2_5 3 0 z92 (⟨(rd_T92 s7 x2_5).f0, (⟨(rd_T92 s7 x2_5).f1.f0, (rd_T92 s7 x2_5).f1.f1, wrap64 ((wrap64 ((wrap64 (x2_1 + 1)) + 1)) + 1), (rd_T92 s7 x2_5).f1.f3, (rd_T92 s7 x2_5).f1.f4⟩ : S88)⟩ : S92) (Option.some.inj A9) rfl rfl rfl rfl g2 g8 rfl rfl rfl rfl dq rfl (rlT 0 (v' := .slice Al0 s9.length cl0) rfl (slq _ _ q9) (rlT 27 (v' := .slice Al0 s9.length cl0) rfl (slq _ _ q9) (rlT 35 (v' := .slice Al0 s9.length cl0) rfl (slq _ _ q9) (nmE (en := [.sl 1 k92 Al0 cl0 s9 1 true]) (by kernel_rfl) (re (pr [0, 1, 5] [] [0] rfl rfl rfl rfl (gs (rg (sv (EV.mv rfl) rfl (sv (EV.add rfl rfl) rfl (sv (EV.as rfl) rfl (re (gs (rg (sv (EV.mv rfl) rfl (sv (EV.mv rfl) rfl (sv (EV.mv rfl) rfl ?_))))))))))))))))))
  revert H; refine ggI ?_; intro g10 H
  refine sv (EV.ix 0 rfl rfl rfl g2 g10 rfl) rfl (sv (EV.fa 1 rfl) rfl (sv (EV.fa 3 rfl) rfl ?_))
  revert H; refine bdI ?_; intro s11 A11 H; have q11 := stl (Option.some.inj A11)
  refine so rfl (op_stg x2_5 4 0 z92 (⟨(rd_T92 s9 x2_5).f0, (⟨(rd_T92 s9 x2_5).f1.f0, (rd_T92 s9 x2_5).f1.f1, (rd_T92 s9 x2_5).f1.f2, wrap64 ((wrap64 ((wrap64 ((wrap64 (x2_1 + 1)) + 1)) + 1)) + 1), (rd_T92 s9 x2_5).f1.f4⟩ : S88)⟩ : S92) (Option.some.inj A11) rfl rfl rfl rfl g2 g10 rfl rfl rfl rfl dq rfl (rlT 0 (v' := .slice Al0 s11.length cl0) rfl (slq _ _ q11) (rlT 43 (v' := .slice Al0 s11.length cl0) rfl (slq _ _ q11) (nmE (en := [.sl 1 k92 Al0 cl0 s11 1 true]) (by kernel_rfl) (re (gs (rg (sv (EV.mv rfl) rfl (sv (EV.add rfl rfl) rfl (sv (EV.as rfl) rfl (re (pr [0, 1, 5] [] [0] rfl rfl rfl rfl (gs (rg (sv (EV.mv rfl) rfl (sv (EV.mv rfl) rfl (sv (EV.mv rfl) rfl ?_)))))))))))))))))
  revert H; refine ggI ?_; intro g12 H
  refine sv (EV.ix 0 rfl rfl rfl g2 g12 rfl) rfl (sv (EV.fa 1 rfl) rfl (sv (EV.fa 4 rfl) rfl ?_))
  revert H; refine bdI ?_; intro s13 A13 H; have q13 := stl (Option.some.inj A13)
  exact so rfl (op_stg x2_5 5 0 z92 (⟨(rd_T92 s11 x2_5).f0, (⟨(rd_T92 s11 x2_5).f1.f0, (rd_T92 s11 x2_5).f1.f1, (rd_T92 s11 x2_5).f1.f2, (rd_T92 s11 x2_5).f1.f3, wrap64 ((wrap64 ((wrap64 ((wrap64 ((wrap64 (x2_1 + 1)) + 1)) + 1)) + 1)) + 1)⟩ : S88)⟩ : S92) (Option.some.inj A13) rfl rfl rfl rfl g2 g12 rfl rfl rfl rfl dq rfl (rlT 0 (v' := .slice Al0 s13.length cl0) rfl (slq _ _ q13) (rlT 51 (v' := .slice Al0 s13.length cl0) rfl (slq _ _ q13) (nmE (en := [.sl 1 k92 Al0 cl0 s13 1 true]) (by kernel_rfl) (re (rg (sv (EV.mv rfl) rfl (sv (EV.add rfl rfl) rfl (sv (EV.as rfl) rfl (re (ge (rg (sv (EV.mv rfl) rfl (sv (EV.add rfl rfl) rfl (sv (EV.as rfl) rfl (re (pr [0, 1, 5] [] [0] rfl rfl rfl rfl (wk [0, 1, 5] [] [⟨0, 1, 1, false⟩] (ih0 _ (by omega) _ ⟨s13, wrap64 ((wrap64 ((wrap64 ((wrap64 ((wrap64 ((wrap64 (x2_1 + 1)) + 1)) + 1)) + 1)) + 1)) + 1), wrap64 (x2_5 + 1), H, (by first | rfl | assumption | omega | (simp only [List.length_set]; first | done | assumption | omega)), rfl⟩)))))))))))))))))))
 ·
  refine gf rfl (dF c1) (gx rfl (gs (rg (sv (EV.mv rfl) rfl (sv (EV.as rfl) rfl (re (pr [4] [] [0] rfl rfl rfl rfl ?_)))))))
  cases H
  exact rt Try.func38 rfl (.tmp rfl .nil) rfl [] [⟨0, 1, 1, false⟩] rfl rfl rfl rfl rfl ⟨rfl, rfl, rfl, by first | rfl | assumption | omega | (simp only [List.length_set]; first | done | assumption | omega)⟩
def laws_heldRollupRowS.l0 : Nat → Int → Int → (List S92) → Option (Int)
 | 0, _, _, _ => none
 | k + 1, x2_1, x2_5, l0 => if x2_5 < (l0.length : Int) then (if 0 ≤ x2_5 then (if ((rd_T92 l0 x2_5).f0) = x2_1 then (if ((rd_T92 l0 x2_5).f1.f0) = (wrap64 (x2_1 + 1)) then (if ((rd_T92 l0 x2_5).f1.f1) = (wrap64 ((wrap64 (x2_1 + 1)) + 1)) then (if ((rd_T92 l0 x2_5).f1.f2) = (wrap64 ((wrap64 ((wrap64 (x2_1 + 1)) + 1)) + 1)) then (if ((rd_T92 l0 x2_5).f1.f3) = (wrap64 ((wrap64 ((wrap64 ((wrap64 (x2_1 + 1)) + 1)) + 1)) + 1)) then (if ((rd_T92 l0 x2_5).f1.f4) = (wrap64 ((wrap64 ((wrap64 ((wrap64 ((wrap64 (x2_1 + 1)) + 1)) + 1)) + 1)) + 1)) then (laws_heldRollupRowS.l0 k (wrap64 ((wrap64 ((wrap64 ((wrap64 ((wrap64 ((wrap64 (x2_1 + 1)) + 1)) + 1)) + 1)) + 1)) + 1)) (wrap64 (x2_5 + 1)) l0) else (some (-1))) else (some (-1))) else (some (-1))) else (some (-1))) else (some (-1))) else (some (-1))) else none) else (some x2_1)
def laws_heldRollupRowS.f (k : Nat) (l0 : List S92) (a1 : Int) : Option (Int) := laws_heldRollupRowS.l0 k a1 0 l0
set_option maxHeartbeats 4000000 in
set_option maxRecDepth 100000 in
theorem laws_heldRollupRowS.ok (k : Nat) (l0 : List S92) (Al0 : Option Addr) (cl0 : Nat) (a1 : Int) (r0 : Int) (H : laws_heldRollupRowS.f k l0 a1 = some r0) : Fn Try.prog 39 [.slice Al0 l0.length cl0, .int .i64 a1] [] [.sl 0 k92 Al0 cl0 l0 0 false] (fun v bx en => v = .int .i64 r0 ∧ bx = [] ∧ en = []) := by
 refine fn_ 72 Try.func39 rfl rfl rfl (fun base T w0 => ?_)
 rw [laws_heldRollupRowS.f] at H
 refine gs (rg (sv (EV.as rfl) rfl (re (gs (gs (rg (sv (EV.as rfl) rfl (re (gb ?_)))))))))
 refine lo (fun kk S => ∃ (x2_1 : Int) (x2_5 : Int), laws_heldRollupRowS.l0 kk x2_1 x2_5 l0 = some r0 ∧ S = ⟨[(0, .slice Al0 l0.length cl0), (1, .int .i64 x2_1), (5, .int .i64 x2_5)], [], [.sl 0 k92 Al0 cl0 l0 0 false]⟩) (fun S hS => ?_) (fun n0 ih0 S hS => ?_) ⟨a1, 0, H, rfl⟩ (fun h => wk [0, 1, 5] [] [⟨0, 0, 0, false⟩] h)
 · clear H; obtain ⟨_, _, H, _⟩ := hS; rw [laws_heldRollupRowS.l0] at H; cases H
 clear H
 obtain ⟨x2_1, x2_5, H, rfl⟩ := hS
 rw [laws_heldRollupRowS.l0] at H
 refine gs (gs (rg (sv (EV.mv rfl) rfl (sv (EV.mv rfl) rfl (sv (EV.ln rfl) rfl (sv (EV.lss rfl rfl) rfl (re ?_)))))))
 revert H; refine ifsI ?_ ?_ <;> intro c1 H
 ·
  refine gt rfl (dT c1) (gk (gs (gb (gs (gs (rg (sv (EV.mv rfl) rfl (sv (EV.mv rfl) rfl ?_))))))))
  revert H; refine ggI ?_; intro g2 H
  refine sv (EV.ix 0 rfl rfl rfl g2 c1 rfl) rfl (sv (EV.fa 0 rfl) rfl (sv (EV.le (v := .int .i64 ((rd_T92 l0 x2_5).f0)) x2_5 0 none 0 z92 rfl rfl rfl g2 c1 rfl rfl rfl) rfl (sv (EV.mv rfl) rfl (sv (EV.neq rfl rfl) rfl (re (pr [0, 1, 5, 18] [] [0] rfl rfl rfl rfl ?_))))))
  revert H; refine ifsI ?_ ?_ <;> intro c3 H
  ·
   refine gf rfl (nF c3) (gk (gs (rg (sv (EV.mv rfl) rfl (sv (EV.add rfl rfl) rfl (sv (EV.as rfl) rfl (re (gs (gs (rg (sv (EV.mv rfl) rfl (sv (EV.mv rfl) rfl (sv (EV.ix 0 rfl rfl rfl g2 c1 rfl) rfl (sv (EV.fa 1 rfl) rfl (sv (EV.fa 0 rfl) rfl (sv (EV.le (v := .int .i64 ((rd_T92 l0 x2_5).f1.f0)) x2_5 1 none 0 z92 rfl rfl rfl g2 c1 rfl rfl rfl) rfl (sv (EV.mv rfl) rfl (sv (EV.neq rfl rfl) rfl (re (pr [0, 1, 5, 28] [] [0] rfl rfl rfl rfl ?_))))))))))))))))))))
   revert H; refine ifsI ?_ ?_ <;> intro c4 H
   ·
    refine gf rfl (nF c4) (gk (gs (rg (sv (EV.mv rfl) rfl (sv (EV.add rfl rfl) rfl (sv (EV.as rfl) rfl (re (gs (gs (rg (sv (EV.mv rfl) rfl (sv (EV.mv rfl) rfl (sv (EV.ix 0 rfl rfl rfl g2 c1 rfl) rfl (sv (EV.fa 1 rfl) rfl (sv (EV.fa 1 rfl) rfl (sv (EV.le (v := .int .i64 ((rd_T92 l0 x2_5).f1.f1)) x2_5 2 none 0 z92 rfl rfl rfl g2 c1 rfl rfl rfl) rfl (sv (EV.mv rfl) rfl (sv (EV.neq rfl rfl) rfl (re (pr [0, 1, 5, 38] [] [0] rfl rfl rfl rfl ?_))))))))))))))))))))
    revert H; refine ifsI ?_ ?_ <;> intro c5 H
    ·
     refine gf rfl (nF c5) (gk (gs (rg (sv (EV.mv rfl) rfl (sv (EV.add rfl rfl) rfl (sv (EV.as rfl) rfl (re (gs (gs (rg (sv (EV.mv rfl) rfl (sv (EV.mv rfl) rfl (sv (EV.ix 0 rfl rfl rfl g2 c1 rfl) rfl (sv (EV.fa 1 rfl) rfl (sv (EV.fa 2 rfl) rfl (sv (EV.le (v := .int .i64 ((rd_T92 l0 x2_5).f1.f2)) x2_5 3 none 0 z92 rfl rfl rfl g2 c1 rfl rfl rfl) rfl (sv (EV.mv rfl) rfl (sv (EV.neq rfl rfl) rfl (re (pr [0, 1, 5, 48] [] [0] rfl rfl rfl rfl ?_))))))))))))))))))))
     revert H; refine ifsI ?_ ?_ <;> intro c6 H
     ·
      refine gf rfl (nF c6) (gk (gs (rg (sv (EV.mv rfl) rfl (sv (EV.add rfl rfl) rfl (sv (EV.as rfl) rfl (re (gs (gs (rg (sv (EV.mv rfl) rfl (sv (EV.mv rfl) rfl (sv (EV.ix 0 rfl rfl rfl g2 c1 rfl) rfl (sv (EV.fa 1 rfl) rfl (sv (EV.fa 3 rfl) rfl (sv (EV.le (v := .int .i64 ((rd_T92 l0 x2_5).f1.f3)) x2_5 4 none 0 z92 rfl rfl rfl g2 c1 rfl rfl rfl) rfl (sv (EV.mv rfl) rfl (sv (EV.neq rfl rfl) rfl (re (pr [0, 1, 5, 58] [] [0] rfl rfl rfl rfl ?_))))))))))))))))))))
      revert H; refine ifsI ?_ ?_ <;> intro c7 H
      ·
       refine gf rfl (nF c7) (gk (gs (rg (sv (EV.mv rfl) rfl (sv (EV.add rfl rfl) rfl (sv (EV.as rfl) rfl (re (gs (gs (rg (sv (EV.mv rfl) rfl (sv (EV.mv rfl) rfl (sv (EV.ix 0 rfl rfl rfl g2 c1 rfl) rfl (sv (EV.fa 1 rfl) rfl (sv (EV.fa 4 rfl) rfl (sv (EV.le (v := .int .i64 ((rd_T92 l0 x2_5).f1.f4)) x2_5 5 none 0 z92 rfl rfl rfl g2 c1 rfl rfl rfl) rfl (sv (EV.mv rfl) rfl (sv (EV.neq rfl rfl) rfl (re (pr [0, 1, 5, 68] [] [0] rfl rfl rfl rfl ?_))))))))))))))))))))
       revert H; refine ifsI ?_ ?_ <;> intro c8 H
       ·
        exact gf rfl (nF c8) (gk (rg (sv (EV.mv rfl) rfl (sv (EV.add rfl rfl) rfl (sv (EV.as rfl) rfl (re (ge (rg (sv (EV.mv rfl) rfl (sv (EV.add rfl rfl) rfl (sv (EV.as rfl) rfl (re (wk [0, 1, 5] [] [⟨0, 0, 0, false⟩] (ih0 _ (by omega) _ ⟨wrap64 ((wrap64 ((wrap64 ((wrap64 ((wrap64 ((wrap64 (x2_1 + 1)) + 1)) + 1)) + 1)) + 1)) + 1), wrap64 (x2_5 + 1), H, rfl⟩))))))))))))))
       ·
        refine gt rfl (nT c8) (gs (rg (sv (EV.as rfl) rfl (re ?_))))
        cases H
        exact rt Try.func39 rfl (.tmp rfl .nil) rfl [] [] rfl rfl rfl rfl rfl ⟨rfl, rfl, rfl⟩
      ·
       refine gt rfl (nT c7) (gs (rg (sv (EV.as rfl) rfl (re ?_))))
       cases H
       exact rt Try.func39 rfl (.tmp rfl .nil) rfl [] [] rfl rfl rfl rfl rfl ⟨rfl, rfl, rfl⟩
     ·
      refine gt rfl (nT c6) (gs (rg (sv (EV.as rfl) rfl (re ?_))))
      cases H
      exact rt Try.func39 rfl (.tmp rfl .nil) rfl [] [] rfl rfl rfl rfl rfl ⟨rfl, rfl, rfl⟩
    ·
     refine gt rfl (nT c5) (gs (rg (sv (EV.as rfl) rfl (re ?_))))
     cases H
     exact rt Try.func39 rfl (.tmp rfl .nil) rfl [] [] rfl rfl rfl rfl rfl ⟨rfl, rfl, rfl⟩
   ·
    refine gt rfl (nT c4) (gs (rg (sv (EV.as rfl) rfl (re ?_))))
    cases H
    exact rt Try.func39 rfl (.tmp rfl .nil) rfl [] [] rfl rfl rfl rfl rfl ⟨rfl, rfl, rfl⟩
  ·
   refine gt rfl (nT c3) (gs (rg (sv (EV.as rfl) rfl (re ?_))))
   cases H
   exact rt Try.func39 rfl (.tmp rfl .nil) rfl [] [] rfl rfl rfl rfl rfl ⟨rfl, rfl, rfl⟩
 ·
  refine gf rfl (dF c1) (gx rfl (gs (rg (sv (EV.mv rfl) rfl (sv (EV.as rfl) rfl (re (pr [4] [] [] rfl rfl rfl rfl ?_)))))))
  cases H
  exact rt Try.func39 rfl (.tmp rfl .nil) rfl [] [] rfl rfl rfl rfl rfl ⟨rfl, rfl, rfl⟩
def laws_FnExactRollupGroups.f (k : Nat) (l0 : List S94) : Option (Bool) := (laws_szGroupS.f l0 1048576).bind fun t1 => (if t1 < 0 then (some true) else ((laws_toGroupS.f k l0).bind fun t3 => ((spec_RollupGroups.f k t3).bind fun t4 => ((laws_toGroupS.f k l0).bind fun t5 => ((impl_RollupGroups.f k t5).bind fun t6 => ((laws_eqRollupRowS.f k t6 t4).bind fun t7 => (if t7 = true then ((laws_toGroupS.f k l0).bind fun t9 => ((laws_eqGroupS.f k t5 t9).bind fun t10 => (if t10 = true then ((laws_markGroupS.f k t5 1).bind fun bt12 => (if bt12.1 < 0 then (some false) else ((laws_eqRollupRowS.f k t6 t4).bind fun t14 => (if t14 = true then ((laws_markRollupRowS.f k t6 1).bind fun bt16 => ((laws_heldRollupRowS.f k bt16.2 1).bind fun t17 => (if t17 < 0 then (some false) else (if t17 = bt16.1 then ((laws_toGroupS.f k l0).bind fun t20 => ((impl_RollupGroups.f k t20).bind fun t21 => ((laws_eqRollupRowS.f k t21 t4).bind fun t22 => (if t22 = true then ((laws_heldRollupRowS.f k bt16.2 1).bind fun t24 => (if t24 < 0 then (some false) else (if t24 = bt16.1 then (some true) else (some false)))) else (some false))))) else (some false))))) else (some false))))) else (some false)))) else (some false))))))))
set_option maxHeartbeats 4000000 in
set_option maxRecDepth 100000 in
theorem laws_FnExactRollupGroups.ok (k : Nat) (l0 : List S94) (Al0 : Option Addr) (cl0 : Nat) (r0 : Bool) (H : laws_FnExactRollupGroups.f k l0 = some r0) : Fn Try.prog 7 [.slice Al0 l0.length cl0] [] [.sl 0 k94 Al0 cl0 l0 0 false] (fun v bx en => v = .bool r0 ∧ bx = [] ∧ en = []) := by
 refine fn_ 69 Try.func7 rfl rfl rfl (fun base T w0 => ?_)
 rw [laws_FnExactRollupGroups.f] at H
 refine gs (rg (sv (EV.as rfl) rfl (re (gs (rg (sv (EV.as rfl) rfl (re (gs (rg (sv (EV.mv rfl) rfl (sv (EV.mv rfl) rfl ?_)))))))))))
 revert H; refine bdI ?_; rintro t1 A1 H
 refine so rfl (op_call (laws_szGroupS.ok l0 Al0 cl0 1048576 _ A1) [⟨0, 0, 0, false⟩] 1 rfl rfl rfl rfl rfl ?_)
 rintro _ _ _ ⟨rfl, rfl, rfl⟩
 refine sv (EV.as rfl) rfl (re (gs (gs (rg (sv (EV.mv rfl) rfl (sv (EV.lss rfl rfl) rfl (re (pr [0, 15] [] [0] rfl rfl rfl rfl ?_))))))))
 revert H; refine ifsI ?_ ?_ <;> intro c2 H
 ·
  refine gt rfl (dT c2) (gs (rg (sv (EV.as rfl) rfl (re ?_))))
  cases H
  exact rt Try.func7 rfl (.tmp rfl .nil) rfl [] [] rfl rfl rfl rfl rfl ⟨rfl, rfl, rfl⟩
 ·
  refine gf rfl (dF c2) (gk (gs (rg (sv (EV.mv rfl) rfl ?_))))
  revert H; refine bdI ?_; rintro t3 A3 H
  refine so rfl (op_call (laws_toGroupS.ok k l0 Al0 cl0 _ A3) [⟨0, 0, 0, false⟩] 1 rfl rfl rfl rfl rfl ?_)
  rintro _ _ _ ⟨At3, ct3, rfl, rfl, rfl⟩
  revert H; refine bdI ?_; rintro t4 A4 H
  refine so rfl (op_call (spec_RollupGroups.ok k t3 At3 ct3 _ A4) [⟨1, 0, 0, false⟩] 3 rfl rfl rfl rfl rfl ?_)
  rintro _ _ _ ⟨At4, ct4, rfl, rfl, rfl⟩
  refine sv (EV.as rfl) rfl (re (gs (rg (sv (EV.mv rfl) rfl ?_))))
  revert H; refine bdI ?_; rintro t5 A5 H
  refine so rfl (op_call (laws_toGroupS.ok k l0 Al0 cl0 _ A5) [⟨0, 0, 0, false⟩] 5 rfl rfl rfl rfl rfl ?_)
  rintro _ _ _ ⟨At5, ct5, rfl, rfl, rfl⟩
  refine sv (EV.as rfl) rfl (re (pr [0, 4, 5] [] [0, 2, 3] rfl rfl rfl rfl (gs (rg (sv (EV.mv rfl) rfl ?_)))))
  revert H; refine bdI ?_; rintro t6 A6 H
  refine so rfl (op_call (impl_RollupGroups.ok k t5 At5 ct5 _ A6) [⟨2, 0, 0, false⟩] 7 rfl rfl rfl rfl rfl ?_)
  rintro _ _ _ ⟨At6, ct6, rfl, rfl, rfl⟩
  refine sv (EV.as rfl) rfl (re (gs (gs (rg (sv (EV.mv rfl) rfl (sv (EV.mv rfl) rfl ?_))))))
  revert H; refine bdI ?_; rintro t7 A7 H
  refine so rfl (op_call (laws_eqRollupRowS.ok k t6 At6 ct6 t4 At4 ct4 _ A7) [⟨3, 0, 0, false⟩, ⟨1, 0, 0, false⟩] 9 rfl rfl rfl rfl rfl ?_)
  rintro _ _ _ ⟨rfl, rfl, rfl⟩
  refine sv (EV.nt rfl) rfl (re ?_)
  revert H; refine ifsI ?_ ?_ <;> intro c8 H
  ·
   subst c8
   refine gf rfl rfl (gk (gs (gs (rg (sv (EV.mv rfl) rfl (sv (EV.mv rfl) rfl ?_))))))
   revert H; refine bdI ?_; rintro t9 A9 H
   refine so rfl (op_call (laws_toGroupS.ok k l0 Al0 cl0 _ A9) [⟨0, 0, 0, false⟩] 9 rfl rfl rfl rfl rfl ?_)
   rintro _ _ _ ⟨At9, ct9, rfl, rfl, rfl⟩
   revert H; refine bdI ?_; rintro t10 A10 H
   refine so rfl (op_call (laws_eqGroupS.ok k t5 At5 ct5 t9 At9 ct9 _ A10) [⟨2, 0, 0, false⟩, ⟨4, 0, 0, false⟩] 11 rfl rfl rfl rfl rfl ?_)
   rintro _ _ _ ⟨rfl, rfl, rfl⟩
   refine sv (EV.nt rfl) rfl (re (pr [0, 4, 5, 6, 31] [] [0, 1, 2, 3] rfl rfl rfl rfl ?_))
   revert H; refine ifsI ?_ ?_ <;> intro c11 H
   ·
    subst c11
    refine gf rfl rfl (gk (gs (rg (sv (EV.as rfl) rfl (re (gs (rg (sv (EV.mv rfl) rfl (sv (EV.mv rfl) rfl ?_)))))))))
    revert H; refine bdI ?_; rintro ⟨t12_0, t12_1⟩ A12 H
    refine so rfl (op_callM (laws_markGroupS.ok k t5 At5 ct5 1 _ _ A12) [⟨2, 1, 1, false⟩] [] [] 9 rfl rfl rfl rfl rfl rfl rfl rfl ?_)
    rintro _ _ _ ⟨rfl, rfl, rfl, q12_0⟩
    refine rlT 5 (v' := .slice At5 t12_1.length ct5) rfl (slq _ _ q12_0) (rlT 32 (v' := .slice At5 t12_1.length ct5) rfl (slq _ _ q12_0) (nmE (en := [.sl 0 k94 Al0 cl0 l0 0 false, .sl 2 k92 At4 ct4 t4 4 true, .sl 2 k92 At6 ct6 t6 8 true, .sl 1 k88 At5 ct5 t12_1 10 false]) (by kernel_rfl) (sv (EV.as rfl) rfl (re (gs (gs (rg (sv (EV.mv rfl) rfl (sv (EV.lss rfl rfl) rfl (sv (EV.mv rfl) rfl ?_))))))))))
    revert H; refine ifsI ?_ ?_ <;> intro c13 H
    ·
     refine ts 37 rfl (dT c13) (sk rfl (sk rfl (sk rfl (sk rfl (sv (EV.pt rfl rfl rfl) rfl (re (pr [0, 4, 6, 42] [] [0, 1, 2] rfl rfl rfl rfl (gt rfl rfl (gs (rg (sv (EV.as rfl) rfl (re ?_))))))))))))
     cases H
     exact rt Try.func7 rfl (.tmp rfl .nil) rfl [] [] rfl rfl rfl rfl rfl ⟨rfl, rfl, rfl⟩
    ·
     refine ts 37 rfl (dF c13) (sv (EV.mv rfl) rfl (sv (EV.mv rfl) rfl ?_))
     revert H; refine bdI ?_; rintro t14 A14 H
     refine so rfl (op_call (laws_eqRollupRowS.ok k t6 At6 ct6 t4 At4 ct4 _ A14) [⟨2, 0, 0, false⟩, ⟨1, 0, 0, false⟩] 11 rfl rfl rfl rfl rfl ?_)
     rintro _ _ _ ⟨rfl, rfl, rfl⟩
     refine sv (EV.nt rfl) rfl (sv (EV.pf rfl rfl rfl) rfl (re (pr [0, 4, 6, 42] [] [0, 1, 2] rfl rfl rfl rfl ?_)))
     revert H; refine ifsI ?_ ?_ <;> intro c15 H
     ·
      subst c15
      refine gf rfl rfl (gk (gs (rg (sv (EV.as rfl) rfl (re (gs (rg (sv (EV.mv rfl) rfl (sv (EV.mv rfl) rfl ?_)))))))))
      revert H; refine bdI ?_; rintro ⟨t16_0, t16_1⟩ A16 H
      refine so rfl (op_callM (laws_markRollupRowS.ok k t6 At6 ct6 1 _ _ A16) [⟨2, 1, 1, false⟩] [] [] 9 rfl rfl rfl rfl rfl rfl rfl rfl ?_)
      rintro _ _ _ ⟨rfl, rfl, rfl, q16_0⟩
      refine rlT 6 (v' := .slice At6 t16_1.length ct6) rfl (slq _ _ q16_0) (rlT 43 (v' := .slice At6 t16_1.length ct6) rfl (slq _ _ q16_0) (nmE (en := [.sl 0 k94 Al0 cl0 l0 0 false, .sl 2 k92 At4 ct4 t4 4 true, .sl 1 k92 At6 ct6 t16_1 10 false]) (by kernel_rfl) (sv (EV.as rfl) rfl (re (gs (rg (sv (EV.as rfl) rfl (re (gs (rg (sv (EV.mv rfl) rfl (sv (EV.mv rfl) rfl ?_))))))))))))
      revert H; refine bdI ?_; rintro t17 A17 H
      refine so rfl (op_call (laws_heldRollupRowS.ok k t16_1 At6 ct6 1 _ A17) [⟨2, 0, 0, false⟩] 11 rfl rfl rfl rfl rfl ?_)
      rintro _ _ _ ⟨rfl, rfl, rfl⟩
      refine sv (EV.as rfl) rfl (re (pr [0, 4, 6, 8, 9] [] [0, 1, 2] rfl rfl rfl rfl (gs (gs (rg (sv (EV.mv rfl) rfl (sv (EV.lss rfl rfl) rfl (re ?_))))))))
      revert H; refine ifsI ?_ ?_ <;> intro c18 H
      ·
       refine gt rfl (dT c18) (gs (rg (sv (EV.as rfl) rfl (re (pr [2] [] [] rfl rfl rfl rfl ?_)))))
       cases H
       exact rt Try.func7 rfl (.tmp rfl .nil) rfl [] [] rfl rfl rfl rfl rfl ⟨rfl, rfl, rfl⟩
      ·
       refine gf rfl (dF c18) (gk (gs (gs (rg (sv (EV.mv rfl) rfl (sv (EV.mv rfl) rfl (sv (EV.neq rfl rfl) rfl (re ?_))))))))
       revert H; refine ifsI ?_ ?_ <;> intro c19 H
       ·
        refine gf rfl (nF c19) (gk (gs (rg (sv (EV.mv rfl) rfl ?_))))
        revert H; refine bdI ?_; rintro t20 A20 H
        refine so rfl (op_call (laws_toGroupS.ok k l0 Al0 cl0 _ A20) [⟨0, 0, 0, false⟩] 11 rfl rfl rfl rfl rfl ?_)
        rintro _ _ _ ⟨At20, ct20, rfl, rfl, rfl⟩
        revert H; refine bdI ?_; rintro t21 A21 H
        refine so rfl (op_call (impl_RollupGroups.ok k t20 At20 ct20 _ A21) [⟨3, 0, 0, false⟩] 13 rfl rfl rfl rfl rfl ?_)
        rintro _ _ _ ⟨At21, ct21, rfl, rfl, rfl⟩
        refine sv (EV.as rfl) rfl (re (pr [4, 6, 8, 10] [] [1, 2, 4] rfl rfl rfl rfl (gs (gs (rg (sv (EV.mv rfl) rfl (sv (EV.mv rfl) rfl ?_)))))))
        revert H; refine bdI ?_; rintro t22 A22 H
        refine so rfl (op_call (laws_eqRollupRowS.ok k t21 At21 ct21 t4 At4 ct4 _ A22) [⟨2, 0, 0, false⟩, ⟨0, 0, 0, false⟩] 15 rfl rfl rfl rfl rfl ?_)
        rintro _ _ _ ⟨rfl, rfl, rfl⟩
        refine sv (EV.nt rfl) rfl (re ?_)
        revert H; refine ifsI ?_ ?_ <;> intro c23 H
        ·
         subst c23
         refine gf rfl rfl (gk (gs (rg (sv (EV.as rfl) rfl (re (pr [6, 8, 9] [] [1] rfl rfl rfl rfl (gs (rg (sv (EV.mv rfl) rfl (sv (EV.mv rfl) rfl ?_))))))))))
         revert H; refine bdI ?_; rintro t24 A24 H
         refine so rfl (op_call (laws_heldRollupRowS.ok k t16_1 At6 ct6 1 _ A24) [⟨0, 0, 0, false⟩] 11 rfl rfl rfl rfl rfl ?_)
         rintro _ _ _ ⟨rfl, rfl, rfl⟩
         refine sv (EV.as rfl) rfl (re (gs (gs (rg (sv (EV.mv rfl) rfl (sv (EV.lss rfl rfl) rfl (re ?_)))))))
         revert H; refine ifsI ?_ ?_ <;> intro c25 H
         ·
          refine gt rfl (dT c25) (gs (rg (sv (EV.as rfl) rfl (re (pr [2] [] [] rfl rfl rfl rfl ?_)))))
          cases H
          exact rt Try.func7 rfl (.tmp rfl .nil) rfl [] [] rfl rfl rfl rfl rfl ⟨rfl, rfl, rfl⟩
         ·
          refine gf rfl (dF c25) (gk (gs (gs (rg (sv (EV.mv rfl) rfl (sv (EV.mv rfl) rfl (sv (EV.neq rfl rfl) rfl (re (pr [68] [] [] rfl rfl rfl rfl ?_)))))))))
          revert H; refine ifsI ?_ ?_ <;> intro c26 H
          ·
           refine gf rfl (nF c26) (gk (gs (rg (sv (EV.as rfl) rfl (re ?_)))))
           cases H
           exact rt Try.func7 rfl (.tmp rfl .nil) rfl [] [] rfl rfl rfl rfl rfl ⟨rfl, rfl, rfl⟩
          ·
           refine gt rfl (nT c26) (gs (rg (sv (EV.as rfl) rfl (re ?_))))
           cases H
           exact rt Try.func7 rfl (.tmp rfl .nil) rfl [] [] rfl rfl rfl rfl rfl ⟨rfl, rfl, rfl⟩
        ·
         have xc23 := bF c23; subst xc23
         refine gt rfl rfl (gs (rg (sv (EV.as rfl) rfl (re (pr [2] [] [] rfl rfl rfl rfl ?_)))))
         cases H
         exact rt Try.func7 rfl (.tmp rfl .nil) rfl [] [] rfl rfl rfl rfl rfl ⟨rfl, rfl, rfl⟩
       ·
        refine gt rfl (nT c19) (gs (rg (sv (EV.as rfl) rfl (re (pr [2] [] [] rfl rfl rfl rfl ?_)))))
        cases H
        exact rt Try.func7 rfl (.tmp rfl .nil) rfl [] [] rfl rfl rfl rfl rfl ⟨rfl, rfl, rfl⟩
     ·
      have xc15 := bF c15; subst xc15
      refine gt rfl rfl (gs (rg (sv (EV.as rfl) rfl (re ?_))))
      cases H
      exact rt Try.func7 rfl (.tmp rfl .nil) rfl [] [] rfl rfl rfl rfl rfl ⟨rfl, rfl, rfl⟩
   ·
    have xc11 := bF c11; subst xc11
    refine gt rfl rfl (gs (rg (sv (EV.as rfl) rfl (re ?_))))
    cases H
    exact rt Try.func7 rfl (.tmp rfl .nil) rfl [] [] rfl rfl rfl rfl rfl ⟨rfl, rfl, rfl⟩
  ·
   have xc8 := bF c8; subst xc8
   refine gt rfl rfl (gs (rg (sv (EV.as rfl) rfl (re (pr [2] [] [] rfl rfl rfl rfl ?_)))))
   cases H
   exact rt Try.func7 rfl (.tmp rfl .nil) rfl [] [] rfl rfl rfl rfl rfl ⟨rfl, rfl, rfl⟩
end Go.Proofs.Ytoncjohnkiilcaa.K
