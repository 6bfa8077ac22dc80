/- Walks: what the functions compute. Printed by gen.py; no condition. -/
import Derived.Test.YtajjeemkdjfilaaVFnJoinerMemorya
namespace Go.Proofs.Ytajjeemkdjfilaa.K
open Go Go.RowKit
set_option linter.unusedVariables false
set_option linter.unusedSimpArgs false
def spec_IsValidJoiner.l0 : Nat → Int → Int → Int → Int → Int → (List S44) → Option (Bool)
 | 0, _, _, _, _, _, _ => none
 | k + 1, x2_3, x2_4, x2_5, x2_1_1, x2_1_2, l0_0 => if x2_5 < (l0_0.length : Int) then (if 0 ≤ x2_5 then ((spec_IsValidTask.f k ((rd_T44 l0_0 x2_5).f0) ((rd_T44 l0_0 x2_5).f1) ((rd_T44 l0_0 x2_5).f2) ((rd_T44 l0_0 x2_5).f3) ((rd_T44 l0_0 x2_5).f4)).bind fun t6 => (if t6 = true then (if 0 < (l0_0.length : Int) then (if ((rd_T44 l0_0 x2_5).f0) = ((rd_T44 l0_0 0).f0) then (spec_IsValidJoiner.l0 k (wrap64 (x2_3 + (((rd_T44 l0_0 x2_5).f1).length : Int))) (wrap64 (x2_4 + (((rd_T44 l0_0 x2_5).f2).length : Int))) (wrap64 (x2_5 + 1)) x2_1_1 x2_1_2 l0_0) else (some false)) else none) else (some false))) else none) else (if x2_3 ≤ 24 then (if x2_4 ≤ 24 then (if (l0_0.length : Int) ≤ 40 then ((spec_l1In.f x2_1_1 0 100000).bind fun t19 => (if t19 = true then ((spec_l1In.f x2_1_2 0 1000).bind fun t21 => (some t21)) else (some false))) else (some false)) else (some false)) else (some false))
def spec_IsValidJoiner.f (k : Nat) (l0_0 : List S44) (a0_1 : Int) (a0_2 : Int) : Option (Bool) := spec_IsValidJoiner.l0 k 0 0 0 a0_1 a0_2 l0_0
set_option maxHeartbeats 4000000 in
set_option maxRecDepth 100000 in
theorem spec_IsValidJoiner.ok (k : Nat) (l0_0 : List S44) (Al0_0 : Option Addr) (cl0_0 : Nat) (a0_1 : Int) (a0_2 : Int) (r0 : Bool) (H : spec_IsValidJoiner.f k l0_0 a0_1 a0_2 = some r0) : Fn Try.prog 58 [.agg #[.slice Al0_0 l0_0.length cl0_0, .int .i64 a0_1, .int .i64 a0_2]] [] [.sl 0 k44 Al0_0 cl0_0 l0_0 0 false] (fun v bx en => v = .bool r0 ∧ bx = [] ∧ en = []) := by
 refine fn_ 74 Try.func58 rfl rfl rfl (fun base T w0 => ?_)
 rw [spec_IsValidJoiner.f] at H
 refine gs (rg (so rfl (op_box (cs := [.slice Al0_0 l0_0.length cl0_0, .int .i64 a0_1, .int .i64 a0_2]) rfl rfl rfl fun b1 => (sv (EV.as rfl) rfl (re (gs (rg (sv (EV.as rfl) rfl (re (gs (rg (sv (EV.as rfl) rfl (re (gs (gs (rg (sv (EV.as rfl) rfl (re (gb ?_)))))))))))))))))))
 refine lo (fun kk S => ∃ (x2_3 : Int) (x2_4 : Int) (x2_5 : Int) (x2_1_1 : Int) (x2_1_2 : Int), spec_IsValidJoiner.l0 kk x2_3 x2_4 x2_5 x2_1_1 x2_1_2 l0_0 = some r0 ∧ S = ⟨[(1, .pointer (some ⟨b1, 0, none⟩)), (3, .int .i64 x2_3), (4, .int .i64 x2_4), (5, .int .i64 x2_5)], [⟨b1, 73, [.slice Al0_0 l0_0.length cl0_0, .int .i64 x2_1_1, .int .i64 x2_1_2]⟩], [.sl 0 k44 Al0_0 cl0_0 l0_0 0 false]⟩) (fun S hS => ?_) (fun n0 ih0 S hS => ?_) ⟨0, 0, 0, a0_1, a0_2, H, rfl⟩ (fun h => wk [1, 3, 4, 5] [0] [⟨0, 0, 0, false⟩] h)
 · clear H; obtain ⟨_, _, _, _, _, H, _⟩ := hS; rw [spec_IsValidJoiner.l0] at H; cases H
 clear H
 obtain ⟨x2_3, x2_4, x2_5, x2_1_1, x2_1_2, H, rfl⟩ := hS
 rw [spec_IsValidJoiner.l0] at H
 refine gs (gs (rg (sv (EV.mv rfl) rfl (sv (EV.fa 0 rfl) rfl (sv (EV.ld 0 none rfl rfl rfl) rfl (sv (EV.ln rfl) rfl (sv (EV.lss rfl rfl) rfl (re ?_))))))))
 revert H; refine ifsI ?_ ?_ <;> intro c1 H
 ·
  refine gt rfl (dT c1) (gk (gs (gb (gs (gs ?_)))))
  revert H; refine ggI ?_; intro g2 H
  refine opn (i := x2_5) 0 z44 rfl g2 c1 fun A_3 c_3 A_4 c_4 A_5 c_5 => (dr [0] [0, 1, 2, 3, 4] [] 21 rfl rfl rfl rfl (xv 0 [0] [0, 1, 2, 3, 4] rfl (EV.fa 0 rfl) rfl rfl rfl rfl (xv 1 [0] [0, 1, 2, 3, 4] rfl (EV.ld 0 none rfl rfl rfl) rfl rfl rfl rfl (xv 2 [0] [0, 1, 2, 3, 4] rfl (EV.mv rfl) rfl rfl rfl rfl (xv 3 [0] [0, 1, 2, 3, 4] rfl (EV.ix 0 rfl rfl rfl g2 c1 rfl) rfl rfl rfl rfl (xv 4 [0] [0, 1, 2, 3, 4] rfl (EV.lc (v := .agg #[.int .i64 ((rd_T44 l0_0 x2_5).f0), .slice A_3 ((rd_T44 l0_0 x2_5).f1).length c_3, .slice A_4 ((rd_T44 l0_0 x2_5).f2).length c_4, .slice A_5 ((rd_T44 l0_0 x2_5).f3).length c_5, .int .i64 ((rd_T44 l0_0 x2_5).f4)]) 0 (some 5) 1 rfl rfl rfl rfl) rfl rfl rfl rfl (one1 5 rfl rfl ?_)))))))
  revert H; refine bdI ?_; rintro t6 A6 H
  refine op_call (spec_IsValidTask.ok n0 ((rd_T44 l0_0 x2_5).f0) ((rd_T44 l0_0 x2_5).f1) A_3 c_3 ((rd_T44 l0_0 x2_5).f2) A_4 c_4 ((rd_T44 l0_0 x2_5).f3) A_5 c_5 ((rd_T44 l0_0 x2_5).f4) _ A6) [⟨2, 0, 0, false⟩, ⟨3, 0, 0, false⟩, ⟨4, 0, 0, false⟩] 1 rfl rfl rfl rfl rfl ?_
  rintro _ _ _ ⟨rfl, rfl, rfl⟩
  refine xs [0] [0, 1, 2, 3, 4] rfl rfl rfl (xv 6 [0] [0, 1, 2, 3, 4] rfl (EV.nt rfl) rfl rfl rfl rfl (xv 7 [0] [0, 1, 2, 3, 4] rfl (EV.mv rfl) rfl rfl rfl rfl ?_))
  revert H; refine ifsI ?_ ?_ <;> intro c7 H
  ·
   subst c7
   refine ts 20 rfl rfl (xv 8 [0] [0, 1, 2, 3, 4] rfl (EV.fa 0 rfl) rfl rfl rfl rfl (xv 9 [0] [0, 1, 2, 3, 4] rfl (EV.ld 0 none rfl rfl rfl) rfl rfl rfl rfl (xv 10 [0] [0, 1, 2, 3, 4] rfl (EV.mv rfl) rfl rfl rfl rfl (xv 11 [0] [0, 1, 2, 3, 4] rfl (EV.ix 0 rfl rfl rfl g2 c1 rfl) rfl rfl rfl rfl (xv 12 [0] [0, 1, 2, 3, 4] rfl (EV.fa 0 rfl) rfl rfl rfl rfl (xv 13 [0] [0, 1, 2, 3, 4] rfl (EV.lf (v := .int .i64 ((rd_T44 l0_0 x2_5).f0)) x2_5 0 none 0 z44 rfl rfl rfl g2 c1 rfl (fun _ _ _ _ _ _ => rfl)) rfl rfl rfl rfl (xv 14 [0] [0, 1, 2, 3, 4] rfl (EV.fa 0 rfl) rfl rfl rfl rfl (xv 15 [0] [0, 1, 2, 3, 4] rfl (EV.ld 0 none rfl rfl rfl) rfl rfl rfl rfl ?_))))))))
   revert H; refine ggI ?_; intro g8 H
   refine xv 16 [0] [0, 1, 2, 3, 4] rfl (EV.ix 0 rfl rfl rfl dq g8 rfl) rfl rfl rfl rfl (xv 17 [0] [0, 1, 2, 3, 4] rfl (EV.fa 0 rfl) rfl rfl rfl rfl (xv 18 [0] [0, 1, 2, 3, 4] rfl (EV.lf (v := .int .i64 ((rd_T44 l0_0 0).f0)) 0 0 none 0 z44 rfl rfl rfl dq g8 rfl (fun _ _ _ _ _ _ => rfl)) rfl rfl rfl rfl (xv 19 [0] [0, 1, 2, 3, 4] rfl (EV.neq rfl rfl) rfl rfl rfl rfl (xv 20 [0] [0, 1, 2, 3, 4] rfl (EV.pf rfl rfl rfl) rfl rfl rfl rfl (xd (pr [1, 3, 4, 5, 21, 22, 23, 24, 25, 26, 27, 28, 29, 30, 31, 32, 33] [0] [0] rfl rfl rfl rfl ?_))))))
   revert H; refine ifsI ?_ ?_ <;> intro c9 H
   ·
    refine gf rfl (nF c9) (gk (gs (rg (sv (EV.mv rfl) rfl (sv (EV.fa 0 rfl) rfl (sv (EV.ld 0 none rfl rfl rfl) rfl (sv (EV.mv rfl) rfl (sv (EV.ix 0 rfl rfl rfl g2 c1 rfl) rfl (sv (EV.fa 1 rfl) rfl (opn (i := x2_5) 0 z44 rfl g2 c1 fun A_10 c_10 A_11 c_11 A_12 c_12 => (sv (EV.lc (v := .slice A_10 ((rd_T44 l0_0 x2_5).f1).length c_10) 1 none 1 rfl rfl rfl rfl) rfl (sv (EV.ln rfl) rfl (sv (EV.add rfl rfl) rfl (sv (EV.as rfl) rfl (re (pr [1, 3, 4, 5, 21, 22, 23, 24, 25, 26, 27, 28, 29, 30, 31, 32] [0] [0] rfl rfl rfl rfl (rg (sv (EV.mv rfl) rfl (sv (EV.fa 0 rfl) rfl (sv (EV.ld 0 none rfl rfl rfl) rfl (sv (EV.mv rfl) rfl (sv (EV.ix 0 rfl rfl rfl g2 c1 rfl) rfl (sv (EV.fa 2 rfl) rfl (opn (i := x2_5) 0 z44 rfl g2 c1 fun A_13 c_13 A_14 c_14 A_15 c_15 => (sv (EV.lc (v := .slice A_14 ((rd_T44 l0_0 x2_5).f2).length c_14) 2 none 1 rfl rfl rfl rfl) rfl (sv (EV.ln rfl) rfl (sv (EV.add rfl rfl) rfl (sv (EV.as rfl) rfl (re ?_)))))))))))))))))))))))))))))
    exact pr [1, 3, 4, 5, 21, 22, 23, 24, 25, 26, 27, 28, 29, 30, 31, 32] [0] [0] rfl rfl rfl rfl (ge (rg (sv (EV.mv rfl) rfl (sv (EV.add rfl rfl) rfl (sv (EV.as rfl) rfl (re (wk [1, 3, 4, 5] [0] [⟨0, 0, 0, false⟩] (ih0 _ (by omega) _ ⟨wrap64 (x2_3 + (((rd_T44 l0_0 x2_5).f1).length : Int)), wrap64 (x2_4 + (((rd_T44 l0_0 x2_5).f2).length : Int)), wrap64 (x2_5 + 1), x2_1_1, x2_1_2, H, rfl⟩))))))))
   ·
    refine gt rfl (nT c9) (gs (rg (sv (EV.as rfl) rfl (re (pr [2] [] [] rfl rfl rfl rfl ?_)))))
    cases H
    exact rt Try.func58 rfl (.tmp rfl .nil) rfl [] [] rfl rfl rfl rfl rfl ⟨rfl, rfl, rfl⟩
  ·
   obtain rfl := bF c7
   refine ts 20 rfl rfl (xk 8 [0] [0, 1, 2, 3, 4] rfl rfl rfl rfl rfl (xk 9 [0] [0, 1, 2, 3, 4] rfl rfl rfl rfl rfl (xk 10 [0] [0, 1, 2, 3, 4] rfl rfl rfl rfl rfl (xk 11 [0] [0, 1, 2, 3, 4] rfl rfl rfl rfl rfl (xk 12 [0] [0, 1, 2, 3, 4] rfl rfl rfl rfl rfl (xk 13 [0] [0, 1, 2, 3, 4] rfl rfl rfl rfl rfl (xk 14 [0] [0, 1, 2, 3, 4] rfl rfl rfl rfl rfl (xk 15 [0] [0, 1, 2, 3, 4] rfl rfl rfl rfl rfl (xk 16 [0] [0, 1, 2, 3, 4] rfl rfl rfl rfl rfl (xk 17 [0] [0, 1, 2, 3, 4] rfl rfl rfl rfl rfl (xk 18 [0] [0, 1, 2, 3, 4] rfl rfl rfl rfl rfl (xk 19 [0] [0, 1, 2, 3, 4] rfl rfl rfl rfl rfl (xv 20 [0] [0, 1, 2, 3, 4] rfl (EV.pt rfl rfl rfl) rfl rfl rfl rfl (xd (pr [1, 3, 4, 5, 33] [0] [0] rfl rfl rfl rfl (gt rfl rfl (gs (rg (sv (EV.as rfl) rfl (re ?_))))))))))))))))))))
   cases H
   exact rt Try.func58 rfl (.tmp rfl .nil) rfl [] [] rfl rfl rfl rfl rfl ⟨rfl, rfl, rfl⟩
 ·
  refine gf rfl (dF c1) (gx rfl (gs (rg (sv (EV.mv rfl) rfl (sv (EV.leq rfl rfl) rfl (sv (EV.mv rfl) rfl ?_))))))
  revert H; refine ifsI ?_ ?_ <;> intro c16 H
  ·
   refine ts 54 rfl (dT c16) (sv (EV.mv rfl) rfl (sv (EV.leq rfl rfl) rfl (sv (EV.pt rfl rfl rfl) rfl (sv (EV.mv rfl) rfl ?_))))
   revert H; refine ifsI ?_ ?_ <;> intro c17 H
   ·
    refine ts 58 rfl (dT c17) (sv (EV.fa 0 rfl) rfl (sv (EV.ld 0 none rfl rfl rfl) rfl (sv (EV.ln rfl) rfl (sv (EV.leq rfl rfl) rfl (sv (EV.pt rfl rfl rfl) rfl (sv (EV.mv rfl) rfl ?_))))))
    revert H; refine ifsI ?_ ?_ <;> intro c18 H
    ·
     refine ts 64 rfl (dT c18) (sv (EV.fa 1 rfl) rfl (sv (EV.ld 0 none rfl rfl rfl) rfl ?_))
     revert H; refine bdI ?_; rintro t19 A19 H
     refine so rfl (op_call (spec_l1In.ok x2_1_1 0 100000 _ A19) [] 1 rfl rfl rfl rfl rfl ?_)
     rintro _ _ _ ⟨rfl, rfl, rfl⟩
     refine sv (EV.pt rfl rfl rfl) rfl (sv (EV.mv rfl) rfl ?_)
     revert H; refine ifsI ?_ ?_ <;> intro c20 H
     ·
      subst c20
      refine ts 69 rfl rfl (sv (EV.fa 2 rfl) rfl (sv (EV.ld 0 none rfl rfl rfl) rfl ?_))
      revert H; refine bdI ?_; rintro t21 A21 H
      refine so rfl (op_call (spec_l1In.ok x2_1_2 0 1000 _ A21) [] 1 rfl rfl rfl rfl rfl ?_)
      rintro _ _ _ ⟨rfl, rfl, rfl⟩
      refine sv (EV.pt rfl rfl rfl) rfl (sv (EV.as rfl) rfl (re (pr [2] [] [] rfl rfl rfl rfl ?_)))
      cases H
      exact rt Try.func58 rfl (.tmp rfl .nil) rfl [] [] rfl rfl rfl rfl rfl ⟨rfl, rfl, rfl⟩
     ·
      obtain rfl := bF c20
      refine ts 69 rfl rfl (sk rfl (sk rfl (sk rfl (sv (EV.pf rfl rfl rfl) rfl (sv (EV.as rfl) rfl (re (pr [2] [] [] rfl rfl rfl rfl ?_)))))))
      cases H
      exact rt Try.func58 rfl (.tmp rfl .nil) rfl [] [] rfl rfl rfl rfl rfl ⟨rfl, rfl, rfl⟩
    ·
     refine ts 64 rfl (dF c18) (sk rfl (sk rfl (sk rfl (sv (EV.pf rfl rfl rfl) rfl (sv (EV.mv rfl) rfl (sk rfl (sk rfl (sk rfl (sv (EV.pf rfl rfl rfl) rfl (sv (EV.as rfl) rfl (re (pr [2] [] [] rfl rfl rfl rfl ?_))))))))))))
     cases H
     exact rt Try.func58 rfl (.tmp rfl .nil) rfl [] [] rfl rfl rfl rfl rfl ⟨rfl, rfl, rfl⟩
   ·
    refine ts 58 rfl (dF c17) (sk rfl (sk rfl (sk rfl (sk rfl (sv (EV.pf rfl rfl rfl) rfl (sv (EV.mv rfl) rfl (sk rfl (sk rfl (sk rfl (sv (EV.pf rfl rfl rfl) rfl (sv (EV.mv rfl) rfl (sk rfl (sk rfl (sk rfl (sv (EV.pf rfl rfl rfl) rfl (sv (EV.as rfl) rfl (re (pr [2] [] [] rfl rfl rfl rfl ?_))))))))))))))))))
    cases H
    exact rt Try.func58 rfl (.tmp rfl .nil) rfl [] [] rfl rfl rfl rfl rfl ⟨rfl, rfl, rfl⟩
  ·
   refine ts 54 rfl (dF c16) (sk rfl (sk rfl (sv (EV.pf rfl rfl rfl) rfl (sv (EV.mv rfl) rfl (sk rfl (sk rfl (sk rfl (sk rfl (sv (EV.pf rfl rfl rfl) rfl (sv (EV.mv rfl) rfl (sk rfl (sk rfl (sk rfl (sv (EV.pf rfl rfl rfl) rfl (sv (EV.mv rfl) rfl (sk rfl (sk rfl (sk rfl (sv (EV.pf rfl rfl rfl) rfl (sv (EV.as rfl) rfl (re (pr [2] [] [] rfl rfl rfl rfl ?_))))))))))))))))))))))
   cases H
   exact rt Try.func58 rfl (.tmp rfl .nil) rfl [] [] rfl rfl rfl rfl rfl ⟨rfl, rfl, rfl⟩
end Go.Proofs.Ytajjeemkdjfilaa.K
namespace Go.Proofs.Ytajjeemkdjfilaa.K
open Go Go.RowKit
set_option linter.unusedVariables false
set_option linter.unusedSimpArgs false
def spec_BuildSide.j0 : Nat → Int → Int → Int → (List S70) → (List S70) → (List Bool) → Option (Int)
 | 0, _, _, _, _, _, _ => none
 | k + 1, x1_1, x1_2_0, x1_2_4, l0_1, l0_2, l0_3 => (spec_TotalCost.f k l0_2).bind fun t4 => (if t4 ≤ x1_1 then (some 2) else (some 0))
def spec_BuildSide.f (k : Nat) (a0_0 : Int) (l0_1 : List S70) (l0_2 : List S70) (l0_3 : List Bool) (a0_4 : Int) (a1 : Int) : Option (Int) := (spec_IsValidTask.f k a0_0 l0_1 l0_2 l0_3 a0_4).bind fun t1 => (if t1 = true then (if a0_0 = 1 then ((spec_TotalCost.f k l0_1).bind fun t7 => ((spec_TotalCost.f k l0_2).bind fun t8 => (if t7 < t8 then ((spec_TotalCost.f k l0_1).bind fun t10 => (if t10 ≤ a1 then (some 1) else (spec_BuildSide.j0 k a1 a0_0 a0_4 l0_1 l0_2 l0_3))) else (spec_BuildSide.j0 k a1 a0_0 a0_4 l0_1 l0_2 l0_3)))) else (spec_BuildSide.j0 k a1 a0_0 a0_4 l0_1 l0_2 l0_3)) else (some 0))
set_option maxHeartbeats 4000000 in
set_option maxRecDepth 100000 in
theorem spec_BuildSide.ok (k : Nat) (a0_0 : Int) (l0_1 : List S70) (Al0_1 : Option Addr) (cl0_1 : Nat) (l0_2 : List S70) (Al0_2 : Option Addr) (cl0_2 : Nat) (l0_3 : List Bool) (Al0_3 : Option Addr) (cl0_3 : Nat) (a0_4 : Int) (a1 : Int) (r0 : Int) (H : spec_BuildSide.f k a0_0 l0_1 l0_2 l0_3 a0_4 a1 = some r0) : Fn Try.prog 98 [.agg #[.int .i64 a0_0, .slice Al0_1 l0_1.length cl0_1, .slice Al0_2 l0_2.length cl0_2, .slice Al0_3 l0_3.length cl0_3, .int .i64 a0_4], .int .i64 a1] [] [.sl 0 k70 Al0_1 cl0_1 l0_1 0 false, .sl 0 k70 Al0_2 cl0_2 l0_2 0 false, .sl 0 .bool Al0_3 cl0_3 l0_3 0 false] (fun v bx en => v = .int .i64 r0 ∧ bx = [] ∧ en = []) := by
 refine fn_ 32 Try.func98 rfl rfl rfl (fun base T w0 => ?_)
 rw [spec_BuildSide.f] at H
 refine gs (rg (so rfl (op_box (cs := [.int .i64 a0_0, .slice Al0_1 l0_1.length cl0_1, .slice Al0_2 l0_2.length cl0_2, .slice Al0_3 l0_3.length cl0_3, .int .i64 a0_4]) rfl rfl rfl fun b2 => (sv (EV.as rfl) rfl (re (gs (gs (rg (sv (EV.ld (v := .agg #[.int .i64 a0_0, .slice Al0_1 l0_1.length cl0_1, .slice Al0_2 l0_2.length cl0_2, .slice Al0_3 l0_3.length cl0_3, .int .i64 a0_4]) 0 (some 5) rfl rfl rfl) rfl ?_)))))))))
 revert H; refine bdI ?_; rintro t1 A1 H
 refine so rfl (op_call (spec_IsValidTask.ok k a0_0 l0_1 Al0_1 cl0_1 l0_2 Al0_2 cl0_2 l0_3 Al0_3 cl0_3 a0_4 _ A1) [⟨0, 0, 0, false⟩, ⟨1, 0, 0, false⟩, ⟨2, 0, 0, false⟩] 1 rfl rfl rfl rfl rfl ?_)
 rintro _ _ _ ⟨rfl, rfl, rfl⟩
 refine sv (EV.nt rfl) rfl (re ?_)
 revert H; refine ifsI ?_ ?_ <;> intro c2 H
 ·
  subst c2
  refine gf rfl rfl (gk ?_)
  refine jo (fun S => ∃ (m : Nat) (x1_1 : Int) (x1_2_0 : Int) (x1_2_4 : Int), spec_BuildSide.j0 m x1_1 x1_2_0 x1_2_4 l0_1 l0_2 l0_3 = some r0 ∧ S = ⟨[(1, .int .i64 x1_1), (2, .pointer (some ⟨b2, 0, none⟩))], [⟨b2, 44, [.int .i64 x1_2_0, .slice Al0_1 l0_1.length cl0_1, .slice Al0_2 l0_2.length cl0_2, .slice Al0_3 l0_3.length cl0_3, .int .i64 x1_2_4]⟩], [.sl 0 k70 Al0_1 cl0_1 l0_1 0 false, .sl 0 k70 Al0_2 cl0_2 l0_2 0 false, .sl 0 .bool Al0_3 cl0_3 l0_3 0 false]⟩) (fun S hS => ?_) (fun jh0 => ?_)
  ·
   clear H
   obtain ⟨m3, x1_1, x1_2_0, x1_2_4, H, rfl⟩ := hS
   rcases m3 with _ | m3
   · rw [spec_BuildSide.j0] at H; cases H
   rw [spec_BuildSide.j0] at H
   refine gs (gs (rg (sv (EV.fa 2 rfl) rfl (sv (EV.ld 0 none rfl rfl rfl) rfl ?_))))
   revert H; refine bdI ?_; rintro t4 A4 H
   refine so rfl (op_call (spec_TotalCost.ok m3 l0_2 Al0_2 cl0_2 _ A4) [⟨1, 0, 0, false⟩] 1 rfl rfl rfl rfl rfl ?_)
   rintro _ _ _ ⟨rfl, rfl, rfl⟩
   refine sv (EV.mv rfl) rfl (sv (EV.leq rfl rfl) rfl (re (pr [31] [] [] rfl rfl rfl rfl ?_)))
   revert H; refine ifsI ?_ ?_ <;> intro c5 H
   ·
    refine gt rfl (dT c5) (gs (rg (sv (EV.as rfl) rfl (re ?_))))
    cases H
    exact rt Try.func98 rfl (.tmp rfl .nil) rfl [] [] rfl rfl rfl rfl rfl ⟨rfl, rfl, rfl⟩
   ·
    refine gf rfl (dF c5) (gk (gs (rg (sv (EV.as rfl) rfl (re ?_)))))
    cases H
    exact rt Try.func98 rfl (.tmp rfl .nil) rfl [] [] rfl rfl rfl rfl rfl ⟨rfl, rfl, rfl⟩
  ·
   refine gs (dr [0] [0, 1, 2] [] 19 rfl rfl rfl rfl (xv 0 [0] [0, 1, 2] rfl (EV.fa 0 rfl) rfl rfl rfl rfl (xv 1 [0] [0, 1, 2] rfl (EV.ld 0 none rfl rfl rfl) rfl rfl rfl rfl (xv 2 [0] [0, 1, 2] rfl (EV.eql rfl rfl) rfl rfl rfl rfl (xv 3 [0] [0, 1, 2] rfl (EV.mv rfl) rfl rfl rfl rfl ?_)))))
   revert H; refine ifsI ?_ ?_ <;> intro c6 H
   ·
    refine ts 11 rfl (dT c6) (xv 4 [0] [0, 1, 2] rfl (EV.fa 1 rfl) rfl rfl rfl rfl (xv 5 [0] [0, 1, 2] rfl (EV.ld 0 none rfl rfl rfl) rfl rfl rfl rfl (xv 7 [0] [0, 1, 2] rfl (EV.fa 2 rfl) rfl rfl rfl rfl (xv 8 [0] [0, 1, 2] rfl (EV.ld 0 none rfl rfl rfl) rfl rfl rfl rfl (one1 6 rfl rfl ?_)))))
    revert H; refine bdI ?_; rintro t7 A7 H
    refine op_call (spec_TotalCost.ok k l0_1 Al0_1 cl0_1 _ A7) [⟨0, 0, 0, false⟩] 1 rfl rfl rfl rfl rfl ?_
    rintro _ _ _ ⟨rfl, rfl, rfl⟩
    refine xs [0] [0, 1, 2] rfl rfl rfl (one1 9 rfl rfl ?_)
    revert H; refine bdI ?_; rintro t8 A8 H
    refine op_call (spec_TotalCost.ok k l0_2 Al0_2 cl0_2 _ A8) [⟨1, 0, 0, false⟩] 1 rfl rfl rfl rfl rfl ?_
    rintro _ _ _ ⟨rfl, rfl, rfl⟩
    refine xs [0] [0, 1, 2] rfl rfl rfl (xv 10 [0] [0, 1, 2] rfl (EV.lss rfl rfl) rfl rfl rfl rfl (xv 11 [0] [0, 1, 2] rfl (EV.pt rfl rfl rfl) rfl rfl rfl rfl (xv 12 [0] [0, 1, 2] rfl (EV.mv rfl) rfl rfl rfl rfl ?_)))
    revert H; refine ifsI ?_ ?_ <;> intro c9 H
    ·
     refine ts 20 rfl (dT c9) (xv 13 [0] [0, 1, 2] rfl (EV.fa 1 rfl) rfl rfl rfl rfl (xv 14 [0] [0, 1, 2] rfl (EV.ld 0 none rfl rfl rfl) rfl rfl rfl rfl (xv 16 [0] [0, 1, 2] rfl (EV.mv rfl) rfl rfl rfl rfl (one1 15 rfl rfl ?_))))
     revert H; refine bdI ?_; rintro t10 A10 H
     refine op_call (spec_TotalCost.ok k l0_1 Al0_1 cl0_1 _ A10) [⟨0, 0, 0, false⟩] 1 rfl rfl rfl rfl rfl ?_
     rintro _ _ _ ⟨rfl, rfl, rfl⟩
     refine xs [0] [0, 1, 2] rfl rfl rfl (xv 17 [0] [0, 1, 2] rfl (EV.leq rfl rfl) rfl rfl rfl rfl (xv 18 [0] [0, 1, 2] rfl (EV.pt rfl rfl rfl) rfl rfl rfl rfl (xd (pr [1, 2, 26] [0] [0, 1, 2] rfl rfl rfl rfl ?_))))
     revert H; refine ifsI ?_ ?_ <;> intro c11 H
     ·
      refine gt rfl (dT c11) (gs (rg (sv (EV.as rfl) rfl (re ?_))))
      cases H
      exact rt Try.func98 rfl (.tmp rfl .nil) rfl [] [] rfl rfl rfl rfl rfl ⟨rfl, rfl, rfl⟩
     ·
      exact gf rfl (dF c11) (gk (wk [1, 2] [0] [⟨0, 0, 0, false⟩, ⟨1, 0, 0, false⟩, ⟨2, 0, 0, false⟩] (jh0 _ ⟨_, a1, a0_0, a0_4, H, rfl⟩)))
    ·
     exact ts 20 rfl (dF c9) (xk 13 [0] [0, 1, 2] rfl rfl rfl rfl rfl (xk 14 [0] [0, 1, 2] rfl rfl rfl rfl rfl (xk 16 [0] [0, 1, 2] rfl rfl rfl rfl rfl (xk 15 [0] [0, 1, 2] rfl rfl rfl rfl rfl (xk 17 [0] [0, 1, 2] rfl rfl rfl rfl rfl (xv 18 [0] [0, 1, 2] rfl (EV.pf rfl rfl rfl) rfl rfl rfl rfl (xd (pr [1, 2, 26] [0] [0, 1, 2] rfl rfl rfl rfl (gf rfl rfl (gk (wk [1, 2] [0] [⟨0, 0, 0, false⟩, ⟨1, 0, 0, false⟩, ⟨2, 0, 0, false⟩] (jh0 _ ⟨_, a1, a0_0, a0_4, H, rfl⟩))))))))))))
   ·
    exact ts 11 rfl (dF c6) (xk 4 [0] [0, 1, 2] rfl rfl rfl rfl rfl (xk 5 [0] [0, 1, 2] rfl rfl rfl rfl rfl (xk 7 [0] [0, 1, 2] rfl rfl rfl rfl rfl (xk 8 [0] [0, 1, 2] rfl rfl rfl rfl rfl (xk 6 [0] [0, 1, 2] rfl rfl rfl rfl rfl (xk 9 [0] [0, 1, 2] rfl rfl rfl rfl rfl (xk 10 [0] [0, 1, 2] rfl rfl rfl rfl rfl (xv 11 [0] [0, 1, 2] rfl (EV.pf rfl rfl rfl) rfl rfl rfl rfl (xv 12 [0] [0, 1, 2] rfl (EV.mv rfl) rfl rfl rfl rfl (xk 13 [0] [0, 1, 2] rfl rfl rfl rfl rfl (xk 14 [0] [0, 1, 2] rfl rfl rfl rfl rfl (xk 16 [0] [0, 1, 2] rfl rfl rfl rfl rfl (xk 15 [0] [0, 1, 2] rfl rfl rfl rfl rfl (xk 17 [0] [0, 1, 2] rfl rfl rfl rfl rfl (xv 18 [0] [0, 1, 2] rfl (EV.pf rfl rfl rfl) rfl rfl rfl rfl (xd (pr [1, 2, 26] [0] [0, 1, 2] rfl rfl rfl rfl (gf rfl rfl (gk (wk [1, 2] [0] [⟨0, 0, 0, false⟩, ⟨1, 0, 0, false⟩, ⟨2, 0, 0, false⟩] (jh0 _ ⟨_, a1, a0_0, a0_4, H, rfl⟩)))))))))))))))))))))
 ·
  obtain rfl := bF c2
  refine gt rfl rfl (gs (rg (sv (EV.as rfl) rfl (re (pr [4] [] [] rfl rfl rfl rfl ?_)))))
  cases H
  exact rt Try.func98 rfl (.tmp rfl .nil) rfl [] [] rfl rfl rfl rfl rfl ⟨rfl, rfl, rfl⟩
end Go.Proofs.Ytajjeemkdjfilaa.K
namespace Go.Proofs.Ytajjeemkdjfilaa.K
open Go Go.RowKit
set_option linter.unusedVariables false
set_option linter.unusedSimpArgs false
def spec_StepJoiner.j0 : Nat → (List S92) → Int → (List S44) → Int → Int → (List S44) → Int → Int → Int → (List S70) → (List S70) → (List Bool) → Int → Option ((List S44) × Int × Int × (List S92) × Int × Bool)
 | 0, _, _, _, _, _, _, _, _, _, _, _, _, _ => none
 | k + 1, x2_12, x2_14, x2_4_0, x2_4_1, x2_4_2, x2_8_0, x2_8_1, x2_8_2, x2_13_0, x2_13_1, x2_13_2, x2_13_3, x2_13_4 => (spec_UnmatchedRows.f k x2_13_0 x2_13_1 x2_13_2 x2_13_3 x2_13_4).bind fun t22 => (if x2_12.length + t22.length ≤ 2513169434916 then (some (x2_8_0, x2_8_1, x2_8_2, x2_12 ++ t22, x2_14, true)) else none)
def spec_StepJoiner.f (k : Nat) (l0_0 : List S44) (a0_1 : Int) (a0_2 : Int) (a1 : Int) : Option ((List S44) × Int × Int × (List S92) × Int × Bool) := (spec_l19Copy.f k l0_0 a0_1 a0_2).bind fun bt1 => ((spec_IsValidJoiner.f k l0_0 a0_1 a0_2).bind fun t2 => (if t2 = true then (if (l0_0.length : Int) = 0 then (some (bt1.1, bt1.2.1, bt1.2.2, [], 0, false)) else ((spec_l1In.f a1 8 60).bind fun t6 => (if t6 = true then (if 0 < (bt1.1.length : Int) then (if 1 ≤ (bt1.1.length : Int) then ((spec_BuildSide.f k ((rd_T44 bt1.1 0).f0) ((rd_T44 bt1.1 0).f1) ((rd_T44 bt1.1 0).f2) ((rd_T44 bt1.1 0).f3) ((rd_T44 bt1.1 0).f4) a1).bind fun t13 => (if (((rd_T44 bt1.1 0).f1).length : Int) = 0 then ((spec_UnmatchedRows.f k ((rd_T44 bt1.1 0).f0) ((rd_T44 bt1.1 0).f1) ((rd_T44 bt1.1 0).f2) ((rd_T44 bt1.1 0).f3) ((rd_T44 bt1.1 0).f4)).bind fun t15 => (some (bt1.1.drop (1 : Int).toNat, bt1.2.1, bt1.2.2, t15, 0, true))) else (if (((rd_T44 bt1.1 0).f2).length : Int) = 0 then ((spec_UnmatchedRows.f k ((rd_T44 bt1.1 0).f0) ((rd_T44 bt1.1 0).f1) ((rd_T44 bt1.1 0).f2) ((rd_T44 bt1.1 0).f3) ((rd_T44 bt1.1 0).f4)).bind fun t17 => (some (bt1.1.drop (1 : Int).toNat, bt1.2.1, bt1.2.2, t17, 0, true))) else (if t13 > 0 then ((spec_JoinChunk.f k ((rd_T44 bt1.1 0).f0) ((rd_T44 bt1.1 0).f1) ((rd_T44 bt1.1 0).f2) ((rd_T44 bt1.1 0).f3) ((rd_T44 bt1.1 0).f4) ((rd_T44 bt1.1 0).f2)).bind fun bt19 => ((spec_TotalCost.f k ((rd_T44 bt1.1 0).f2)).bind fun t20 => (if t13 = 1 then ((spec_TotalCost.f k ((rd_T44 bt1.1 0).f1)).bind fun t26 => (spec_StepJoiner.j0 k bt19.1 t26 [] 0 0 (bt1.1.drop (1 : Int).toNat) bt1.2.1 bt1.2.2 bt19.2.1 bt19.2.2.1 bt19.2.2.2.1 bt19.2.2.2.2.1 bt19.2.2.2.2.2)) else (spec_StepJoiner.j0 k bt19.1 t20 [] 0 0 (bt1.1.drop (1 : Int).toNat) bt1.2.1 bt1.2.2 bt19.2.1 bt19.2.2.1 bt19.2.2.2.1 bt19.2.2.2.2.1 bt19.2.2.2.2.2)))) else ((spec_NeedsNestedLoop.f k ((rd_T44 bt1.1 0).f0) ((rd_T44 bt1.1 0).f1) ((rd_T44 bt1.1 0).f2) ((rd_T44 bt1.1 0).f3) ((rd_T44 bt1.1 0).f4)).bind fun t27 => (if t27 = true then ((spec_NextChunk.f k ((rd_T44 bt1.1 0).f2) a1).bind fun bt29 => ((spec_JoinChunk.f k ((rd_T44 bt1.1 0).f0) ((rd_T44 bt1.1 0).f1) ((rd_T44 bt1.1 0).f2) ((rd_T44 bt1.1 0).f3) ((rd_T44 bt1.1 0).f4) bt29.1).bind fun bt30 => (if ([(⟨bt30.2.1, bt30.2.2.1, bt29.2, bt30.2.2.2.2.1, bt30.2.2.2.2.2⟩ : S44)] : List S44).length + (bt1.1.drop (1 : Int).toNat).length ≤ 1599289640401 then ((spec_TotalCost.f k bt29.1).bind fun t34 => (some (([(⟨bt30.2.1, bt30.2.2.1, bt29.2, bt30.2.2.2.2.1, bt30.2.2.2.2.2⟩ : S44)] : List S44) ++ (bt1.1.drop (1 : Int).toNat), bt1.2.1, bt1.2.2, bt30.1, t34, true))) else none))) else ((spec_PartitionTask.f k ((rd_T44 bt1.1 0).f0) ((rd_T44 bt1.1 0).f1) ((rd_T44 bt1.1 0).f2) ((rd_T44 bt1.1 0).f3) ((rd_T44 bt1.1 0).f4)).bind fun bt35 => (if ([(⟨bt35.1, bt35.2.1, bt35.2.2.1, bt35.2.2.2.1, bt35.2.2.2.2.1⟩ : S44), (⟨bt35.2.2.2.2.2.1, bt35.2.2.2.2.2.2.1, bt35.2.2.2.2.2.2.2.1, bt35.2.2.2.2.2.2.2.2.1, bt35.2.2.2.2.2.2.2.2.2.1⟩ : S44)] : List S44).length + (bt1.1.drop (1 : Int).toNat).length ≤ 1599289640401 then ((spec_TaskCost.f k ((rd_T44 bt1.1 0).f0) ((rd_T44 bt1.1 0).f1) ((rd_T44 bt1.1 0).f2) ((rd_T44 bt1.1 0).f3) ((rd_T44 bt1.1 0).f4)).bind fun t39 => (some (([(⟨bt35.1, bt35.2.1, bt35.2.2.1, bt35.2.2.2.1, bt35.2.2.2.2.1⟩ : S44), (⟨bt35.2.2.2.2.2.1, bt35.2.2.2.2.2.2.1, bt35.2.2.2.2.2.2.2.1, bt35.2.2.2.2.2.2.2.2.1, bt35.2.2.2.2.2.2.2.2.2.1⟩ : S44)] : List S44) ++ (bt1.1.drop (1 : Int).toNat), wrap64 (a0_1 + t39), wrap64 (a0_2 + 1), [], 8, true))) else none)))))))) else none) else none) else (some (bt1.1, bt1.2.1, bt1.2.2, [], 0, false))))) else (some (bt1.1, bt1.2.1, bt1.2.2, [], 0, false))))
set_option maxHeartbeats 4000000 in
set_option maxRecDepth 100000 in
theorem spec_StepJoiner.ok (k : Nat) (l0_0 : List S44) (Al0_0 : Option Addr) (cl0_0 : Nat) (a0_1 : Int) (a0_2 : Int) (a1 : Int) (r0 : List S44) (r1 : Int) (r2 : Int) (r3 : List S92) (r4 : Int) (r5 : Bool) (H : spec_StepJoiner.f k l0_0 a0_1 a0_2 a1 = some (r0, r1, r2, r3, r4, r5)) : Fn Try.prog 55 [.agg #[.slice Al0_0 l0_0.length cl0_0, .int .i64 a0_1, .int .i64 a0_2], .int .i64 a1] [] [.sl 0 k44 Al0_0 cl0_0 l0_0 0 false] (fun v bx en => ∃ A0 c0 A3 c3, v = .tuple #[.agg #[.slice A0 r0.length c0, .int .i64 r1, .int .i64 r2], .slice A3 r3.length c3, .int .i64 r4, .bool r5] ∧ bx = [] ∧ en = [.sl 1 k44 A0 c0 r0 1 true, .sl 2 k92 A3 c3 r3 2 true]) := by
 refine fn_ 140 Try.func55 rfl rfl rfl (fun base T w0 => ?_)
 rw [spec_StepJoiner.f] at H
 refine gs (rg (so rfl (op_box (cs := [.slice Al0_0 l0_0.length cl0_0, .int .i64 a0_1, .int .i64 a0_2]) rfl rfl rfl fun b2 => (so rfl (op_alloc (cs := [.slice none 0 0, .int .i64 0, .int .i64 0]) (by kernel_rfl) rfl fun b4 => (sv (EV.as rfl) rfl (sv (EV.as rfl) rfl (sv (EV.as rfl) rfl (re (gs (rg (sv (EV.ld (v := .agg #[.slice Al0_0 l0_0.length cl0_0, .int .i64 a0_1, .int .i64 a0_2]) 0 (some 3) rfl rfl rfl) rfl ?_))))))))))))
 revert H; refine bdI ?_; rintro ⟨t1_0, t1_1, t1_2⟩ A1 H
 refine so rfl (op_call (spec_l19Copy.ok k l0_0 Al0_0 cl0_0 a0_1 a0_2 _ _ _ A1) [⟨0, 0, 0, false⟩] 1 rfl rfl rfl rfl rfl ?_)
 rintro _ _ _ ⟨At1_0, ct1_0, rfl, rfl, rfl⟩
 refine so rfl (op_alloc (cs := [.slice none 0 0, .int .i64 0, .int .i64 0]) (by kernel_rfl) rfl fun b8 => (so rfl (op_st (cs' := [.slice At1_0 t1_0.length ct1_0, .int .i64 t1_1, .int .i64 t1_2]) 2 rfl rfl rfl rfl rfl rfl (re (pr [1, 2, 4, 8] [0, 1, 2] [0, 1] rfl rfl rfl rfl (gs (gs (rg (sv (EV.ld (v := .agg #[.slice Al0_0 l0_0.length cl0_0, .int .i64 a0_1, .int .i64 a0_2]) 0 (some 3) rfl rfl rfl) rfl ?_)))))))))
 revert H; refine bdI ?_; rintro t2 A2 H
 refine so rfl (op_call (spec_IsValidJoiner.ok k l0_0 Al0_0 cl0_0 a0_1 a0_2 _ A2) [⟨0, 0, 0, false⟩] 3 rfl rfl rfl rfl rfl ?_)
 rintro _ _ _ ⟨rfl, rfl, rfl⟩
 refine sv (EV.nt rfl) rfl (sv (EV.mv rfl) rfl ?_)
 revert H; refine ifsI ?_ ?_ <;> intro c3 H
 ·
  subst c3
  refine ts 27 rfl rfl (sv (EV.fa 0 rfl) rfl (sv (EV.ld 0 none rfl rfl rfl) rfl (sv (EV.ln rfl) rfl (sv (EV.eql rfl rfl) rfl (sv (EV.pf rfl rfl rfl) rfl (sv (EV.mv rfl) rfl ?_))))))
  revert H; refine ifsI ?_ ?_ <;> intro c4 H
  ·
   refine ts 33 rfl (dT c4) (sk rfl (sk rfl (sk rfl (sv (EV.pt rfl rfl rfl) rfl (re (pr [1, 2, 4, 8, 37] [0, 1, 2] [0, 1] rfl rfl rfl rfl (gt rfl rfl (gs (rg (sv (EV.ld (v := .agg #[.slice At1_0 t1_0.length ct1_0, .int .i64 t1_1, .int .i64 t1_2]) 2 (some 3) rfl rfl rfl) rfl (so rfl (op_lit (s := 7) (by_ := 56) k92 ([] : List S92) [] [] 3 [] rfl rfl rfl rfl rfl rfl rfl rfl rfl rfl rfl rfl rfl dq rfl fun A39_5 c39_5 => (so rfl (op_st (cs' := [.slice At1_0 t1_0.length ct1_0, .int .i64 t1_1, .int .i64 t1_2]) 1 rfl rfl rfl rfl rfl rfl (sv (EV.as rfl) rfl (sv (EV.as rfl) rfl (sv (EV.as rfl) rfl (re (pr [4, 5, 6, 7] [1] [1, 2] rfl rfl rfl rfl ?_)))))))))))))))))))
   cases H
   exact rt Try.func55 rfl (.cell 0 (some 3) rfl rfl rfl (.tmp rfl (.tmp rfl (.tmp rfl .nil)))) rfl [] [⟨0, 1, 1, true⟩, ⟨1, 2, 2, true⟩] rfl rfl rfl rfl rfl ⟨_, _, _, _, rfl, rfl, rfl⟩
  ·
   refine ts 33 rfl (dF c4) (sv (EV.mv rfl) rfl ?_)
   revert H; refine bdI ?_; rintro t6 A6 H
   refine so rfl (op_call (spec_l1In.ok a1 8 60 _ A6) [] 3 rfl rfl rfl rfl rfl ?_)
   rintro _ _ _ ⟨rfl, rfl, rfl⟩
   refine sv (EV.nt rfl) rfl (sv (EV.pf rfl rfl rfl) rfl (re (pr [1, 2, 4, 8, 37] [0, 1, 2] [0, 1] rfl rfl rfl rfl ?_)))
   revert H; refine ifsI ?_ ?_ <;> intro c7 H
   ·
    subst c7
    refine gf rfl rfl (gk (gs (rg (sv (EV.fa 0 rfl) rfl (sv (EV.ld 2 none rfl rfl rfl) rfl ?_)))))
    revert H; refine ggI ?_; intro g8 H
    refine sv (EV.ix 1 rfl rfl rfl dq g8 rfl) rfl (opn (i := 0) 1 z44 rfl dq g8 fun A_9 c_9 A_10 c_10 A_11 c_11 => (sv (EV.lc (v := .agg #[.int .i64 ((rd_T44 t1_0 0).f0), .slice A_9 ((rd_T44 t1_0 0).f1).length c_9, .slice A_10 ((rd_T44 t1_0 0).f2).length c_10, .slice A_11 ((rd_T44 t1_0 0).f3).length c_11, .int .i64 ((rd_T44 t1_0 0).f4)]) 0 (some 5) 2 rfl rfl rfl rfl) rfl (so rfl (op_alloc (cs := [.int .i64 0, .slice none 0 0, .slice none 0 0, .slice none 0 0, .int .i64 0]) (by kernel_rfl) rfl fun b9 => (so rfl (op_st (cs' := [.int .i64 ((rd_T44 t1_0 0).f0), .slice A_9 ((rd_T44 t1_0 0).f1).length c_9, .slice A_10 ((rd_T44 t1_0 0).f2).length c_10, .slice A_11 ((rd_T44 t1_0 0).f3).length c_11, .int .i64 ((rd_T44 t1_0 0).f4)]) 3 rfl rfl rfl rfl rfl rfl (re (gs (rg (sv (EV.fa 0 rfl) rfl (sv (EV.ld 2 none rfl rfl rfl) rfl ?_)))))))))))
    revert H; refine ggI ?_; intro g12 H
    refine cutp (l' := t1_0.drop (1 : Int).toNat) 1 (t1_0.length : Int) 1 rfl dq g12 (Int.le_refl _) rfl 1 dq (.inl dq) ctl (sv (EV.ct 1 (t1_0.length : Int) 1 rfl rfl rfl rfl dq g12 (Int.le_refl _) rfl rfl ctnl) rfl (sv (EV.as rfl) rfl (re (pr [1, 2, 4, 8, 9, 10] [0, 1, 2, 3] [0, 1, 2, 3, 4, 5, 6] rfl rfl rfl rfl (gs (rg (sv (EV.ld (v := .agg #[.int .i64 ((rd_T44 t1_0 0).f0), .slice A_9 ((rd_T44 t1_0 0).f1).length c_9, .slice A_10 ((rd_T44 t1_0 0).f2).length c_10, .slice A_11 ((rd_T44 t1_0 0).f3).length c_11, .int .i64 ((rd_T44 t1_0 0).f4)]) 3 (some 5) rfl rfl rfl) rfl (sv (EV.mv rfl) rfl ?_))))))))
    revert H; refine bdI ?_; rintro t13 A13 H
    refine so rfl (op_call (spec_BuildSide.ok k ((rd_T44 t1_0 0).f0) ((rd_T44 t1_0 0).f1) A_9 c_9 ((rd_T44 t1_0 0).f2) A_10 c_10 ((rd_T44 t1_0 0).f3) A_11 c_11 ((rd_T44 t1_0 0).f4) a1 _ A13) [⟨3, 0, 0, false⟩, ⟨4, 0, 0, false⟩, ⟨5, 0, 0, false⟩] 3 rfl rfl rfl rfl rfl ?_)
    rintro _ _ _ ⟨rfl, rfl, rfl⟩
    refine sv (EV.as rfl) rfl (re (gs (gs (rg (sv (EV.fa 1 rfl) rfl (sv (EV.ld 3 none rfl rfl rfl) rfl (sv (EV.ln rfl) rfl (sv (EV.eql rfl rfl) rfl (sv (EV.mv rfl) rfl ?_)))))))))
    revert H; refine ifsI ?_ ?_ <;> intro c14 H
    ·
     refine ts 54 rfl (dT c14) (sk rfl (sk rfl (sk rfl (sk rfl (sv (EV.pt rfl rfl rfl) rfl (re (pr [1, 2, 4, 8, 9, 10, 11, 59] [0, 1, 2, 3] [0, 1, 2, 3, 4, 5, 6] rfl rfl rfl rfl (gt rfl rfl (gs (rg (sv (EV.mv rfl) rfl (sv (EV.fa 0 rfl) rfl (so rfl (op_st (cs' := [.slice (cutA At1_0 ct1_0 (1 : Int).toNat 5) (t1_0.drop (1 : Int).toNat).length (ct1_0 - (1 : Int).toNat), .int .i64 t1_1, .int .i64 t1_2]) 2 rfl rfl rfl rfl rfl rfl (re (pr [4, 8, 9] [1, 2, 3] [3, 4, 5, 6] rfl rfl rfl rfl (gs (dr [1, 2] [0, 1, 2, 3] [4, 5, 6] 7 rfl rfl rfl rfl (xv 0 [1, 2] [0, 1, 2, 3] rfl (EV.ld (v := .agg #[.slice (cutA At1_0 ct1_0 (1 : Int).toNat 5) (t1_0.drop (1 : Int).toNat).length (ct1_0 - (1 : Int).toNat), .int .i64 t1_1, .int .i64 t1_2]) 0 (some 3) rfl rfl rfl) rfl rfl rfl rfl (xv 1 [1, 2] [0, 1, 2, 3] rfl (EV.ld (v := .agg #[.int .i64 ((rd_T44 t1_0 0).f0), .slice A_9 ((rd_T44 t1_0 0).f1).length c_9, .slice A_10 ((rd_T44 t1_0 0).f2).length c_10, .slice A_11 ((rd_T44 t1_0 0).f3).length c_11, .int .i64 ((rd_T44 t1_0 0).f4)]) 1 (some 5) rfl rfl rfl) rfl rfl rfl rfl (one1 2 rfl rfl ?_)))))))))))))))))))))
     revert H; refine bdI ?_; rintro t15 A15 H
     refine op_call (spec_UnmatchedRows.ok k ((rd_T44 t1_0 0).f0) ((rd_T44 t1_0 0).f1) A_9 c_9 ((rd_T44 t1_0 0).f2) A_10 c_10 ((rd_T44 t1_0 0).f3) A_11 c_11 ((rd_T44 t1_0 0).f4) _ A15) [⟨0, 0, 0, false⟩, ⟨1, 0, 0, false⟩, ⟨2, 0, 0, false⟩] 3 rfl rfl rfl rfl rfl ?_
     rintro _ _ _ ⟨At15, ct15, rfl, rfl, rfl⟩
     refine xs [1, 2] [0, 1, 2, 3] rfl rfl rfl (one1 3 rfl rfl (op_st (cs' := [.slice (cutA At1_0 ct1_0 (1 : Int).toNat 5) (t1_0.drop (1 : Int).toNat).length (ct1_0 - (1 : Int).toNat), .int .i64 t1_1, .int .i64 t1_2]) 0 rfl rfl rfl rfl rfl rfl (xs [1, 2] [0, 1, 2, 3] rfl rfl rfl (one1 4 rfl rfl (ov (EV.as rfl) rfl (xn rfl (one1 5 rfl rfl (ov (EV.as rfl) rfl (xn rfl (one1 6 rfl rfl (ov (EV.as rfl) rfl (xn rfl (xd ?_)))))))))))))
     cases H
     exact rt Try.func55 rfl (.cell 0 (some 3) rfl rfl rfl (.tmp rfl (.tmp rfl (.tmp rfl .nil)))) rfl [] [⟨3, 1, 1, true⟩, ⟨4, 2, 2, true⟩] rfl rfl rfl rfl rfl ⟨_, _, _, _, rfl, rfl, rfl⟩
    ·
     refine ts 54 rfl (dF c14) (sv (EV.fa 2 rfl) rfl (sv (EV.ld 3 none rfl rfl rfl) rfl (sv (EV.ln rfl) rfl (sv (EV.eql rfl rfl) rfl (sv (EV.pf rfl rfl rfl) rfl (re (pr [1, 2, 4, 8, 9, 10, 11, 59] [0, 1, 2, 3] [0, 1, 2, 3, 4, 5, 6] rfl rfl rfl rfl ?_)))))))
     revert H; refine ifsI ?_ ?_ <;> intro c16 H
     ·
      refine gt rfl (dT c16) (gs (rg (sv (EV.mv rfl) rfl (sv (EV.fa 0 rfl) rfl (so rfl (op_st (cs' := [.slice (cutA At1_0 ct1_0 (1 : Int).toNat 5) (t1_0.drop (1 : Int).toNat).length (ct1_0 - (1 : Int).toNat), .int .i64 t1_1, .int .i64 t1_2]) 2 rfl rfl rfl rfl rfl rfl (re (pr [4, 8, 9] [1, 2, 3] [3, 4, 5, 6] rfl rfl rfl rfl (gs (dr [1, 2] [0, 1, 2, 3] [4, 5, 6] 7 rfl rfl rfl rfl (xv 0 [1, 2] [0, 1, 2, 3] rfl (EV.ld (v := .agg #[.slice (cutA At1_0 ct1_0 (1 : Int).toNat 5) (t1_0.drop (1 : Int).toNat).length (ct1_0 - (1 : Int).toNat), .int .i64 t1_1, .int .i64 t1_2]) 0 (some 3) rfl rfl rfl) rfl rfl rfl rfl (xv 1 [1, 2] [0, 1, 2, 3] rfl (EV.ld (v := .agg #[.int .i64 ((rd_T44 t1_0 0).f0), .slice A_9 ((rd_T44 t1_0 0).f1).length c_9, .slice A_10 ((rd_T44 t1_0 0).f2).length c_10, .slice A_11 ((rd_T44 t1_0 0).f3).length c_11, .int .i64 ((rd_T44 t1_0 0).f4)]) 1 (some 5) rfl rfl rfl) rfl rfl rfl rfl (one1 2 rfl rfl ?_)))))))))))))
      revert H; refine bdI ?_; rintro t17 A17 H
      refine op_call (spec_UnmatchedRows.ok k ((rd_T44 t1_0 0).f0) ((rd_T44 t1_0 0).f1) A_9 c_9 ((rd_T44 t1_0 0).f2) A_10 c_10 ((rd_T44 t1_0 0).f3) A_11 c_11 ((rd_T44 t1_0 0).f4) _ A17) [⟨0, 0, 0, false⟩, ⟨1, 0, 0, false⟩, ⟨2, 0, 0, false⟩] 3 rfl rfl rfl rfl rfl ?_
      rintro _ _ _ ⟨At17, ct17, rfl, rfl, rfl⟩
      refine xs [1, 2] [0, 1, 2, 3] rfl rfl rfl (one1 3 rfl rfl (op_st (cs' := [.slice (cutA At1_0 ct1_0 (1 : Int).toNat 5) (t1_0.drop (1 : Int).toNat).length (ct1_0 - (1 : Int).toNat), .int .i64 t1_1, .int .i64 t1_2]) 0 rfl rfl rfl rfl rfl rfl (xs [1, 2] [0, 1, 2, 3] rfl rfl rfl (one1 4 rfl rfl (ov (EV.as rfl) rfl (xn rfl (one1 5 rfl rfl (ov (EV.as rfl) rfl (xn rfl (one1 6 rfl rfl (ov (EV.as rfl) rfl (xn rfl (xd ?_)))))))))))))
      cases H
      exact rt Try.func55 rfl (.cell 0 (some 3) rfl rfl rfl (.tmp rfl (.tmp rfl (.tmp rfl .nil)))) rfl [] [⟨3, 1, 1, true⟩, ⟨4, 2, 2, true⟩] rfl rfl rfl rfl rfl ⟨_, _, _, _, rfl, rfl, rfl⟩
     ·
      refine gf rfl (dF c16) (gk (gs (gs (rg (sv (EV.mv rfl) rfl (sv (EV.gtr rfl rfl) rfl (re ?_)))))))
      revert H; refine ifsI ?_ ?_ <;> intro c18 H
      ·
       refine gt rfl (dT c18) (gs (rg (sv (EV.ld (v := .agg #[.int .i64 ((rd_T44 t1_0 0).f0), .slice A_9 ((rd_T44 t1_0 0).f1).length c_9, .slice A_10 ((rd_T44 t1_0 0).f2).length c_10, .slice A_11 ((rd_T44 t1_0 0).f3).length c_11, .int .i64 ((rd_T44 t1_0 0).f4)]) 3 (some 5) rfl rfl rfl) rfl (sv (EV.fa 2 rfl) rfl (sv (EV.ld 3 none rfl rfl rfl) rfl ?_)))))
       revert H; refine bdI ?_; rintro ⟨t19_0, t19_1, t19_2, t19_3, t19_4, t19_5⟩ A19 H
       refine so rfl (op_call (spec_JoinChunk.ok k ((rd_T44 t1_0 0).f0) ((rd_T44 t1_0 0).f1) A_9 c_9 ((rd_T44 t1_0 0).f2) A_10 c_10 ((rd_T44 t1_0 0).f3) A_11 c_11 ((rd_T44 t1_0 0).f4) ((rd_T44 t1_0 0).f2) A_10 c_10 _ _ _ _ _ _ A19) [⟨3, 0, 0, false⟩, ⟨4, 0, 0, false⟩, ⟨5, 0, 0, false⟩, ⟨4, 0, 0, false⟩] 3 rfl rfl rfl rfl rfl ?_)
       rintro _ _ _ ⟨At19_0, ct19_0, At19_2, ct19_2, At19_3, ct19_3, At19_4, ct19_4, rfl, rfl, rfl⟩
       refine sv (EV.mv rfl) rfl (sv (EV.ex rfl rfl) rfl (sv (EV.ex rfl rfl) rfl (so rfl (op_alloc (cs := [.int .i64 0, .slice none 0 0, .slice none 0 0, .slice none 0 0, .int .i64 0]) (by kernel_rfl) rfl fun b13 => (sv (EV.as rfl) rfl (so rfl (op_st (cs' := [.int .i64 t19_1, .slice At19_2 t19_2.length ct19_2, .slice At19_3 t19_3.length ct19_3, .slice At19_4 t19_4.length ct19_4, .int .i64 t19_5]) 4 rfl rfl rfl rfl rfl rfl (re (pr [4, 8, 9, 10, 11, 12, 13] [1, 2, 3, 4] [1, 2, 3, 4, 5, 6, 7, 8, 9, 10] rfl rfl rfl rfl (gs (rg (sv (EV.mv rfl) rfl (sv (EV.fa 0 rfl) rfl (so rfl (op_st (cs' := [.slice (cutA At1_0 ct1_0 (1 : Int).toNat 5) (t1_0.drop (1 : Int).toNat).length (ct1_0 - (1 : Int).toNat), .int .i64 t1_1, .int .i64 t1_2]) 1 rfl rfl rfl rfl rfl rfl (re (gs (rg (sv (EV.fa 2 rfl) rfl (sv (EV.ld 2 none rfl rfl rfl) rfl ?_))))))))))))))))))))
       revert H; refine bdI ?_; rintro t20 A20 H
       refine so rfl (op_call (spec_TotalCost.ok k ((rd_T44 t1_0 0).f2) A_10 c_10 _ A20) [⟨3, 0, 0, false⟩] 8 rfl rfl rfl rfl rfl ?_)
       rintro _ _ _ ⟨rfl, rfl, rfl⟩
       refine sv (EV.as rfl) rfl (re (pr [4, 8, 9, 11, 12, 13, 14] [0, 1, 2, 3] [2, 3, 4, 5, 6, 7, 8, 9] rfl rfl rfl rfl ?_))
       refine jo (fun S => ∃ (m : Nat) (x2_12 : List S92) (Ax2_12 : Option Addr) (cx2_12 : Nat) (x2_14 : Int) (x2_4_0 : List S44) (Ax2_4_0 : Option Addr) (cx2_4_0 : Nat) (x2_4_1 : Int) (x2_4_2 : Int) (x2_8_0 : List S44) (Ax2_8_0 : Option Addr) (cx2_8_0 : Nat) (x2_8_1 : Int) (x2_8_2 : Int) (x2_13_0 : Int) (x2_13_1 : List S70) (Ax2_13_1 : Option Addr) (cx2_13_1 : Nat) (x2_13_2 : List S70) (Ax2_13_2 : Option Addr) (cx2_13_2 : Nat) (x2_13_3 : List Bool) (Ax2_13_3 : Option Addr) (cx2_13_3 : Nat) (x2_13_4 : Int), spec_StepJoiner.j0 m x2_12 x2_14 x2_4_0 x2_4_1 x2_4_2 x2_8_0 x2_8_1 x2_8_2 x2_13_0 x2_13_1 x2_13_2 x2_13_3 x2_13_4 = some (r0, r1, r2, r3, r4, r5) ∧ S = ⟨[(4, .pointer (some ⟨b4, 0, none⟩)), (8, .pointer (some ⟨b8, 0, none⟩)), (12, .slice Ax2_12 x2_12.length cx2_12), (13, .pointer (some ⟨b13, 0, none⟩)), (14, .int .i64 x2_14)], [⟨b4, 73, [.slice Ax2_4_0 x2_4_0.length cx2_4_0, .int .i64 x2_4_1, .int .i64 x2_4_2]⟩, ⟨b8, 73, [.slice Ax2_8_0 x2_8_0.length cx2_8_0, .int .i64 x2_8_1, .int .i64 x2_8_2]⟩, ⟨b13, 44, [.int .i64 x2_13_0, .slice Ax2_13_1 x2_13_1.length cx2_13_1, .slice Ax2_13_2 x2_13_2.length cx2_13_2, .slice Ax2_13_3 x2_13_3.length cx2_13_3, .int .i64 x2_13_4]⟩], [.sl 2 k92 Ax2_12 cx2_12 x2_12 1 true, .sl 2 k44 Ax2_4_0 cx2_4_0 x2_4_0 2 true, .sl 1 k44 Ax2_8_0 cx2_8_0 x2_8_0 3 true, .sl 2 k70 Ax2_13_1 cx2_13_1 x2_13_1 4 true, .sl 2 k70 Ax2_13_2 cx2_13_2 x2_13_2 5 true, .sl 2 .bool Ax2_13_3 cx2_13_3 x2_13_3 6 true]⟩) (fun S hS => ?_) (fun jh0 => ?_)
       ·
        clear H
        obtain ⟨m21, x2_12, Ax2_12, cx2_12, x2_14, x2_4_0, Ax2_4_0, cx2_4_0, x2_4_1, x2_4_2, x2_8_0, Ax2_8_0, cx2_8_0, x2_8_1, x2_8_2, x2_13_0, x2_13_1, Ax2_13_1, cx2_13_1, x2_13_2, Ax2_13_2, cx2_13_2, x2_13_3, Ax2_13_3, cx2_13_3, x2_13_4, H, rfl⟩ := hS
        rcases m21 with _ | m21
        · rw [spec_StepJoiner.j0] at H; cases H
        rw [spec_StepJoiner.j0] at H
        refine gs (dr [1, 2] [1, 2, 3, 4, 5] [8, 9] 10 rfl rfl rfl rfl (xv 0 [1, 2] [1, 2, 3, 4, 5] rfl (EV.ld (v := .agg #[.slice Ax2_8_0 x2_8_0.length cx2_8_0, .int .i64 x2_8_1, .int .i64 x2_8_2]) 0 (some 3) rfl rfl rfl) rfl rfl rfl rfl (xv 1 [1, 2] [1, 2, 3, 4, 5] rfl (EV.mv rfl) rfl rfl rfl rfl (xv 2 [1, 2] [1, 2, 3, 4, 5] rfl (EV.ld (v := .agg #[.int .i64 x2_13_0, .slice Ax2_13_1 x2_13_1.length cx2_13_1, .slice Ax2_13_2 x2_13_2.length cx2_13_2, .slice Ax2_13_3 x2_13_3.length cx2_13_3, .int .i64 x2_13_4]) 1 (some 5) rfl rfl rfl) rfl rfl rfl rfl (xv 5 [1, 2] [1, 2, 3, 4, 5] rfl (EV.mv rfl) rfl rfl rfl rfl (one1 3 rfl rfl ?_))))))
        revert H; refine bdI ?_; rintro t22 A22 H
        refine op_call (spec_UnmatchedRows.ok m21 x2_13_0 x2_13_1 Ax2_13_1 cx2_13_1 x2_13_2 Ax2_13_2 cx2_13_2 x2_13_3 Ax2_13_3 cx2_13_3 x2_13_4 _ A22) [⟨3, 0, 0, false⟩, ⟨4, 0, 0, false⟩, ⟨5, 0, 0, false⟩] 7 rfl rfl rfl rfl rfl ?_
        rintro _ _ _ ⟨At22, ct22, rfl, rfl, rfl⟩
        refine xs [1, 2] [1, 2, 3, 4, 5] rfl rfl rfl (one1 4 rfl rfl ?_)
        revert H; refine ggI ?_; intro g23 H
        refine op_app (k := k92) (s := 7) (by_ := 56) 0 6 rfl rfl rfl rfl (ap2 g23 dq) (ap2n g23 dq) (.inl rfl) true (fun _ => .inl rfl) rfl rfl fun A88_24 c88_24 => (nmE (en := [.sl 2 k44 Ax2_4_0 cx2_4_0 x2_4_0 2 true, .sl 1 k44 Ax2_8_0 cx2_8_0 x2_8_0 3 true, .sl 2 k70 Ax2_13_1 cx2_13_1 x2_13_1 4 true, .sl 2 k70 Ax2_13_2 cx2_13_2 x2_13_2 5 true, .sl 2 .bool Ax2_13_3 cx2_13_3 x2_13_3 6 true, .sl 2 k92 At22 ct22 t22 8 true, .sl 2 k92 A88_24 c88_24 (x2_12 ++ t22) 1 true]) (by kernel_rfl) (xs [1, 2] [0, 1, 2, 3, 4] rfl rfl rfl (one1 6 rfl rfl (op_st (cs' := [.slice Ax2_8_0 x2_8_0.length cx2_8_0, .int .i64 x2_8_1, .int .i64 x2_8_2]) 0 rfl rfl rfl rfl rfl rfl (xs [1, 2] [0, 1, 2, 3, 4] rfl rfl rfl (one1 7 rfl rfl (ov (EV.as rfl) rfl (xs [1, 2] [0, 1, 2, 3, 4] rfl rfl rfl (one1 8 rfl rfl (ov (EV.as rfl) rfl (xn rfl (one1 9 rfl rfl (ov (EV.as rfl) rfl (xn rfl (xd (pr [4, 5, 6, 7] [0] [1, 6] rfl rfl rfl rfl ?_))))))))))))))))
        cases H
        exact rt Try.func55 rfl (.cell 0 (some 3) rfl rfl rfl (.tmp rfl (.tmp rfl (.tmp rfl .nil)))) rfl [] [⟨0, 1, 1, true⟩, ⟨1, 2, 2, true⟩] rfl rfl rfl rfl rfl ⟨_, _, _, _, rfl, rfl, rfl⟩
       ·
        refine gs (rg (sv (EV.mv rfl) rfl (sv (EV.eql rfl rfl) rfl (re ?_))))
        revert H; refine ifsI ?_ ?_ <;> intro c25 H
        ·
         refine gt rfl (dT c25) (rg (sv (EV.fa 1 rfl) rfl (sv (EV.ld 2 none rfl rfl rfl) rfl ?_)))
         revert H; refine bdI ?_; rintro t26 A26 H
         refine so rfl (op_call (spec_TotalCost.ok k ((rd_T44 t1_0 0).f1) A_9 c_9 _ A26) [⟨0, 0, 0, false⟩] 8 rfl rfl rfl rfl rfl ?_)
         rintro _ _ _ ⟨rfl, rfl, rfl⟩
         exact sv (EV.as rfl) rfl (re (pr [4, 8, 12, 13, 14] [0, 1, 3] [3, 4, 5, 6, 7] rfl rfl rfl rfl (nil_ k44 8 dq (wk [4, 8, 12, 13, 14] [0, 1, 2] [⟨1, 2, 1, true⟩, ⟨5, 2, 2, true⟩, ⟨0, 1, 3, true⟩, ⟨2, 2, 4, true⟩, ⟨3, 2, 5, true⟩, ⟨4, 2, 6, true⟩] (jh0 _ ⟨_, t19_0, At19_0, ct19_0, t26, [], none, 0, 0, 0, t1_0.drop (1 : Int).toNat, (cutA At1_0 ct1_0 (1 : Int).toNat 5), (ct1_0 - (1 : Int).toNat), t1_1, t1_2, t19_1, t19_2, At19_2, ct19_2, t19_3, At19_3, ct19_3, t19_4, At19_4, ct19_4, t19_5, H, rfl⟩)))))
        ·
         exact gf rfl (dF c25) (gk (nil_ k44 8 dq (wk [4, 8, 12, 13, 14] [0, 1, 3] [⟨4, 2, 1, true⟩, ⟨8, 2, 2, true⟩, ⟨3, 1, 3, true⟩, ⟨5, 2, 4, true⟩, ⟨6, 2, 5, true⟩, ⟨7, 2, 6, true⟩] (jh0 _ ⟨_, t19_0, At19_0, ct19_0, t20, [], none, 0, 0, 0, t1_0.drop (1 : Int).toNat, (cutA At1_0 ct1_0 (1 : Int).toNat 5), (ct1_0 - (1 : Int).toNat), t1_1, t1_2, t19_1, t19_2, At19_2, ct19_2, t19_3, At19_3, ct19_3, t19_4, At19_4, ct19_4, t19_5, H, rfl⟩))))
      ·
       refine gf rfl (dF c18) (gk (gs (gs (rg (sv (EV.ld (v := .agg #[.int .i64 ((rd_T44 t1_0 0).f0), .slice A_9 ((rd_T44 t1_0 0).f1).length c_9, .slice A_10 ((rd_T44 t1_0 0).f2).length c_10, .slice A_11 ((rd_T44 t1_0 0).f3).length c_11, .int .i64 ((rd_T44 t1_0 0).f4)]) 3 (some 5) rfl rfl rfl) rfl ?_)))))
       revert H; refine bdI ?_; rintro t27 A27 H
       refine so rfl (op_call (spec_NeedsNestedLoop.ok k ((rd_T44 t1_0 0).f0) ((rd_T44 t1_0 0).f1) A_9 c_9 ((rd_T44 t1_0 0).f2) A_10 c_10 ((rd_T44 t1_0 0).f3) A_11 c_11 ((rd_T44 t1_0 0).f4) _ A27) [⟨3, 0, 0, false⟩, ⟨4, 0, 0, false⟩, ⟨5, 0, 0, false⟩] 3 rfl rfl rfl rfl rfl ?_)
       rintro _ _ _ ⟨rfl, rfl, rfl⟩
       refine re ?_
       revert H; refine ifsI ?_ ?_ <;> intro c28 H
       ·
        subst c28
        refine gt rfl rfl (gs (rg (sv (EV.fa 2 rfl) rfl (sv (EV.ld 3 none rfl rfl rfl) rfl (sv (EV.mv rfl) rfl ?_)))))
        revert H; refine bdI ?_; rintro ⟨t29_0, t29_1⟩ A29 H
        refine so rfl (op_call (spec_NextChunk.ok k ((rd_T44 t1_0 0).f2) A_10 c_10 a1 _ _ A29) [⟨4, 0, 0, false⟩] 3 rfl rfl rfl rfl rfl ?_)
        rintro _ _ _ ⟨At29_0, ct29_0, At29_1, ct29_1, rfl, rfl, rfl⟩
        refine sv (EV.mv rfl) rfl (sv (EV.ex rfl rfl) rfl (sv (EV.ex rfl rfl) rfl (sv (EV.as rfl) rfl (sv (EV.as rfl) rfl (re (pr [4, 8, 9, 10, 15, 16] [1, 2, 3] [1, 2, 3, 4, 5, 6, 7, 8] rfl rfl rfl rfl (gs (rg (sv (EV.ld (v := .agg #[.int .i64 ((rd_T44 t1_0 0).f0), .slice A_9 ((rd_T44 t1_0 0).f1).length c_9, .slice A_10 ((rd_T44 t1_0 0).f2).length c_10, .slice A_11 ((rd_T44 t1_0 0).f3).length c_11, .int .i64 ((rd_T44 t1_0 0).f4)]) 2 (some 5) rfl rfl rfl) rfl (sv (EV.mv rfl) rfl ?_))))))))))
        revert H; refine bdI ?_; rintro ⟨t30_0, t30_1, t30_2, t30_3, t30_4, t30_5⟩ A30 H
        refine so rfl (op_call (spec_JoinChunk.ok k ((rd_T44 t1_0 0).f0) ((rd_T44 t1_0 0).f1) A_9 c_9 ((rd_T44 t1_0 0).f2) A_10 c_10 ((rd_T44 t1_0 0).f3) A_11 c_11 ((rd_T44 t1_0 0).f4) t29_0 At29_0 ct29_0 _ _ _ _ _ _ A30) [⟨2, 0, 0, false⟩, ⟨3, 0, 0, false⟩, ⟨4, 0, 0, false⟩, ⟨6, 0, 0, false⟩] 6 rfl rfl rfl rfl rfl ?_)
        rintro _ _ _ ⟨At30_0, ct30_0, At30_2, ct30_2, At30_3, ct30_3, At30_4, ct30_4, rfl, rfl, rfl⟩
        refine sv (EV.mv rfl) rfl (sv (EV.ex rfl rfl) rfl (sv (EV.ex rfl rfl) rfl (so rfl (op_alloc (cs := [.int .i64 0, .slice none 0 0, .slice none 0 0, .slice none 0 0, .int .i64 0]) (by kernel_rfl) rfl fun b18 => (sv (EV.as rfl) rfl (so rfl (op_st (cs' := [.int .i64 t30_1, .slice At30_2 t30_2.length ct30_2, .slice At30_3 t30_3.length ct30_3, .slice At30_4 t30_4.length ct30_4, .int .i64 t30_5]) 3 rfl rfl rfl rfl rfl rfl (re (pr [4, 8, 10, 15, 16, 17, 18] [0, 1, 3] [0, 5, 6, 7, 8, 9, 10, 11] rfl rfl rfl rfl (gs (rg (sv (EV.mv rfl) rfl (sv (EV.fa 2 rfl) rfl (so rfl (op_st (cs' := [.int .i64 t30_1, .slice At30_2 t30_2.length ct30_2, .slice At29_1 t29_1.length ct29_1, .slice At30_4 t30_4.length ct30_4, .int .i64 t30_5]) 2 rfl rfl rfl rfl rfl rfl (re (gs (rg (sv (EV.ld (v := .agg #[.int .i64 t30_1, .slice At30_2 t30_2.length ct30_2, .slice At29_1 t29_1.length ct29_1, .slice At30_4 t30_4.length ct30_4, .int .i64 t30_5]) 2 (some 5) rfl rfl rfl) rfl (so rfl (op_lit (s := 5) (by_ := 88) k44 ([(⟨t30_1, t30_2, t29_1, t30_4, t30_5⟩ : S44)] : List S44) [[(At30_2, ct30_2), (At29_1, ct29_1), (At30_4, ct30_4)]] [5, 3, 7] 11 [.tmp 107] rfl rfl rfl rfl rfl rfl rfl rfl rfl rfl rfl rfl rfl dq rfl fun A108_31 c108_31 => (nmE (en := [.sl 2 k44 At1_0 ct1_0 t1_0 2 true, .sl 1 k44 (cutA At1_0 ct1_0 (1 : Int).toNat 5) (ct1_0 - (1 : Int).toNat) (t1_0.drop (1 : Int).toNat) 2 true, .sl 2 k70 At29_0 ct29_0 t29_0 4 true, .sl 2 k70 At29_1 ct29_1 t29_1 11 true, .sl 2 k92 At30_0 ct30_0 t30_0 7 true, .sl 2 k70 At30_2 ct30_2 t30_2 11 true, .sl 2 k70 At30_3 ct30_3 t30_3 9 true, .sl 2 .bool At30_4 ct30_4 t30_4 11 true, .sl 2 k44 A108_31 c108_31 ([(⟨t30_1, t30_2, t29_1, t30_4, t30_5⟩ : S44)] : List S44) 11 true]) (by kernel_rfl) (sv (EV.mv rfl) rfl ?_)))))))))))))))))))))))
        revert H; refine ggI ?_; intro g32 H
        refine so rfl (op_app (k := k44) (s := 5) (by_ := 88) 8 1 rfl rfl rfl rfl (ap2 g32 dq) (ap2n g32 dq) (.inr ⟨dq, dq, rfl, dq⟩) true (fun _ => .inr ⟨rfl, rfl, dq⟩) rfl rfl fun A110_33 c110_33 => (nmE (en := [.sl 2 k44 At1_0 ct1_0 t1_0 11 true, .sl 1 k44 (cutA At1_0 ct1_0 (1 : Int).toNat 5) (ct1_0 - (1 : Int).toNat) (t1_0.drop (1 : Int).toNat) 11 true, .sl 2 k70 At29_0 ct29_0 t29_0 4 true, .sl 2 k92 At30_0 ct30_0 t30_0 7 true, .sl 2 k70 At30_3 ct30_3 t30_3 9 true, .sl 2 k44 A110_33 c110_33 (([(⟨t30_1, t30_2, t29_1, t30_4, t30_5⟩ : S44)] : List S44) ++ (t1_0.drop (1 : Int).toNat)) 11 true]) (by kernel_rfl) (sv (EV.fa 0 rfl) rfl (so rfl (op_st (cs' := [.slice A110_33 (([(⟨t30_1, t30_2, t29_1, t30_4, t30_5⟩ : S44)] : List S44) ++ (t1_0.drop (1 : Int).toNat)).length c110_33, .int .i64 t1_1, .int .i64 t1_2]) 1 rfl rfl rfl rfl rfl rfl (re (pr [4, 8, 15, 17] [0, 1] [2, 3, 5] rfl rfl rfl rfl (gs (dr [1] [0, 1, 2] [6, 7] 8 rfl rfl rfl rfl (xv 0 [1] [0, 1, 2] rfl (EV.ld (v := .agg #[.slice A110_33 (([(⟨t30_1, t30_2, t29_1, t30_4, t30_5⟩ : S44)] : List S44) ++ (t1_0.drop (1 : Int).toNat)).length c110_33, .int .i64 t1_1, .int .i64 t1_2]) 0 (some 3) rfl rfl rfl) rfl rfl rfl rfl (xv 1 [1] [0, 1, 2] rfl (EV.mv rfl) rfl rfl rfl rfl (xv 2 [1] [0, 1, 2] rfl (EV.mv rfl) rfl rfl rfl rfl (one1 3 rfl rfl ?_)))))))))))))
        revert H; refine bdI ?_; rintro t34 A34 H
        refine op_call (spec_TotalCost.ok k t29_0 At29_0 ct29_0 _ A34) [⟨0, 0, 0, false⟩] 12 rfl rfl rfl rfl rfl ?_
        rintro _ _ _ ⟨rfl, rfl, rfl⟩
        refine xs [1] [0, 1, 2] rfl rfl rfl (one1 4 rfl rfl (op_st (cs' := [.slice A110_33 (([(⟨t30_1, t30_2, t29_1, t30_4, t30_5⟩ : S44)] : List S44) ++ (t1_0.drop (1 : Int).toNat)).length c110_33, .int .i64 t1_1, .int .i64 t1_2]) 0 rfl rfl rfl rfl rfl rfl (xs [1] [0, 1, 2] rfl rfl rfl (one1 5 rfl rfl (ov (EV.as rfl) rfl (xs [1] [0, 1, 2] rfl rfl rfl (one1 6 rfl rfl (ov (EV.as rfl) rfl (xn rfl (one1 7 rfl rfl (ov (EV.as rfl) rfl (xn rfl (xd (pr [4, 5, 6, 7] [0] [1, 2] rfl rfl rfl rfl ?_))))))))))))))
        cases H
        exact rt Try.func55 rfl (.cell 0 (some 3) rfl rfl rfl (.tmp rfl (.tmp rfl (.tmp rfl .nil)))) rfl [] [⟨1, 1, 1, true⟩, ⟨0, 2, 2, true⟩] rfl rfl rfl rfl rfl ⟨_, _, _, _, rfl, rfl, rfl⟩
       ·
        obtain rfl := bF c28
        refine gf rfl rfl (gk (gs (rg (sv (EV.ld (v := .agg #[.int .i64 ((rd_T44 t1_0 0).f0), .slice A_9 ((rd_T44 t1_0 0).f1).length c_9, .slice A_10 ((rd_T44 t1_0 0).f2).length c_10, .slice A_11 ((rd_T44 t1_0 0).f3).length c_11, .int .i64 ((rd_T44 t1_0 0).f4)]) 3 (some 5) rfl rfl rfl) rfl ?_))))
        revert H; refine bdI ?_; rintro ⟨t35_0, t35_1, t35_2, t35_3, t35_4, t35_5, t35_6, t35_7, t35_8, t35_9, t35_10⟩ A35 H
        refine so rfl (op_call (spec_PartitionTask.ok k ((rd_T44 t1_0 0).f0) ((rd_T44 t1_0 0).f1) A_9 c_9 ((rd_T44 t1_0 0).f2) A_10 c_10 ((rd_T44 t1_0 0).f3) A_11 c_11 ((rd_T44 t1_0 0).f4) _ _ _ _ _ _ _ _ _ _ _ A35) [⟨3, 0, 0, false⟩, ⟨4, 0, 0, false⟩, ⟨5, 0, 0, false⟩] 3 rfl rfl rfl rfl rfl ?_)
        rintro _ _ _ ⟨At35_1, ct35_1, At35_2, ct35_2, At35_3, ct35_3, At35_6, ct35_6, At35_7, ct35_7, At35_8, ct35_8, rfl, rfl, rfl⟩
        refine sv (EV.mv rfl) rfl (sv (EV.ex rfl rfl) rfl (sv (EV.ex rfl rfl) rfl (sv (EV.ex rfl rfl) rfl (so rfl (op_alloc (cs := [.int .i64 0, .slice none 0 0, .slice none 0 0, .slice none 0 0, .int .i64 0]) (by kernel_rfl) rfl fun b19 => (so rfl (op_alloc (cs := [.int .i64 0, .slice none 0 0, .slice none 0 0, .slice none 0 0, .int .i64 0]) (by kernel_rfl) rfl fun b20 => (so rfl (op_st (cs' := [.int .i64 t35_0, .slice At35_1 t35_1.length ct35_1, .slice At35_2 t35_2.length ct35_2, .slice At35_3 t35_3.length ct35_3, .int .i64 t35_4]) 4 rfl rfl rfl rfl rfl rfl (so rfl (op_st (cs' := [.int .i64 t35_5, .slice At35_6 t35_6.length ct35_6, .slice At35_7 t35_7.length ct35_7, .slice At35_8 t35_8.length ct35_8, .int .i64 t35_9]) 5 rfl rfl rfl rfl rfl rfl (sv (EV.as rfl) rfl (re (pr [2, 4, 8, 9, 10, 19, 20] [0, 1, 2, 3, 4, 5] [0, 1, 2, 3, 4, 5, 6, 7, 8, 9, 10, 11, 12] rfl rfl rfl rfl (gs (rg (sv (EV.ld (v := .agg #[.int .i64 t35_0, .slice At35_1 t35_1.length ct35_1, .slice At35_2 t35_2.length ct35_2, .slice At35_3 t35_3.length ct35_3, .int .i64 t35_4]) 4 (some 5) rfl rfl rfl) rfl (sv (EV.ld (v := .agg #[.int .i64 t35_5, .slice At35_6 t35_6.length ct35_6, .slice At35_7 t35_7.length ct35_7, .slice At35_8 t35_8.length ct35_8, .int .i64 t35_9]) 5 (some 5) rfl rfl rfl) rfl (so rfl (op_lit (s := 5) (by_ := 88) k44 ([(⟨t35_0, t35_1, t35_2, t35_3, t35_4⟩ : S44), (⟨t35_5, t35_6, t35_7, t35_8, t35_9⟩ : S44)] : List S44) [[(At35_1, ct35_1), (At35_2, ct35_2), (At35_3, ct35_3)], [(At35_6, ct35_6), (At35_7, ct35_7), (At35_8, ct35_8)]] [7, 8, 9, 10, 11, 12] 10 [.tmp 122, .tmp 123] rfl rfl rfl rfl rfl rfl rfl rfl rfl rfl rfl rfl rfl dq rfl fun A124_36 c124_36 => (nmE (en := [.sl 0 k44 Al0_0 cl0_0 l0_0 0 false, .sl 2 k44 At1_0 ct1_0 t1_0 2 true, celE At1_0 ((0 : Int).toNat * 5) [.int .i64 ((rd_T44 t1_0 0).f0), .slice A_9 ((rd_T44 t1_0 0).f1).length c_9, .slice A_10 ((rd_T44 t1_0 0).f2).length c_10, .slice A_11 ((rd_T44 t1_0 0).f3).length c_11, .int .i64 ((rd_T44 t1_0 0).f4)] 2, .sl 1 k70 A_9 c_9 ((rd_T44 t1_0 0).f1) 2 true, .sl 1 k70 A_10 c_10 ((rd_T44 t1_0 0).f2) 2 true, .sl 1 .bool A_11 c_11 ((rd_T44 t1_0 0).f3) 2 true, .sl 1 k44 (cutA At1_0 ct1_0 (1 : Int).toNat 5) (ct1_0 - (1 : Int).toNat) (t1_0.drop (1 : Int).toNat) 2 true, .sl 2 k70 At35_1 ct35_1 t35_1 10 true, .sl 2 k70 At35_2 ct35_2 t35_2 10 true, .sl 2 .bool At35_3 ct35_3 t35_3 10 true, .sl 2 k70 At35_6 ct35_6 t35_6 10 true, .sl 2 k70 At35_7 ct35_7 t35_7 10 true, .sl 2 .bool At35_8 ct35_8 t35_8 10 true, .sl 2 k44 A124_36 c124_36 ([(⟨t35_0, t35_1, t35_2, t35_3, t35_4⟩ : S44), (⟨t35_5, t35_6, t35_7, t35_8, t35_9⟩ : S44)] : List S44) 10 true]) (by kernel_rfl) (sv (EV.mv rfl) rfl ?_))))))))))))))))))))))
        revert H; refine ggI ?_; intro g37 H
        refine so rfl (op_app (k := k44) (s := 5) (by_ := 88) 13 6 rfl rfl rfl rfl (ap2 g37 dq) (ap2n g37 dq) (.inr ⟨dq, dq, rfl, dq⟩) true (fun _ => .inr ⟨rfl, rfl, dq⟩) rfl rfl fun A126_38 c126_38 => (nmE (en := [.sl 0 k44 Al0_0 cl0_0 l0_0 0 false, .sl 2 k44 At1_0 ct1_0 t1_0 10 true, celE At1_0 ((0 : Int).toNat * 5) [.int .i64 ((rd_T44 t1_0 0).f0), .slice A_9 ((rd_T44 t1_0 0).f1).length c_9, .slice A_10 ((rd_T44 t1_0 0).f2).length c_10, .slice A_11 ((rd_T44 t1_0 0).f3).length c_11, .int .i64 ((rd_T44 t1_0 0).f4)] 10, .sl 1 k70 A_9 c_9 ((rd_T44 t1_0 0).f1) 10 true, .sl 1 k70 A_10 c_10 ((rd_T44 t1_0 0).f2) 10 true, .sl 1 .bool A_11 c_11 ((rd_T44 t1_0 0).f3) 10 true, .sl 1 k44 (cutA At1_0 ct1_0 (1 : Int).toNat 5) (ct1_0 - (1 : Int).toNat) (t1_0.drop (1 : Int).toNat) 10 true, .sl 2 k44 A126_38 c126_38 (([(⟨t35_0, t35_1, t35_2, t35_3, t35_4⟩ : S44), (⟨t35_5, t35_6, t35_7, t35_8, t35_9⟩ : S44)] : List S44) ++ (t1_0.drop (1 : Int).toNat)) 10 true]) (by kernel_rfl) (sv (EV.fa 0 rfl) rfl (so rfl (op_st (cs' := [.slice A126_38 (([(⟨t35_0, t35_1, t35_2, t35_3, t35_4⟩ : S44), (⟨t35_5, t35_6, t35_7, t35_8, t35_9⟩ : S44)] : List S44) ++ (t1_0.drop (1 : Int).toNat)).length c126_38, .int .i64 t1_1, .int .i64 t1_2]) 2 rfl rfl rfl rfl rfl rfl (re (pr [2, 4, 8, 9] [0, 1, 2, 3] [0, 3, 4, 5, 7] rfl rfl rfl rfl (gs (dr [0, 1, 2, 3] [0, 1, 2, 3, 4] [6] 7 rfl rfl rfl rfl (xv 0 [0, 1, 2, 3] [0, 1, 2, 3, 4] rfl (EV.fa 1 rfl) rfl rfl rfl rfl (xv 1 [0, 1, 2, 3] [0, 1, 2, 3, 4] rfl (EV.ld 0 none rfl rfl rfl) rfl rfl rfl rfl (xv 2 [0, 1, 2, 3] [0, 1, 2, 3, 4] rfl (EV.ld (v := .agg #[.int .i64 ((rd_T44 t1_0 0).f0), .slice A_9 ((rd_T44 t1_0 0).f1).length c_9, .slice A_10 ((rd_T44 t1_0 0).f2).length c_10, .slice A_11 ((rd_T44 t1_0 0).f3).length c_11, .int .i64 ((rd_T44 t1_0 0).f4)]) 3 (some 5) rfl rfl rfl) rfl rfl rfl rfl (one1 3 rfl rfl ?_)))))))))))))
        revert H; refine bdI ?_; rintro t39 A39 H
        refine op_call (spec_TaskCost.ok k ((rd_T44 t1_0 0).f0) ((rd_T44 t1_0 0).f1) A_9 c_9 ((rd_T44 t1_0 0).f2) A_10 c_10 ((rd_T44 t1_0 0).f3) A_11 c_11 ((rd_T44 t1_0 0).f4) _ A39) [⟨1, 0, 0, false⟩, ⟨2, 0, 0, false⟩, ⟨3, 0, 0, false⟩] 11 rfl rfl rfl rfl rfl ?_
        rintro _ _ _ ⟨rfl, rfl, rfl⟩
        refine xs [0, 1, 2, 3] [0, 1, 2, 3, 4] rfl rfl rfl (xv 4 [0, 1, 2, 3] [0, 1, 2, 3, 4] rfl (EV.add rfl rfl) rfl rfl rfl rfl (xv 5 [0, 1, 2, 3] [0, 1, 2, 3, 4] rfl (EV.fa 1 rfl) rfl rfl rfl rfl (one1 6 rfl rfl (op_st (cs' := [.slice A126_38 (([(⟨t35_0, t35_1, t35_2, t35_3, t35_4⟩ : S44), (⟨t35_5, t35_6, t35_7, t35_8, t35_9⟩ : S44)] : List S44) ++ (t1_0.drop (1 : Int).toNat)).length c126_38, .int .i64 (wrap64 (a0_1 + t39)), .int .i64 t1_2]) 2 rfl rfl rfl rfl rfl rfl (xn rfl (xd (pr [2, 4, 8] [0, 1, 2] [0, 4] rfl rfl rfl rfl (gs (rg (sv (EV.fa 2 rfl) rfl (sv (EV.ld 0 none rfl rfl rfl) rfl (sv (EV.add rfl rfl) rfl (sv (EV.fa 2 rfl) rfl (so rfl (op_st (cs' := [.slice A126_38 (([(⟨t35_0, t35_1, t35_2, t35_3, t35_4⟩ : S44), (⟨t35_5, t35_6, t35_7, t35_8, t35_9⟩ : S44)] : List S44) ++ (t1_0.drop (1 : Int).toNat)).length c126_38, .int .i64 (wrap64 (a0_1 + t39)), .int .i64 (wrap64 (a0_2 + 1))]) 2 rfl rfl rfl rfl rfl rfl (re (gs (rg (sv (EV.ld (v := .agg #[.slice A126_38 (([(⟨t35_0, t35_1, t35_2, t35_3, t35_4⟩ : S44), (⟨t35_5, t35_6, t35_7, t35_8, t35_9⟩ : S44)] : List S44) ++ (t1_0.drop (1 : Int).toNat)).length c126_38, .int .i64 (wrap64 (a0_1 + t39)), .int .i64 (wrap64 (a0_2 + 1))]) 2 (some 3) rfl rfl rfl) rfl (so rfl (op_lit (s := 7) (by_ := 56) k92 ([] : List S92) [] [] 11 [] rfl rfl rfl rfl rfl rfl rfl rfl rfl rfl rfl rfl rfl dq rfl fun A139_40 c139_40 => (so rfl (op_st (cs' := [.slice A126_38 (([(⟨t35_0, t35_1, t35_2, t35_3, t35_4⟩ : S44), (⟨t35_5, t35_6, t35_7, t35_8, t35_9⟩ : S44)] : List S44) ++ (t1_0.drop (1 : Int).toNat)).length c126_38, .int .i64 (wrap64 (a0_1 + t39)), .int .i64 (wrap64 (a0_2 + 1))]) 1 rfl rfl rfl rfl rfl rfl (sv (EV.as rfl) rfl (sv (EV.as rfl) rfl (sv (EV.as rfl) rfl (re (pr [4, 5, 6, 7] [1] [1, 2] rfl rfl rfl rfl ?_))))))))))))))))))))))))))))
        cases H
        exact rt Try.func55 rfl (.cell 0 (some 3) rfl rfl rfl (.tmp rfl (.tmp rfl (.tmp rfl .nil)))) rfl [] [⟨0, 1, 1, true⟩, ⟨1, 2, 2, true⟩] rfl rfl rfl rfl rfl ⟨_, _, _, _, rfl, rfl, rfl⟩
   ·
    obtain rfl := bF c7
    refine gt rfl rfl (gs (rg (sv (EV.ld (v := .agg #[.slice At1_0 t1_0.length ct1_0, .int .i64 t1_1, .int .i64 t1_2]) 2 (some 3) rfl rfl rfl) rfl (so rfl (op_lit (s := 7) (by_ := 56) k92 ([] : List S92) [] [] 3 [] rfl rfl rfl rfl rfl rfl rfl rfl rfl rfl rfl rfl rfl dq rfl fun A39_41 c39_41 => (so rfl (op_st (cs' := [.slice At1_0 t1_0.length ct1_0, .int .i64 t1_1, .int .i64 t1_2]) 1 rfl rfl rfl rfl rfl rfl (sv (EV.as rfl) rfl (sv (EV.as rfl) rfl (sv (EV.as rfl) rfl (re (pr [4, 5, 6, 7] [1] [1, 2] rfl rfl rfl rfl ?_))))))))))))
    cases H
    exact rt Try.func55 rfl (.cell 0 (some 3) rfl rfl rfl (.tmp rfl (.tmp rfl (.tmp rfl .nil)))) rfl [] [⟨0, 1, 1, true⟩, ⟨1, 2, 2, true⟩] rfl rfl rfl rfl rfl ⟨_, _, _, _, rfl, rfl, rfl⟩
 ·
  obtain rfl := bF c3
  refine ts 27 rfl rfl (sk rfl (sk rfl (sk rfl (sk rfl (sv (EV.pt rfl rfl rfl) rfl (sv (EV.mv rfl) rfl (sk rfl (sk rfl (sk rfl (sv (EV.pt rfl rfl rfl) rfl (re (pr [1, 2, 4, 8, 37] [0, 1, 2] [0, 1] rfl rfl rfl rfl (gt rfl rfl (gs (rg (sv (EV.ld (v := .agg #[.slice At1_0 t1_0.length ct1_0, .int .i64 t1_1, .int .i64 t1_2]) 2 (some 3) rfl rfl rfl) rfl (so rfl (op_lit (s := 7) (by_ := 56) k92 ([] : List S92) [] [] 3 [] rfl rfl rfl rfl rfl rfl rfl rfl rfl rfl rfl rfl rfl dq rfl fun A39_42 c39_42 => (so rfl (op_st (cs' := [.slice At1_0 t1_0.length ct1_0, .int .i64 t1_1, .int .i64 t1_2]) 1 rfl rfl rfl rfl rfl rfl (sv (EV.as rfl) rfl (sv (EV.as rfl) rfl (sv (EV.as rfl) rfl (re (pr [4, 5, 6, 7] [1] [1, 2] rfl rfl rfl rfl ?_)))))))))))))))))))))))))
  cases H
  exact rt Try.func55 rfl (.cell 0 (some 3) rfl rfl rfl (.tmp rfl (.tmp rfl (.tmp rfl .nil)))) rfl [] [⟨0, 1, 1, true⟩, ⟨1, 2, 2, true⟩] rfl rfl rfl rfl rfl ⟨_, _, _, _, rfl, rfl, rfl⟩
end Go.Proofs.Ytajjeemkdjfilaa.K
namespace Go.Proofs.Ytajjeemkdjfilaa.K
open Go Go.RowKit
set_option linter.unusedVariables false
set_option linter.unusedSimpArgs false
def spec_NewTask.f (k : Nat) (a0 : Int) (l1 : List S70) (l2 : List S70) : Option (Int × (List S70) × (List S70) × (List Bool) × Int × Bool) := (spec_IsValidJoinKind.f a0).bind fun t1 => (if t1 = true then ((spec_AreValidRows.f k l1).bind fun t3 => (if t3 = true then ((spec_AreValidRows.f k l2).bind fun t5 => (if t5 = true then (if l1.length ≤ 5864062014805 then (if l2.length ≤ 5864062014805 then (if 0 ≤ (l1.length : Int) then (if (l1.length : Int).toNat ≤ 140737488355328 then (some (a0, l1, l2, List.replicate (l1.length : Int).toNat false, 0, true)) else none) else none) else none) else none) else (some (0, [], [], [], 0, false)))) else (some (0, [], [], [], 0, false)))) else (some (0, [], [], [], 0, false)))
set_option maxHeartbeats 4000000 in
set_option maxRecDepth 100000 in
theorem spec_NewTask.ok (k : Nat) (a0 : Int) (l1 : List S70) (Al1 : Option Addr) (cl1 : Nat) (l2 : List S70) (Al2 : Option Addr) (cl2 : Nat) (r0 : Int) (r1 : List S70) (r2 : List S70) (r3 : List Bool) (r4 : Int) (r5 : Bool) (H : spec_NewTask.f k a0 l1 l2 = some (r0, r1, r2, r3, r4, r5)) : Fn Try.prog 90 [.int .i64 a0, .slice Al1 l1.length cl1, .slice Al2 l2.length cl2] [] [.sl 0 k70 Al1 cl1 l1 0 false, .sl 0 k70 Al2 cl2 l2 0 false] (fun v bx en => ∃ A1 c1 A2 c2 A3 c3, v = .tuple #[.agg #[.int .i64 r0, .slice A1 r1.length c1, .slice A2 r2.length c2, .slice A3 r3.length c3, .int .i64 r4], .bool r5] ∧ bx = [] ∧ en = [.sl 2 k70 A1 c1 r1 1 true, .sl 2 k70 A2 c2 r2 2 true, .sl 2 .bool A3 c3 r3 3 true]) := by
 refine fn_ 33 Try.func90 rfl rfl rfl (fun base T w0 => ?_)
 rw [spec_NewTask.f] at H
 refine gs (rg (so rfl (op_alloc (cs := [.int .i64 0, .slice none 0 0, .slice none 0 0, .slice none 0 0, .int .i64 0]) (by kernel_rfl) rfl fun b6 => (sv (EV.as rfl) rfl (re (gs (gs (rg (sv (EV.mv rfl) rfl ?_)))))))))
 revert H; refine bdI ?_; rintro t1 A1 H
 refine so rfl (op_call (spec_IsValidJoinKind.ok a0 _ A1) [] 1 rfl rfl rfl rfl rfl ?_)
 rintro _ _ _ ⟨rfl, rfl, rfl⟩
 refine sv (EV.nt rfl) rfl (sv (EV.mv rfl) rfl ?_)
 revert H; refine ifsI ?_ ?_ <;> intro c2 H
 ·
  subst c2
  refine ts 11 rfl rfl (sv (EV.mv rfl) rfl ?_)
  revert H; refine bdI ?_; rintro t3 A3 H
  refine so rfl (op_call (spec_AreValidRows.ok k l1 Al1 cl1 _ A3) [⟨0, 0, 0, false⟩] 1 rfl rfl rfl rfl rfl ?_)
  rintro _ _ _ ⟨rfl, rfl, rfl⟩
  refine sv (EV.nt rfl) rfl (sv (EV.pf rfl rfl rfl) rfl (sv (EV.mv rfl) rfl ?_))
  revert H; refine ifsI ?_ ?_ <;> intro c4 H
  ·
   subst c4
   refine ts 16 rfl rfl (sv (EV.mv rfl) rfl ?_)
   revert H; refine bdI ?_; rintro t5 A5 H
   refine so rfl (op_call (spec_AreValidRows.ok k l2 Al2 cl2 _ A5) [⟨1, 0, 0, false⟩] 1 rfl rfl rfl rfl rfl ?_)
   rintro _ _ _ ⟨rfl, rfl, rfl⟩
   refine sv (EV.nt rfl) rfl (sv (EV.pf rfl rfl rfl) rfl (re (pr [0, 1, 2, 6, 20] [0] [0, 1] rfl rfl rfl rfl ?_)))
   revert H; refine ifsI ?_ ?_ <;> intro c6 H
   ·
    subst c6
    refine gf rfl rfl (gk (gs ?_))
    revert H; refine ggI ?_; intro g7 H
    revert H; refine ggI ?_; intro g8 H
    revert H; refine ggI ?_; intro g9 H
    revert H; refine ggI ?_; intro g10 H
    refine dj (fun S => ∃ (A25_12 : Option Addr) (c25_12 : Nat) (A28_14 : Option Addr) (c28_14 : Nat) (A31_15 : Option Addr) (c31_15 : Nat), S = ⟨[(6, .pointer (some ⟨b6, 0, none⟩)), (7, .bool true)], [⟨b6, 44, [.int .i64 a0, .slice A25_12 l1.length c25_12, .slice A28_14 l2.length c28_14, .slice A31_15 (List.replicate (l1.length : Int).toNat false).length c31_15, .int .i64 0]⟩], [.sl 0 k70 Al1 cl1 l1 0 false, .sl 0 k70 Al2 cl2 l2 0 false, .sl 2 k70 A25_12 c25_12 l1 1 true, .sl 2 k70 A28_14 c28_14 l2 2 true, .sl 2 .bool A31_15 c31_15 (List.replicate (l1.length : Int).toNat false) 3 true]⟩) (fun S hS => ?_) (fun dj0 => ?_)
    ·
     obtain ⟨A25_12, c25_12, A28_14, c28_14, A31_15, c31_15, rfl⟩ := hS
     cases H
     exact rt Try.func90 rfl (.cell 0 (some 5) rfl rfl rfl (.tmp rfl .nil)) rfl [] [⟨2, 2, 1, true⟩, ⟨3, 2, 2, true⟩, ⟨4, 2, 3, true⟩] rfl rfl rfl rfl rfl ⟨_, _, _, _, _, _, rfl, rfl, rfl⟩
    ·
     refine dr [0] [0, 1] [11, 12] 13 rfl rfl rfl rfl (xv 0 [0] [0, 1] rfl (EV.mv rfl) rfl rfl rfl rfl (xv 2 [0] [0, 1] rfl (EV.mv rfl) rfl rfl rfl rfl (xv 5 [0] [0, 1] rfl (EV.mv rfl) rfl rfl rfl rfl (xv 7 [0] [0, 1] rfl (EV.mv rfl) rfl rfl rfl rfl (xv 8 [0] [0, 1] rfl (EV.ln rfl) rfl rfl rfl rfl ?_)))))
     refine dl 3 #[true, true, true, true, true, true, true, true, true, true, false, false, false] (fun S => ∃ (A25_12 : Option Addr) (c25_12 : Nat) (A28_14 : Option Addr) (c28_14 : Nat) (A31_15 : Option Addr) (c31_15 : Nat), S = ⟨[(6, .pointer (some ⟨b6, 0, none⟩)), (22, .int .i64 a0), (25, .slice A25_12 l1.length c25_12), (28, .slice A28_14 l2.length c28_14), (31, .slice A31_15 (List.replicate (l1.length : Int).toNat false).length c31_15)], [⟨b6, 44, [.int .i64 0, .slice none 0 0, .slice none 0 0, .slice none 0 0, .int .i64 0]⟩], [.sl 0 k70 Al1 cl1 l1 0 false, .sl 0 k70 Al2 cl2 l2 0 false, .sl 2 k70 A25_12 c25_12 l1 1 true, .sl 2 k70 A28_14 c28_14 l2 2 true, .sl 2 .bool A31_15 c31_15 (List.replicate (l1.length : Int).toNat false) 3 true]⟩) (fun S hS => ?_) (fun hn0 => ?_)
     ·
      obtain ⟨A25_12, c25_12, A28_14, c28_14, A31_15, c31_15, rfl⟩ := hS
      exact one1 10 rfl rfl (ov (EV.bd (v := .agg #[.int .i64 a0, .slice A25_12 l1.length c25_12, .slice A28_14 l2.length c28_14, .slice A31_15 (List.replicate (l1.length : Int).toNat false).length c31_15, .int .i64 0]) rfl (by kernel_rfl)) rfl (xs [0] [0, 1] rfl rfl rfl (one1 11 rfl rfl (op_st (cs' := [.int .i64 a0, .slice A25_12 l1.length c25_12, .slice A28_14 l2.length c28_14, .slice A31_15 (List.replicate (l1.length : Int).toNat false).length c31_15, .int .i64 0]) 0 rfl rfl rfl rfl rfl rfl (xn rfl (one1 12 rfl rfl (ov (EV.as rfl) rfl (xn rfl (xd (wk [6, 7] [0] [⟨0, 0, 0, false⟩, ⟨1, 0, 0, false⟩, ⟨2, 2, 1, true⟩, ⟨3, 2, 2, true⟩, ⟨4, 2, 3, true⟩] (dj0 _ ⟨A25_12, c25_12, A28_14, c28_14, A31_15, c31_15, rfl⟩)))))))))))
     refine dl 4 #[true, true, true, true, true, true, false, true, true, true, false, false, false] (fun S => ∃ (A25_12 : Option Addr) (c25_12 : Nat) (A26_13 : Option Addr) (c26_13 : Nat) (A31_16 : Option Addr) (c31_16 : Nat), S = ⟨[(6, .pointer (some ⟨b6, 0, none⟩)), (22, .int .i64 a0), (25, .slice A25_12 l1.length c25_12), (26, .slice A26_13 0 c26_13), (27, .slice Al2 l2.length cl2), (31, .slice A31_16 (List.replicate (l1.length : Int).toNat false).length c31_16)], [⟨b6, 44, [.int .i64 0, .slice none 0 0, .slice none 0 0, .slice none 0 0, .int .i64 0]⟩], [.sl 0 k70 Al1 cl1 l1 0 false, .sl 0 k70 Al2 cl2 l2 0 false, .sl 2 k70 A25_12 c25_12 l1 1 true, .sl 2 k70 A26_13 c26_13 [] 2 true, .sl 2 .bool A31_16 c31_16 (List.replicate (l1.length : Int).toNat false) 3 true]⟩) (fun S hS => ?_) (fun hn1 => ?_)
     ·
      obtain ⟨A25_12, c25_12, A26_13, c26_13, A31_16, c31_16, rfl⟩ := hS
      exact one1 6 rfl rfl (op_app (k := k70) (s := 3) (by_ := 24) 3 1 rfl rfl rfl rfl (ap0 g8 dq) (ap0n g8 dq) (.inl rfl) true (fun _ => .inl rfl) rfl rfl fun A28_11 c28_11 => (nmE (en := [.sl 0 k70 Al1 cl1 l1 0 false, .sl 0 k70 Al2 cl2 l2 0 false, .sl 2 k70 A25_12 c25_12 l1 1 true, .sl 2 .bool A31_16 c31_16 (List.replicate (l1.length : Int).toNat false) 3 true, .sl 2 k70 A28_11 c28_11 l2 2 true]) (by kernel_rfl) (xs [0] [0, 1] rfl rfl rfl (da (wk [6, 22, 25, 28, 31] [0] [⟨0, 0, 0, false⟩, ⟨1, 0, 0, false⟩, ⟨2, 2, 1, true⟩, ⟨4, 2, 2, true⟩, ⟨3, 2, 3, true⟩] (hn0 _ ⟨A25_12, c25_12, A28_11, c28_11, A31_16, c31_16, rfl⟩))))))
     refine dl 5 #[true, true, true, true, true, true, false, true, true, false, false, false, false] (fun S => ∃ (A25_12 : Option Addr) (c25_12 : Nat) (A26_13 : Option Addr) (c26_13 : Nat), S = ⟨[(6, .pointer (some ⟨b6, 0, none⟩)), (22, .int .i64 a0), (25, .slice A25_12 l1.length c25_12), (26, .slice A26_13 0 c26_13), (27, .slice Al2 l2.length cl2), (30, .int .i64 (l1.length : Int))], [⟨b6, 44, [.int .i64 0, .slice none 0 0, .slice none 0 0, .slice none 0 0, .int .i64 0]⟩], [.sl 0 k70 Al1 cl1 l1 0 false, .sl 0 k70 Al2 cl2 l2 0 false, .sl 2 k70 A25_12 c25_12 l1 1 true, .sl 2 k70 A26_13 c26_13 [] 2 true]⟩) (fun S hS => ?_) (fun hn2 => ?_)
     ·
      obtain ⟨A25_12, c25_12, A26_13, c26_13, rfl⟩ := hS
      refine one2 6 9 rfl rfl rfl rfl ?_ ?_
      ·
       exact op_app (k := k70) (s := 3) (by_ := 24) 3 1 rfl rfl rfl rfl (ap0 g8 dq) (ap0n g8 dq) (.inl rfl) true (fun _ => .inl rfl) rfl rfl fun A28_12 c28_12 => (nmE (en := [.sl 0 k70 Al1 cl1 l1 0 false, .sl 0 k70 Al2 cl2 l2 0 false, .sl 2 k70 A25_12 c25_12 l1 1 true, .sl 2 k70 A28_12 c28_12 l2 2 true]) (by kernel_rfl) (xs [0] [0, 1] rfl rfl rfl (one1 9 rfl rfl (op_mk (s := 1) (by_ := 1) .bool false 3 rfl rfl g9 (mk1 g10 dq) (mk2 g10 dq) mk42 rfl rfl dq rfl fun A31_13 c31_13 => (xs [0] [0, 1] rfl rfl rfl (da (wk [6, 22, 25, 28, 31] [0] [⟨0, 0, 0, false⟩, ⟨1, 0, 0, false⟩, ⟨2, 2, 1, true⟩, ⟨3, 2, 2, true⟩, ⟨4, 2, 3, true⟩] (hn0 _ ⟨A25_12, c25_12, A28_12, c28_12, A31_13, c31_13, rfl⟩))))))))
      ·
       exact op_mk (s := 1) (by_ := 1) .bool false 3 rfl rfl g9 (mk1 g10 dq) (mk2 g10 dq) mk42 rfl rfl dq rfl fun A31_14 c31_14 => (xs [0] [0, 1] rfl rfl rfl (da (wk [6, 22, 25, 26, 27, 31] [0] [⟨0, 0, 0, false⟩, ⟨1, 0, 0, false⟩, ⟨2, 2, 1, true⟩, ⟨3, 2, 2, true⟩, ⟨4, 2, 3, true⟩] (hn1 _ ⟨A25_12, c25_12, A26_13, c26_13, A31_14, c31_14, rfl⟩))))
     refine dl 5 #[true, true, true, true, false, true, false, true, true, true, false, false, false] (fun S => ∃ (A25_12 : Option Addr) (c25_12 : Nat) (A31_18 : Option Addr) (c31_18 : Nat), S = ⟨[(6, .pointer (some ⟨b6, 0, none⟩)), (22, .int .i64 a0), (25, .slice A25_12 l1.length c25_12), (27, .slice Al2 l2.length cl2), (31, .slice A31_18 (List.replicate (l1.length : Int).toNat false).length c31_18)], [⟨b6, 44, [.int .i64 0, .slice none 0 0, .slice none 0 0, .slice none 0 0, .int .i64 0]⟩], [.sl 0 k70 Al1 cl1 l1 0 false, .sl 0 k70 Al2 cl2 l2 0 false, .sl 2 k70 A25_12 c25_12 l1 1 true, .sl 2 .bool A31_18 c31_18 (List.replicate (l1.length : Int).toNat false) 2 true]⟩) (fun S hS => ?_) (fun hn3 => ?_)
     ·
      obtain ⟨A25_12, c25_12, A31_18, c31_18, rfl⟩ := hS
      exact one1 4 rfl rfl (op_lit (s := 3) (by_ := 24) k70 ([] : List S70) [] [] 3 [] rfl rfl rfl rfl rfl rfl rfl rfl rfl rfl rfl rfl rfl dq rfl fun A26_15 c26_15 => (xs [0] [0, 1] rfl rfl rfl (da (wk [6, 22, 25, 26, 27, 31] [0] [⟨0, 0, 0, false⟩, ⟨1, 0, 0, false⟩, ⟨2, 2, 1, true⟩, ⟨4, 2, 2, true⟩, ⟨3, 2, 3, true⟩] (hn1 _ ⟨A25_12, c25_12, A26_15, c26_15, A31_18, c31_18, rfl⟩)))))
     refine dl 5 #[true, true, true, false, true, true, false, true, true, true, false, false, false] (fun S => ∃ (A23_11 : Option Addr) (c23_11 : Nat) (A26_20 : Option Addr) (c26_20 : Nat) (A31_22 : Option Addr) (c31_22 : Nat), S = ⟨[(6, .pointer (some ⟨b6, 0, none⟩)), (22, .int .i64 a0), (23, .slice A23_11 0 c23_11), (24, .slice Al1 l1.length cl1), (26, .slice A26_20 0 c26_20), (27, .slice Al2 l2.length cl2), (31, .slice A31_22 (List.replicate (l1.length : Int).toNat false).length c31_22)], [⟨b6, 44, [.int .i64 0, .slice none 0 0, .slice none 0 0, .slice none 0 0, .int .i64 0]⟩], [.sl 0 k70 Al1 cl1 l1 0 false, .sl 0 k70 Al2 cl2 l2 0 false, .sl 2 k70 A23_11 c23_11 [] 1 true, .sl 2 k70 A26_20 c26_20 [] 2 true, .sl 2 .bool A31_22 c31_22 (List.replicate (l1.length : Int).toNat false) 3 true]⟩) (fun S hS => ?_) (fun hn4 => ?_)
     ·
      obtain ⟨A23_11, c23_11, A26_20, c26_20, A31_22, c31_22, rfl⟩ := hS
      exact one1 3 rfl rfl (op_app (k := k70) (s := 3) (by_ := 24) 2 0 rfl rfl rfl rfl (ap0 g7 dq) (ap0n g7 dq) (.inl rfl) true (fun _ => .inl rfl) rfl rfl fun A25_16 c25_16 => (nmE (en := [.sl 0 k70 Al1 cl1 l1 0 false, .sl 0 k70 Al2 cl2 l2 0 false, .sl 2 k70 A26_20 c26_20 [] 2 true, .sl 2 .bool A31_22 c31_22 (List.replicate (l1.length : Int).toNat false) 3 true, .sl 2 k70 A25_16 c25_16 l1 1 true]) (by kernel_rfl) (xs [0] [0, 1] rfl rfl rfl (da (wk [6, 22, 25, 26, 27, 31] [0] [⟨0, 0, 0, false⟩, ⟨1, 0, 0, false⟩, ⟨4, 2, 1, true⟩, ⟨2, 2, 2, true⟩, ⟨3, 2, 3, true⟩] (hn1 _ ⟨A25_16, c25_16, A26_20, c26_20, A31_22, c31_22, rfl⟩))))))
     refine dl 6 #[true, true, true, false, true, true, false, true, true, false, false, false, false] (fun S => ∃ (A23_11 : Option Addr) (c23_11 : Nat) (A26_20 : Option Addr) (c26_20 : Nat), S = ⟨[(6, .pointer (some ⟨b6, 0, none⟩)), (22, .int .i64 a0), (23, .slice A23_11 0 c23_11), (24, .slice Al1 l1.length cl1), (26, .slice A26_20 0 c26_20), (27, .slice Al2 l2.length cl2), (30, .int .i64 (l1.length : Int))], [⟨b6, 44, [.int .i64 0, .slice none 0 0, .slice none 0 0, .slice none 0 0, .int .i64 0]⟩], [.sl 0 k70 Al1 cl1 l1 0 false, .sl 0 k70 Al2 cl2 l2 0 false, .sl 2 k70 A23_11 c23_11 [] 1 true, .sl 2 k70 A26_20 c26_20 [] 2 true]⟩) (fun S hS => ?_) (fun hn5 => ?_)
     ·
      obtain ⟨A23_11, c23_11, A26_20, c26_20, rfl⟩ := hS
      refine one2 3 9 rfl rfl rfl rfl ?_ ?_
      ·
       exact op_app (k := k70) (s := 3) (by_ := 24) 2 0 rfl rfl rfl rfl (ap0 g7 dq) (ap0n g7 dq) (.inl rfl) true (fun _ => .inl rfl) rfl rfl fun A25_17 c25_17 => (nmE (en := [.sl 0 k70 Al1 cl1 l1 0 false, .sl 0 k70 Al2 cl2 l2 0 false, .sl 2 k70 A26_20 c26_20 [] 2 true, .sl 2 k70 A25_17 c25_17 l1 1 true]) (by kernel_rfl) (xs [0] [0, 1] rfl rfl rfl (da (wk [6, 22, 25, 26, 27, 30] [0] [⟨0, 0, 0, false⟩, ⟨1, 0, 0, false⟩, ⟨3, 2, 1, true⟩, ⟨2, 2, 2, true⟩] (hn2 _ ⟨A25_17, c25_17, A26_20, c26_20, rfl⟩)))))
      ·
       exact op_mk (s := 1) (by_ := 1) .bool false 3 rfl rfl g9 (mk1 g10 dq) (mk2 g10 dq) mk42 rfl rfl dq rfl fun A31_18 c31_18 => (xs [0] [0, 1] rfl rfl rfl (da (wk [6, 22, 23, 24, 26, 27, 31] [0] [⟨0, 0, 0, false⟩, ⟨1, 0, 0, false⟩, ⟨2, 2, 1, true⟩, ⟨3, 2, 2, true⟩, ⟨4, 2, 3, true⟩] (hn4 _ ⟨A23_11, c23_11, A26_20, c26_20, A31_18, c31_18, rfl⟩))))
     refine dl 6 #[true, true, true, false, false, true, false, true, true, true, false, false, false] (fun S => ∃ (A23_11 : Option Addr) (c23_11 : Nat) (A31_24 : Option Addr) (c31_24 : Nat), S = ⟨[(6, .pointer (some ⟨b6, 0, none⟩)), (22, .int .i64 a0), (23, .slice A23_11 0 c23_11), (24, .slice Al1 l1.length cl1), (27, .slice Al2 l2.length cl2), (31, .slice A31_24 (List.replicate (l1.length : Int).toNat false).length c31_24)], [⟨b6, 44, [.int .i64 0, .slice none 0 0, .slice none 0 0, .slice none 0 0, .int .i64 0]⟩], [.sl 0 k70 Al1 cl1 l1 0 false, .sl 0 k70 Al2 cl2 l2 0 false, .sl 2 k70 A23_11 c23_11 [] 1 true, .sl 2 .bool A31_24 c31_24 (List.replicate (l1.length : Int).toNat false) 2 true]⟩) (fun S hS => ?_) (fun hn6 => ?_)
     ·
      obtain ⟨A23_11, c23_11, A31_24, c31_24, rfl⟩ := hS
      refine one2 3 4 rfl rfl rfl rfl ?_ ?_
      ·
       exact op_app (k := k70) (s := 3) (by_ := 24) 2 0 rfl rfl rfl rfl (ap0 g7 dq) (ap0n g7 dq) (.inl rfl) true (fun _ => .inl rfl) rfl rfl fun A25_19 c25_19 => (nmE (en := [.sl 0 k70 Al1 cl1 l1 0 false, .sl 0 k70 Al2 cl2 l2 0 false, .sl 2 .bool A31_24 c31_24 (List.replicate (l1.length : Int).toNat false) 2 true, .sl 2 k70 A25_19 c25_19 l1 1 true]) (by kernel_rfl) (xs [0] [0, 1] rfl rfl rfl (da (wk [6, 22, 25, 27, 31] [0] [⟨0, 0, 0, false⟩, ⟨1, 0, 0, false⟩, ⟨3, 2, 1, true⟩, ⟨2, 2, 2, true⟩] (hn3 _ ⟨A25_19, c25_19, A31_24, c31_24, rfl⟩)))))
      ·
       exact op_lit (s := 3) (by_ := 24) k70 ([] : List S70) [] [] 3 [] rfl rfl rfl rfl rfl rfl rfl rfl rfl rfl rfl rfl rfl dq rfl fun A26_20 c26_20 => (xs [0] [0, 1] rfl rfl rfl (da (wk [6, 22, 23, 24, 26, 27, 31] [0] [⟨0, 0, 0, false⟩, ⟨1, 0, 0, false⟩, ⟨2, 2, 1, true⟩, ⟨4, 2, 2, true⟩, ⟨3, 2, 3, true⟩] (hn4 _ ⟨A23_11, c23_11, A26_20, c26_20, A31_24, c31_24, rfl⟩))))
     refine dl 6 #[true, false, true, false, true, true, false, true, true, true, false, false, false] (fun S => ∃ (A26_27 : Option Addr) (c26_27 : Nat) (A31_29 : Option Addr) (c31_29 : Nat), S = ⟨[(6, .pointer (some ⟨b6, 0, none⟩)), (22, .int .i64 a0), (24, .slice Al1 l1.length cl1), (26, .slice A26_27 0 c26_27), (27, .slice Al2 l2.length cl2), (31, .slice A31_29 (List.replicate (l1.length : Int).toNat false).length c31_29)], [⟨b6, 44, [.int .i64 0, .slice none 0 0, .slice none 0 0, .slice none 0 0, .int .i64 0]⟩], [.sl 0 k70 Al1 cl1 l1 0 false, .sl 0 k70 Al2 cl2 l2 0 false, .sl 2 k70 A26_27 c26_27 [] 1 true, .sl 2 .bool A31_29 c31_29 (List.replicate (l1.length : Int).toNat false) 2 true]⟩) (fun S hS => ?_) (fun hn7 => ?_)
     ·
      obtain ⟨A26_27, c26_27, A31_29, c31_29, rfl⟩ := hS
      exact one1 1 rfl rfl (op_lit (s := 3) (by_ := 24) k70 ([] : List S70) [] [] 3 [] rfl rfl rfl rfl rfl rfl rfl rfl rfl rfl rfl rfl rfl dq rfl fun A23_21 c23_21 => (xs [0] [0, 1] rfl rfl rfl (da (wk [6, 22, 23, 24, 26, 27, 31] [0] [⟨0, 0, 0, false⟩, ⟨1, 0, 0, false⟩, ⟨4, 2, 1, true⟩, ⟨2, 2, 2, true⟩, ⟨3, 2, 3, true⟩] (hn4 _ ⟨A23_21, c23_21, A26_27, c26_27, A31_29, c31_29, rfl⟩)))))
     refine one3 1 4 9 rfl rfl rfl rfl rfl rfl ?_ ?_ ?_
     ·
      refine op_lit (s := 3) (by_ := 24) k70 ([] : List S70) [] [] 1 [] rfl rfl rfl rfl rfl rfl rfl rfl rfl rfl rfl rfl rfl dq rfl fun A23_22 c23_22 => (xs [0] [0, 1] rfl rfl rfl ?_)
      refine one3 3 4 9 rfl rfl rfl rfl rfl rfl ?_ ?_ ?_
      ·
       refine op_app (k := k70) (s := 3) (by_ := 24) 2 0 rfl rfl rfl rfl (ap0 g7 dq) (ap0n g7 dq) (.inl rfl) true (fun _ => .inl rfl) rfl rfl fun A25_23 c25_23 => (nmE (en := [.sl 0 k70 Al1 cl1 l1 0 false, .sl 0 k70 Al2 cl2 l2 0 false, .sl 2 k70 A25_23 c25_23 l1 1 true]) (by kernel_rfl) (xs [0] [0, 1] rfl rfl rfl ?_))
       refine one2 4 9 rfl rfl rfl rfl ?_ ?_
       ·
        exact op_lit (s := 3) (by_ := 24) k70 ([] : List S70) [] [] 2 [] rfl rfl rfl rfl rfl rfl rfl rfl rfl rfl rfl rfl rfl dq rfl fun A26_24 c26_24 => (xs [0] [0, 1] rfl rfl rfl (da (wk [6, 22, 25, 26, 27, 30] [0] [⟨0, 0, 0, false⟩, ⟨1, 0, 0, false⟩, ⟨2, 2, 1, true⟩, ⟨3, 2, 2, true⟩] (hn2 _ ⟨A25_23, c25_23, A26_24, c26_24, rfl⟩))))
       ·
        exact op_mk (s := 1) (by_ := 1) .bool false 2 rfl rfl g9 (mk1 g10 dq) (mk2 g10 dq) mk42 rfl rfl dq rfl fun A31_25 c31_25 => (xs [0] [0, 1] rfl rfl rfl (da (wk [6, 22, 25, 27, 31] [0] [⟨0, 0, 0, false⟩, ⟨1, 0, 0, false⟩, ⟨2, 2, 1, true⟩, ⟨3, 2, 2, true⟩] (hn3 _ ⟨A25_23, c25_23, A31_25, c31_25, rfl⟩))))
      ·
       exact op_lit (s := 3) (by_ := 24) k70 ([] : List S70) [] [] 2 [] rfl rfl rfl rfl rfl rfl rfl rfl rfl rfl rfl rfl rfl dq rfl fun A26_26 c26_26 => (xs [0] [0, 1] rfl rfl rfl (da (wk [6, 22, 23, 24, 26, 27, 30] [0] [⟨0, 0, 0, false⟩, ⟨1, 0, 0, false⟩, ⟨2, 2, 1, true⟩, ⟨3, 2, 2, true⟩] (hn5 _ ⟨A23_22, c23_22, A26_26, c26_26, rfl⟩))))
      ·
       exact op_mk (s := 1) (by_ := 1) .bool false 2 rfl rfl g9 (mk1 g10 dq) (mk2 g10 dq) mk42 rfl rfl dq rfl fun A31_27 c31_27 => (xs [0] [0, 1] rfl rfl rfl (da (wk [6, 22, 23, 24, 27, 31] [0] [⟨0, 0, 0, false⟩, ⟨1, 0, 0, false⟩, ⟨2, 2, 1, true⟩, ⟨3, 2, 2, true⟩] (hn6 _ ⟨A23_22, c23_22, A31_27, c31_27, rfl⟩))))
     ·
      refine op_lit (s := 3) (by_ := 24) k70 ([] : List S70) [] [] 1 [] rfl rfl rfl rfl rfl rfl rfl rfl rfl rfl rfl rfl rfl dq rfl fun A26_28 c26_28 => (xs [0] [0, 1] rfl rfl rfl ?_)
      refine one2 1 9 rfl rfl rfl rfl ?_ ?_
      ·
       exact op_lit (s := 3) (by_ := 24) k70 ([] : List S70) [] [] 2 [] rfl rfl rfl rfl rfl rfl rfl rfl rfl rfl rfl rfl rfl dq rfl fun A23_29 c23_29 => (xs [0] [0, 1] rfl rfl rfl (da (wk [6, 22, 23, 24, 26, 27, 30] [0] [⟨0, 0, 0, false⟩, ⟨1, 0, 0, false⟩, ⟨3, 2, 1, true⟩, ⟨2, 2, 2, true⟩] (hn5 _ ⟨A23_29, c23_29, A26_28, c26_28, rfl⟩))))
      ·
       exact op_mk (s := 1) (by_ := 1) .bool false 2 rfl rfl g9 (mk1 g10 dq) (mk2 g10 dq) mk42 rfl rfl dq rfl fun A31_30 c31_30 => (xs [0] [0, 1] rfl rfl rfl (da (wk [6, 22, 24, 26, 27, 31] [0] [⟨0, 0, 0, false⟩, ⟨1, 0, 0, false⟩, ⟨2, 2, 1, true⟩, ⟨3, 2, 2, true⟩] (hn7 _ ⟨A26_28, c26_28, A31_30, c31_30, rfl⟩))))
     ·
      refine op_mk (s := 1) (by_ := 1) .bool false 1 rfl rfl g9 (mk1 g10 dq) (mk2 g10 dq) mk42 rfl rfl dq rfl fun A31_31 c31_31 => (xs [0] [0, 1] rfl rfl rfl ?_)
      refine one2 1 4 rfl rfl rfl rfl ?_ ?_
      ·
       exact op_lit (s := 3) (by_ := 24) k70 ([] : List S70) [] [] 2 [] rfl rfl rfl rfl rfl rfl rfl rfl rfl rfl rfl rfl rfl dq rfl fun A23_32 c23_32 => (xs [0] [0, 1] rfl rfl rfl (da (wk [6, 22, 23, 24, 27, 31] [0] [⟨0, 0, 0, false⟩, ⟨1, 0, 0, false⟩, ⟨3, 2, 1, true⟩, ⟨2, 2, 2, true⟩] (hn6 _ ⟨A23_32, c23_32, A31_31, c31_31, rfl⟩))))
      ·
       exact op_lit (s := 3) (by_ := 24) k70 ([] : List S70) [] [] 2 [] rfl rfl rfl rfl rfl rfl rfl rfl rfl rfl rfl rfl rfl dq rfl fun A26_33 c26_33 => (xs [0] [0, 1] rfl rfl rfl (da (wk [6, 22, 24, 26, 27, 31] [0] [⟨0, 0, 0, false⟩, ⟨1, 0, 0, false⟩, ⟨3, 2, 1, true⟩, ⟨2, 2, 2, true⟩] (hn7 _ ⟨A26_33, c26_33, A31_31, c31_31, rfl⟩))))
   ·
    obtain rfl := bF c6
    refine gt rfl rfl (gs (rg (sv (EV.bd (v := .agg #[.int .i64 0, .slice none 0 0, .slice none 0 0, .slice none 0 0, .int .i64 0]) rfl (by kernel_rfl)) rfl (so rfl (op_st (cs' := [.int .i64 0, .slice none 0 0, .slice none 0 0, .slice none 0 0, .int .i64 0]) 0 rfl rfl rfl rfl rfl rfl (sv (EV.as rfl) rfl (re (nil_ k70 1 dq (nil_ k70 2 dq (nil_ .bool 3 dq ?_))))))))))
    cases H
    exact rt Try.func90 rfl (.cell 0 (some 5) rfl rfl rfl (.tmp rfl .nil)) rfl [] [⟨2, 2, 1, true⟩, ⟨3, 2, 2, true⟩, ⟨4, 2, 3, true⟩] rfl rfl rfl rfl rfl ⟨_, _, _, _, _, _, rfl, rfl, rfl⟩
  ·
   obtain rfl := bF c4
   refine ts 16 rfl rfl (sk rfl (sk rfl (sk rfl (sv (EV.pt rfl rfl rfl) rfl (re (pr [0, 1, 2, 6, 20] [0] [0, 1] rfl rfl rfl rfl (gt rfl rfl (gs (rg (sv (EV.bd (v := .agg #[.int .i64 0, .slice none 0 0, .slice none 0 0, .slice none 0 0, .int .i64 0]) rfl (by kernel_rfl)) rfl (so rfl (op_st (cs' := [.int .i64 0, .slice none 0 0, .slice none 0 0, .slice none 0 0, .int .i64 0]) 0 rfl rfl rfl rfl rfl rfl (sv (EV.as rfl) rfl (re (nil_ k70 1 dq (nil_ k70 2 dq (nil_ .bool 3 dq ?_)))))))))))))))))
   cases H
   exact rt Try.func90 rfl (.cell 0 (some 5) rfl rfl rfl (.tmp rfl .nil)) rfl [] [⟨2, 2, 1, true⟩, ⟨3, 2, 2, true⟩, ⟨4, 2, 3, true⟩] rfl rfl rfl rfl rfl ⟨_, _, _, _, _, _, rfl, rfl, rfl⟩
 ·
  obtain rfl := bF c2
  refine ts 11 rfl rfl (sk rfl (sk rfl (sk rfl (sv (EV.pt rfl rfl rfl) rfl (sv (EV.mv rfl) rfl (sk rfl (sk rfl (sk rfl (sv (EV.pt rfl rfl rfl) rfl (re (pr [0, 1, 2, 6, 20] [0] [0, 1] rfl rfl rfl rfl (gt rfl rfl (gs (rg (sv (EV.bd (v := .agg #[.int .i64 0, .slice none 0 0, .slice none 0 0, .slice none 0 0, .int .i64 0]) rfl (by kernel_rfl)) rfl (so rfl (op_st (cs' := [.int .i64 0, .slice none 0 0, .slice none 0 0, .slice none 0 0, .int .i64 0]) 0 rfl rfl rfl rfl rfl rfl (sv (EV.as rfl) rfl (re (nil_ k70 1 dq (nil_ k70 2 dq (nil_ .bool 3 dq ?_))))))))))))))))))))))
  cases H
  exact rt Try.func90 rfl (.cell 0 (some 5) rfl rfl rfl (.tmp rfl .nil)) rfl [] [⟨2, 2, 1, true⟩, ⟨3, 2, 2, true⟩, ⟨4, 2, 3, true⟩] rfl rfl rfl rfl rfl ⟨_, _, _, _, _, _, rfl, rfl, rfl⟩
end Go.Proofs.Ytajjeemkdjfilaa.K
namespace Go.Proofs.Ytajjeemkdjfilaa.K
open Go Go.RowKit
set_option linter.unusedVariables false
set_option linter.unusedSimpArgs false
def spec_NewJoiner.f (k : Nat) (a0 : Int) (l1 : List S70) (l2 : List S70) : Option ((List S44) × Int × Int × Bool) := (spec_NewTask.f k a0 l1 l2).bind fun bt1 => (if bt1.2.2.2.2.2 = true then (some (([(⟨bt1.1, bt1.2.1, bt1.2.2.1, bt1.2.2.2.1, bt1.2.2.2.2.1⟩ : S44)] : List S44), 0, 0, true)) else (some ([], 0, 0, false)))
set_option maxHeartbeats 4000000 in
set_option maxRecDepth 100000 in
theorem spec_NewJoiner.ok (k : Nat) (a0 : Int) (l1 : List S70) (Al1 : Option Addr) (cl1 : Nat) (l2 : List S70) (Al2 : Option Addr) (cl2 : Nat) (r0 : List S44) (r1 : Int) (r2 : Int) (r3 : Bool) (H : spec_NewJoiner.f k a0 l1 l2 = some (r0, r1, r2, r3)) : Fn Try.prog 68 [.int .i64 a0, .slice Al1 l1.length cl1, .slice Al2 l2.length cl2] [] [.sl 0 k70 Al1 cl1 l1 0 false, .sl 0 k70 Al2 cl2 l2 0 false] (fun v bx en => ∃ A0 c0, v = .tuple #[.agg #[.slice A0 r0.length c0, .int .i64 r1, .int .i64 r2], .bool r3] ∧ bx = [] ∧ en = [.sl 2 k44 A0 c0 r0 1 true]) := by
 refine fn_ 23 Try.func68 rfl rfl rfl (fun base T w0 => ?_)
 rw [spec_NewJoiner.f] at H
 refine gs (rg (so rfl (op_alloc (cs := [.slice none 0 0, .int .i64 0, .int .i64 0]) (by kernel_rfl) rfl fun b6 => (sv (EV.as rfl) rfl (re (gs (rg (sv (EV.mv rfl) rfl (sv (EV.mv rfl) rfl (sv (EV.mv rfl) rfl ?_))))))))))
 revert H; refine bdI ?_; rintro ⟨t1_0, t1_1, t1_2, t1_3, t1_4, t1_5⟩ A1 H
 refine so rfl (op_call (spec_NewTask.ok k a0 l1 Al1 cl1 l2 Al2 cl2 _ _ _ _ _ _ A1) [⟨0, 0, 0, false⟩, ⟨1, 0, 0, false⟩] 1 rfl rfl rfl rfl rfl ?_)
 rintro _ _ _ ⟨At1_1, ct1_1, At1_2, ct1_2, At1_3, ct1_3, rfl, rfl, rfl⟩
 refine sv (EV.mv rfl) rfl (sv (EV.ex rfl rfl) rfl (sv (EV.ex rfl rfl) rfl (so rfl (op_alloc (cs := [.int .i64 0, .slice none 0 0, .slice none 0 0, .slice none 0 0, .int .i64 0]) (by kernel_rfl) rfl fun b8 => (so rfl (op_st (cs' := [.int .i64 t1_0, .slice At1_1 t1_1.length ct1_1, .slice At1_2 t1_2.length ct1_2, .slice At1_3 t1_3.length ct1_3, .int .i64 t1_4]) 1 rfl rfl rfl rfl rfl rfl (sv (EV.as rfl) rfl (re (pr [6, 8, 9] [0, 1] [2, 3, 4] rfl rfl rfl rfl (gs (gs (rg (sv (EV.mv rfl) rfl (sv (EV.nt rfl) rfl (re ?_)))))))))))))))
 revert H; refine ifsI ?_ ?_ <;> intro c2 H
 ·
  subst c2
  refine gf rfl rfl (gk (gs (rg (sv (EV.ld (v := .agg #[.int .i64 t1_0, .slice At1_1 t1_1.length ct1_1, .slice At1_2 t1_2.length ct1_2, .slice At1_3 t1_3.length ct1_3, .int .i64 t1_4]) 1 (some 5) rfl rfl rfl) rfl (so rfl (op_lit (s := 5) (by_ := 88) k44 ([(⟨t1_0, t1_1, t1_2, t1_3, t1_4⟩ : S44)] : List S44) [[(At1_1, ct1_1), (At1_2, ct1_2), (At1_3, ct1_3)]] [0, 1, 2] 5 [.tmp 20] rfl rfl rfl rfl rfl rfl rfl rfl rfl rfl rfl rfl rfl dq rfl fun A21_3 c21_3 => (nmE (en := [.sl 2 k70 At1_1 ct1_1 t1_1 5 true, .sl 2 k70 At1_2 ct1_2 t1_2 5 true, .sl 2 .bool At1_3 ct1_3 t1_3 5 true, .sl 2 k44 A21_3 c21_3 ([(⟨t1_0, t1_1, t1_2, t1_3, t1_4⟩ : S44)] : List S44) 5 true]) (by kernel_rfl) (sv (EV.bd (v := .agg #[.slice A21_3 ([(⟨t1_0, t1_1, t1_2, t1_3, t1_4⟩ : S44)] : List S44).length c21_3, .int .i64 0, .int .i64 0]) rfl (by kernel_rfl)) rfl (so rfl (op_st (cs' := [.slice A21_3 ([(⟨t1_0, t1_1, t1_2, t1_3, t1_4⟩ : S44)] : List S44).length c21_3, .int .i64 0, .int .i64 0]) 0 rfl rfl rfl rfl rfl rfl (sv (EV.as rfl) rfl (re (pr [6, 7] [0] [3] rfl rfl rfl rfl ?_)))))))))))))
  cases H
  exact rt Try.func68 rfl (.cell 0 (some 3) rfl rfl rfl (.tmp rfl .nil)) rfl [] [⟨0, 2, 1, true⟩] rfl rfl rfl rfl rfl ⟨_, _, rfl, rfl, rfl⟩
 ·
  obtain rfl := bF c2
  refine gt rfl rfl (gs (rg (sv (EV.bd (v := .agg #[.slice none 0 0, .int .i64 0, .int .i64 0]) rfl (by kernel_rfl)) rfl (so rfl (op_st (cs' := [.slice none 0 0, .int .i64 0, .int .i64 0]) 0 rfl rfl rfl rfl rfl rfl (sv (EV.as rfl) rfl (re (nil_ k44 5 dq ?_))))))))
  cases H
  exact rt Try.func68 rfl (.cell 0 (some 3) rfl rfl rfl (.tmp rfl .nil)) rfl [] [⟨3, 2, 1, true⟩] rfl rfl rfl rfl rfl ⟨_, _, rfl, rfl, rfl⟩
end Go.Proofs.Ytajjeemkdjfilaa.K
namespace Go.Proofs.Ytajjeemkdjfilaa.K
open Go Go.RowKit
set_option linter.unusedVariables false
set_option linter.unusedSimpArgs false
def spec_l1PickInt.f (l0_0 : List Int) (a0_1 : Int) (a0_2 : Int) (l1 : List Int) : Option (Int × Int × Int) := (spec_l1Below.f l0_0 a0_1 a0_2 (l1.length : Int)).bind fun bt1 => (if 0 ≤ bt1.1 then (if bt1.1 < (l1.length : Int) then (some (rdOf 0 l1 bt1.1, bt1.2.1, bt1.2.2)) else none) else none)
set_option maxHeartbeats 4000000 in
set_option maxRecDepth 100000 in
theorem spec_l1PickInt.ok (b1000 : Nat) (l0_0 : List Int) (Al0_0 : Option Addr) (cl0_0 : Nat) (a0_1 : Int) (a0_2 : Int) (l1 : List Int) (Al1 : Option Addr) (cl1 : Nat) (r0 : Int) (r1 : Int) (r2 : Int) (H : spec_l1PickInt.f l0_0 a0_1 a0_2 l1 = some (r0, r1, r2)) : Fn Try.prog 84 [.pointer (some ⟨b1000, 0, none⟩), .slice Al1 l1.length cl1] [⟨b1000, 111, [.slice Al0_0 l0_0.length cl0_0, .int .i64 a0_1, .int .i64 a0_2]⟩] [.sl 0 (.int .u8) Al0_0 cl0_0 l0_0 0 false, .sl 0 (.int .i64) Al1 cl1 l1 0 false] (fun v bx en => v = .int .i64 r0 ∧ bx = [⟨b1000, 111, [.slice Al0_0 l0_0.length cl0_0, .int .i64 r1, .int .i64 r2]⟩] ∧ en = []) := by
 refine fn_ 12 Try.func84 rfl rfl rfl (fun base T w0 => ?_)
 rw [spec_l1PickInt.f] at H
 refine gs (rg (sv (EV.as rfl) rfl (re (gs (rg (sv (EV.mv rfl) rfl (sv (EV.mv rfl) rfl (sv (EV.mv rfl) rfl (sv (EV.ln rfl) rfl ?_)))))))))
 revert H; refine bdI ?_; rintro ⟨t1_0, t1_1, t1_2⟩ A1 H
 refine so rfl (op_callM (spec_l1Below.ok b1000 l0_0 Al0_0 cl0_0 a0_1 a0_2 (l1.length : Int) _ _ _ A1) [⟨0, 0, 0, false⟩] [0] [] 1 rfl rfl rfl rfl rfl rfl rfl rfl ?_)
 rintro _ _ _ ⟨rfl, rfl, rfl⟩
 refine nmE (en := [.sl 0 (.int .u8) Al0_0 cl0_0 l0_0 0 false, .sl 0 (.int .i64) Al1 cl1 l1 0 false]) (by kernel_rfl) ?_
 revert H; refine ggI ?_; intro g2 H
 revert H; refine ggI ?_; intro g3 H
 refine sv (EV.ix 1 rfl rfl rfl g2 g3 rfl) rfl (sv (EV.le (v := .int .i64 (rdOf 0 l1 t1_0)) t1_0 0 none 1 0 rfl rfl rfl g2 g3 rfl rfl rfl) rfl (sv (EV.as rfl) rfl (re (pr [4] [0] [0] rfl rfl rfl rfl ?_))))
 cases H
 exact rt Try.func84 rfl (.tmp rfl .nil) rfl [0] [] rfl rfl rfl rfl rfl ⟨rfl, rfl, rfl⟩
end Go.Proofs.Ytajjeemkdjfilaa.K
namespace Go.Proofs.Ytajjeemkdjfilaa.K
open Go Go.RowKit
set_option linter.unusedVariables false
set_option linter.unusedSimpArgs false
def spec_l2Row.f (l0_0 : List Int) (a0_1 : Int) (a0_2 : Int) (a1 : Int) : Option (Int × Int × Int × Int × Int) := (spec_l1Below.f l0_0 a0_1 a0_2 a1).bind fun bt1 => ((spec_l1Below.f l0_0 bt1.2.1 bt1.2.2 100).bind fun bt2 => ((spec_l1PickInt.f l0_0 bt2.2.1 bt2.2.2 ([0, 0, 1, 2, 3] : List Int)).bind fun bt4 => (some (bt1.1, bt2.1, bt4.1, bt4.2.1, bt4.2.2))))
set_option maxHeartbeats 4000000 in
set_option maxRecDepth 100000 in
theorem spec_l2Row.ok (b1000 : Nat) (l0_0 : List Int) (Al0_0 : Option Addr) (cl0_0 : Nat) (a0_1 : Int) (a0_2 : Int) (a1 : Int) (r0 : Int) (r1 : Int) (r2 : Int) (r3 : Int) (r4 : Int) (H : spec_l2Row.f l0_0 a0_1 a0_2 a1 = some (r0, r1, r2, r3, r4)) : Fn Try.prog 111 [.pointer (some ⟨b1000, 0, none⟩), .int .i64 a1] [⟨b1000, 111, [.slice Al0_0 l0_0.length cl0_0, .int .i64 a0_1, .int .i64 a0_2]⟩] [.sl 0 (.int .u8) Al0_0 cl0_0 l0_0 0 false] (fun v bx en => v = .agg #[.int .i64 r0, .int .i64 r1, .int .i64 r2] ∧ bx = [⟨b1000, 111, [.slice Al0_0 l0_0.length cl0_0, .int .i64 r3, .int .i64 r4]⟩] ∧ en = []) := by
 refine fn_ 14 Try.func111 rfl rfl rfl (fun base T w0 => ?_)
 rw [spec_l2Row.f] at H
 refine gs (rg (so rfl (op_alloc (cs := [.int .i64 0, .int .i64 0, .int .i64 0]) (by kernel_rfl) rfl fun b4 => (re (gs (rg (sv (EV.mv rfl) rfl (sv (EV.mv rfl) rfl ?_))))))))
 revert H; refine bdI ?_; rintro ⟨t1_0, t1_1, t1_2⟩ A1 H
 refine so rfl (op_callM (spec_l1Below.ok b1000 l0_0 Al0_0 cl0_0 a0_1 a0_2 a1 _ _ _ A1) [⟨0, 0, 0, false⟩] [0] [1] 1 rfl rfl rfl rfl rfl rfl rfl rfl ?_)
 rintro _ _ _ ⟨rfl, rfl, rfl⟩
 refine nmE (en := [.sl 0 (.int .u8) Al0_0 cl0_0 l0_0 0 false]) (by kernel_rfl) (sv (EV.mv rfl) rfl ?_)
 revert H; refine bdI ?_; rintro ⟨t2_0, t2_1, t2_2⟩ A2 H
 refine so rfl (op_callM (spec_l1Below.ok b1000 l0_0 Al0_0 cl0_0 t1_1 t1_2 100 _ _ _ A2) [⟨0, 0, 0, false⟩] [1] [0] 1 rfl rfl rfl rfl rfl rfl rfl rfl ?_)
 rintro _ _ _ ⟨rfl, rfl, rfl⟩
 refine nmE (en := [.sl 0 (.int .u8) Al0_0 cl0_0 l0_0 0 false]) (by kernel_rfl) (sv (EV.mv rfl) rfl (so rfl (op_lit (s := 1) (by_ := 8) (.int .i64) ([0, 0, 1, 2, 3] : List Int) [[], [], [], [], []] [] 1 [.const (.int .i64 0), .const (.int .i64 0), .const (.int .i64 1), .const (.int .i64 2), .const (.int .i64 3)] rfl rfl rfl rfl rfl rfl rfl rfl rfl rfl rfl rfl rfl dq rfl fun A11_3 c11_3 => ?_)))
 revert H; refine bdI ?_; rintro ⟨t4_0, t4_1, t4_2⟩ A4 H
 refine so rfl (op_callM (spec_l1PickInt.ok b1000 l0_0 Al0_0 cl0_0 t2_1 t2_2 ([0, 0, 1, 2, 3] : List Int) A11_3 c11_3 _ _ _ A4) [⟨0, 0, 0, false⟩, ⟨1, 0, 0, false⟩] [1] [0] 2 rfl rfl rfl rfl rfl rfl rfl rfl ?_)
 rintro _ _ _ ⟨rfl, rfl, rfl⟩
 refine nmE (en := [.sl 0 (.int .u8) Al0_0 cl0_0 l0_0 0 false, .sl 2 (.int .i64) A11_3 c11_3 ([0, 0, 1, 2, 3] : List Int) 1 true]) (by kernel_rfl) (sv (EV.bd (v := .agg #[.int .i64 t1_0, .int .i64 t2_0, .int .i64 t4_0]) rfl (by kernel_rfl)) rfl (so rfl (op_st (cs' := [.int .i64 t1_0, .int .i64 t2_0, .int .i64 t4_0]) 0 rfl rfl rfl rfl rfl rfl (re (pr [4] [0, 1] [0] rfl rfl rfl rfl ?_)))))
 cases H
 exact rt Try.func111 rfl (.cell 0 (some 3) rfl rfl rfl .nil) rfl [1] [] rfl rfl rfl rfl rfl ⟨rfl, rfl, rfl⟩
end Go.Proofs.Ytajjeemkdjfilaa.K
namespace Go.Proofs.Ytajjeemkdjfilaa.K
open Go Go.RowKit
set_option linter.unusedVariables false
set_option linter.unusedSimpArgs false
def spec_l2Any.f (l0_0 : List Int) (a0_1 : Int) (a0_2 : Int) : Option (Int × Int × Int × Int × Int) := (spec_l2Row.f l0_0 a0_1 a0_2 10).bind fun bt1 => ((spec_l1Below.f l0_0 bt1.2.2.2.1 bt1.2.2.2.2 8).bind fun bt2 => (if bt2.1 = 0 then ((spec_l1PickInt.f l0_0 bt2.2.1 bt2.2.2 ([(-1), 10] : List Int)).bind fun bt5 => (some (bt5.1, bt1.2.1, bt1.2.2.1, bt5.2.1, bt5.2.2))) else (if bt2.1 = 1 then ((spec_l1PickInt.f l0_0 bt2.2.1 bt2.2.2 ([(-1), 100, 99] : List Int)).bind fun bt8 => (some (bt1.1, bt8.1, bt1.2.2.1, bt8.2.1, bt8.2.2))) else (if bt2.1 = 2 then ((spec_l1PickInt.f l0_0 bt2.2.1 bt2.2.2 ([(-1), 4] : List Int)).bind fun bt11 => (some (bt1.1, bt1.2.1, bt11.1, bt11.2.1, bt11.2.2))) else (some (bt1.1, bt1.2.1, bt1.2.2.1, bt2.2.1, bt2.2.2))))))
set_option maxHeartbeats 4000000 in
set_option maxRecDepth 100000 in
theorem spec_l2Any.ok (b1000 : Nat) (l0_0 : List Int) (Al0_0 : Option Addr) (cl0_0 : Nat) (a0_1 : Int) (a0_2 : Int) (r0 : Int) (r1 : Int) (r2 : Int) (r3 : Int) (r4 : Int) (H : spec_l2Any.f l0_0 a0_1 a0_2 = some (r0, r1, r2, r3, r4)) : Fn Try.prog 107 [.pointer (some ⟨b1000, 0, none⟩)] [⟨b1000, 111, [.slice Al0_0 l0_0.length cl0_0, .int .i64 a0_1, .int .i64 a0_2]⟩] [.sl 0 (.int .u8) Al0_0 cl0_0 l0_0 0 false] (fun v bx en => v = .agg #[.int .i64 r0, .int .i64 r1, .int .i64 r2] ∧ bx = [⟨b1000, 111, [.slice Al0_0 l0_0.length cl0_0, .int .i64 r3, .int .i64 r4]⟩] ∧ en = []) := by
 refine fn_ 27 Try.func107 rfl rfl rfl (fun base T w0 => ?_)
 rw [spec_l2Any.f] at H
 refine gs (rg (so rfl (op_alloc (cs := [.int .i64 0, .int .i64 0, .int .i64 0]) (by kernel_rfl) rfl fun b2 => (re (gs (rg (sv (EV.mv rfl) rfl ?_)))))))
 revert H; refine bdI ?_; rintro ⟨t1_0, t1_1, t1_2, t1_3, t1_4⟩ A1 H
 refine so rfl (op_callM (spec_l2Row.ok b1000 l0_0 Al0_0 cl0_0 a0_1 a0_2 10 _ _ _ _ _ A1) [⟨0, 0, 0, false⟩] [0] [1] 1 rfl rfl rfl rfl rfl rfl rfl rfl ?_)
 rintro _ _ _ ⟨rfl, rfl, rfl⟩
 refine nmE (en := [.sl 0 (.int .u8) Al0_0 cl0_0 l0_0 0 false]) (by kernel_rfl) (so rfl (op_alloc (cs := [.int .i64 0, .int .i64 0, .int .i64 0]) (by kernel_rfl) rfl fun b3 => (so rfl (op_st (cs' := [.int .i64 t1_0, .int .i64 t1_1, .int .i64 t1_2]) 2 rfl rfl rfl rfl rfl rfl (re (gs (gs (rg (sv (EV.mv rfl) rfl ?_)))))))))
 revert H; refine bdI ?_; rintro ⟨t2_0, t2_1, t2_2⟩ A2 H
 refine so rfl (op_callM (spec_l1Below.ok b1000 l0_0 Al0_0 cl0_0 t1_3 t1_4 8 _ _ _ A2) [⟨0, 0, 0, false⟩] [1] [0, 2] 1 rfl rfl rfl rfl rfl rfl rfl rfl ?_)
 rintro _ _ _ ⟨rfl, rfl, rfl⟩
 refine nmE (en := [.sl 0 (.int .u8) Al0_0 cl0_0 l0_0 0 false]) (by kernel_rfl) (re (gb (gs (rg (sv (EV.eql rfl rfl) rfl (sv (EV.as rfl) rfl (re ?_)))))))
 revert H; refine ifsI ?_ ?_ <;> intro c3 H
 ·
  refine gt rfl (dT c3) (rg (sv (EV.mv rfl) rfl (so rfl (op_lit (s := 1) (by_ := 8) (.int .i64) ([(-1), 10] : List Int) [[], []] [] 1 [.const (.int .i64 (-1)), .const (.int .i64 10)] rfl rfl rfl rfl rfl rfl rfl rfl rfl rfl rfl rfl rfl dq rfl fun A11_4 c11_4 => ?_))))
  revert H; refine bdI ?_; rintro ⟨t5_0, t5_1, t5_2⟩ A5 H
  refine so rfl (op_callM (spec_l1PickInt.ok b1000 l0_0 Al0_0 cl0_0 t2_1 t2_2 ([(-1), 10] : List Int) A11_4 c11_4 _ _ _ A5) [⟨0, 0, 0, false⟩, ⟨1, 0, 0, false⟩] [2] [0, 1] 2 rfl rfl rfl rfl rfl rfl rfl rfl ?_)
  rintro _ _ _ ⟨rfl, rfl, rfl⟩
  refine nmE (en := [.sl 0 (.int .u8) Al0_0 cl0_0 l0_0 0 false, .sl 2 (.int .i64) A11_4 c11_4 ([(-1), 10] : List Int) 1 true]) (by kernel_rfl) (sv (EV.fa 0 rfl) rfl (so rfl (op_st (cs' := [.int .i64 t5_0, .int .i64 t1_1, .int .i64 t1_2]) 1 rfl rfl rfl rfl rfl rfl (re (pr [2, 3] [0, 1, 2] [0] rfl rfl rfl rfl (ge (gs (rg (sv (EV.ld (v := .agg #[.int .i64 t5_0, .int .i64 t1_1, .int .i64 t1_2]) 1 (some 3) rfl rfl rfl) rfl (so rfl (op_st (cs' := [.int .i64 t5_0, .int .i64 t1_1, .int .i64 t1_2]) 0 rfl rfl rfl rfl rfl rfl (re ?_))))))))))))
  cases H
  exact rt Try.func107 rfl (.cell 0 (some 3) rfl rfl rfl .nil) rfl [2] [] rfl rfl rfl rfl rfl ⟨rfl, rfl, rfl⟩
 ·
  refine gf rfl (dF c3) (gs (rg (sv (EV.eql rfl rfl) rfl (sv (EV.as rfl) rfl (re (pr [0, 2, 3, 7, 14] [0, 1, 2] [0] rfl rfl rfl rfl ?_))))))
  revert H; refine ifsI ?_ ?_ <;> intro c6 H
  ·
   refine gt rfl (dT c6) (rg (sv (EV.mv rfl) rfl (so rfl (op_lit (s := 1) (by_ := 8) (.int .i64) ([(-1), 100, 99] : List Int) [[], [], []] [] 1 [.const (.int .i64 (-1)), .const (.int .i64 100), .const (.int .i64 99)] rfl rfl rfl rfl rfl rfl rfl rfl rfl rfl rfl rfl rfl dq rfl fun A17_7 c17_7 => ?_))))
   revert H; refine bdI ?_; rintro ⟨t8_0, t8_1, t8_2⟩ A8 H
   refine so rfl (op_callM (spec_l1PickInt.ok b1000 l0_0 Al0_0 cl0_0 t2_1 t2_2 ([(-1), 100, 99] : List Int) A17_7 c17_7 _ _ _ A8) [⟨0, 0, 0, false⟩, ⟨1, 0, 0, false⟩] [2] [0, 1] 2 rfl rfl rfl rfl rfl rfl rfl rfl ?_)
   rintro _ _ _ ⟨rfl, rfl, rfl⟩
   refine nmE (en := [.sl 0 (.int .u8) Al0_0 cl0_0 l0_0 0 false, .sl 2 (.int .i64) A17_7 c17_7 ([(-1), 100, 99] : List Int) 1 true]) (by kernel_rfl) (sv (EV.fa 1 rfl) rfl (so rfl (op_st (cs' := [.int .i64 t1_0, .int .i64 t8_0, .int .i64 t1_2]) 1 rfl rfl rfl rfl rfl rfl (re (pr [2, 3] [0, 1, 2] [0] rfl rfl rfl rfl (ge (gs (rg (sv (EV.ld (v := .agg #[.int .i64 t1_0, .int .i64 t8_0, .int .i64 t1_2]) 1 (some 3) rfl rfl rfl) rfl (so rfl (op_st (cs' := [.int .i64 t1_0, .int .i64 t8_0, .int .i64 t1_2]) 0 rfl rfl rfl rfl rfl rfl (re ?_))))))))))))
   cases H
   exact rt Try.func107 rfl (.cell 0 (some 3) rfl rfl rfl .nil) rfl [2] [] rfl rfl rfl rfl rfl ⟨rfl, rfl, rfl⟩
  ·
   refine gf rfl (dF c6) (gs (rg (sv (EV.eql rfl rfl) rfl (sv (EV.as rfl) rfl (re ?_)))))
   revert H; refine ifsI ?_ ?_ <;> intro c9 H
   ·
    refine gt rfl (dT c9) (rg (sv (EV.mv rfl) rfl (so rfl (op_lit (s := 1) (by_ := 8) (.int .i64) ([(-1), 4] : List Int) [[], []] [] 1 [.const (.int .i64 (-1)), .const (.int .i64 4)] rfl rfl rfl rfl rfl rfl rfl rfl rfl rfl rfl rfl rfl dq rfl fun A23_10 c23_10 => ?_))))
    revert H; refine bdI ?_; rintro ⟨t11_0, t11_1, t11_2⟩ A11 H
    refine so rfl (op_callM (spec_l1PickInt.ok b1000 l0_0 Al0_0 cl0_0 t2_1 t2_2 ([(-1), 4] : List Int) A23_10 c23_10 _ _ _ A11) [⟨0, 0, 0, false⟩, ⟨1, 0, 0, false⟩] [2] [0, 1] 2 rfl rfl rfl rfl rfl rfl rfl rfl ?_)
    rintro _ _ _ ⟨rfl, rfl, rfl⟩
    refine nmE (en := [.sl 0 (.int .u8) Al0_0 cl0_0 l0_0 0 false, .sl 2 (.int .i64) A23_10 c23_10 ([(-1), 4] : List Int) 1 true]) (by kernel_rfl) (sv (EV.fa 2 rfl) rfl (so rfl (op_st (cs' := [.int .i64 t1_0, .int .i64 t1_1, .int .i64 t11_0]) 1 rfl rfl rfl rfl rfl rfl (re (pr [2, 3] [0, 1, 2] [0] rfl rfl rfl rfl (ge (gs (rg (sv (EV.ld (v := .agg #[.int .i64 t1_0, .int .i64 t1_1, .int .i64 t11_0]) 1 (some 3) rfl rfl rfl) rfl (so rfl (op_st (cs' := [.int .i64 t1_0, .int .i64 t1_1, .int .i64 t11_0]) 0 rfl rfl rfl rfl rfl rfl (re ?_))))))))))))
    cases H
    exact rt Try.func107 rfl (.cell 0 (some 3) rfl rfl rfl .nil) rfl [2] [] rfl rfl rfl rfl rfl ⟨rfl, rfl, rfl⟩
   ·
    refine gf rfl (dF c9) (gk (ge (gs (rg (sv (EV.ld (v := .agg #[.int .i64 t1_0, .int .i64 t1_1, .int .i64 t1_2]) 1 (some 3) rfl rfl rfl) rfl (so rfl (op_st (cs' := [.int .i64 t1_0, .int .i64 t1_1, .int .i64 t1_2]) 0 rfl rfl rfl rfl rfl rfl (re (pr [2] [0, 2] [0] rfl rfl rfl rfl ?_)))))))))
    cases H
    exact rt Try.func107 rfl (.cell 0 (some 3) rfl rfl rfl .nil) rfl [1] [] rfl rfl rfl rfl rfl ⟨rfl, rfl, rfl⟩
end Go.Proofs.Ytajjeemkdjfilaa.K
namespace Go.Proofs.Ytajjeemkdjfilaa.K
open Go Go.RowKit
set_option linter.unusedVariables false
set_option linter.unusedSimpArgs false
def spec_l1Once.f (l0_0 : List Int) (a0_1 : Int) (a0_2 : Int) (a1 : Int) : Option (Bool × Int × Int) := (spec_l1Below.f l0_0 a0_1 a0_2 a1).bind fun bt1 => (some (decide (bt1.1 = 0), bt1.2.1, bt1.2.2))
set_option maxHeartbeats 4000000 in
set_option maxRecDepth 100000 in
theorem spec_l1Once.ok (b1000 : Nat) (l0_0 : List Int) (Al0_0 : Option Addr) (cl0_0 : Nat) (a0_1 : Int) (a0_2 : Int) (a1 : Int) (r0 : Bool) (r1 : Int) (r2 : Int) (H : spec_l1Once.f l0_0 a0_1 a0_2 a1 = some (r0, r1, r2)) : Fn Try.prog 105 [.pointer (some ⟨b1000, 0, none⟩), .int .i64 a1] [⟨b1000, 111, [.slice Al0_0 l0_0.length cl0_0, .int .i64 a0_1, .int .i64 a0_2]⟩] [.sl 0 (.int .u8) Al0_0 cl0_0 l0_0 0 false] (fun v bx en => v = .bool r0 ∧ bx = [⟨b1000, 111, [.slice Al0_0 l0_0.length cl0_0, .int .i64 r1, .int .i64 r2]⟩] ∧ en = []) := by
 refine fn_ 9 Try.func105 rfl rfl rfl (fun base T w0 => ?_)
 rw [spec_l1Once.f] at H
 refine gs (rg (sv (EV.as rfl) rfl (re (gs (rg (sv (EV.mv rfl) rfl (sv (EV.mv rfl) rfl ?_)))))))
 revert H; refine bdI ?_; rintro ⟨t1_0, t1_1, t1_2⟩ A1 H
 refine so rfl (op_callM (spec_l1Below.ok b1000 l0_0 Al0_0 cl0_0 a0_1 a0_2 a1 _ _ _ A1) [⟨0, 0, 0, false⟩] [0] [] 1 rfl rfl rfl rfl rfl rfl rfl rfl ?_)
 rintro _ _ _ ⟨rfl, rfl, rfl⟩
 refine nmE (en := [.sl 0 (.int .u8) Al0_0 cl0_0 l0_0 0 false]) (by kernel_rfl) (sv (EV.eql rfl rfl) rfl (sv (EV.as rfl) rfl (re (pr [4] [0] [0] rfl rfl rfl rfl ?_))))
 cases H
 exact rt Try.func105 rfl (.tmp rfl .nil) rfl [0] [] rfl rfl rfl rfl rfl ⟨rfl, rfl, rfl⟩
end Go.Proofs.Ytajjeemkdjfilaa.K
namespace Go.Proofs.Ytajjeemkdjfilaa.K
open Go Go.RowKit
set_option linter.unusedVariables false
set_option linter.unusedSimpArgs false
def spec_l2Rows.l0 : Nat → (List S70) → Int → Int → Int → Int → (List Int) → Option ((List S70) × Int × Int)
 | 0, _, _, _, _, _, _ => none
 | k + 1, x2_5, x2_6, x2_7, x2_1000_1, x2_1000_2, l0_0 => if x2_7 > 0 then ((spec_l2Row.f l0_0 x2_1000_1 x2_1000_2 x2_6).bind fun bt6 => (if x2_5.length < 5864062014805 then (spec_l2Rows.l0 k (x2_5 ++ ([(⟨bt6.1, bt6.2.1, bt6.2.2.1⟩ : S70)] : List S70)) x2_6 (wrap64 (x2_7 - 1)) bt6.2.2.2.1 bt6.2.2.2.2 l0_0) else none)) else (some (x2_5, x2_1000_1, x2_1000_2))
def spec_l2Rows.f (k : Nat) (l0_0 : List Int) (a0_1 : Int) (a0_2 : Int) (a1 : Int) : Option ((List S70) × Int × Int) := (spec_l1PickInt.f l0_0 a0_1 a0_2 ([1, 2, 4, 10] : List Int)).bind fun bt3 => ((spec_l1Below.f l0_0 bt3.2.1 bt3.2.2 (wrap64 (a1 + 1))).bind fun bt4 => (spec_l2Rows.l0 k [] bt3.1 bt4.1 bt4.2.1 bt4.2.2 l0_0))
set_option maxHeartbeats 4000000 in
set_option maxRecDepth 100000 in
theorem spec_l2Rows.ok (k : Nat) (b1000 : Nat) (l0_0 : List Int) (Al0_0 : Option Addr) (cl0_0 : Nat) (a0_1 : Int) (a0_2 : Int) (a1 : Int) (r0 : List S70) (r1 : Int) (r2 : Int) (H : spec_l2Rows.f k l0_0 a0_1 a0_2 a1 = some (r0, r1, r2)) : Fn Try.prog 77 [.pointer (some ⟨b1000, 0, none⟩), .int .i64 a1] [⟨b1000, 111, [.slice Al0_0 l0_0.length cl0_0, .int .i64 a0_1, .int .i64 a0_2]⟩] [.sl 0 (.int .u8) Al0_0 cl0_0 l0_0 0 false] (fun v bx en => ∃ A0 c0, v = .slice A0 r0.length c0 ∧ bx = [⟨b1000, 111, [.slice Al0_0 l0_0.length cl0_0, .int .i64 r1, .int .i64 r2]⟩] ∧ en = [.sl 2 k70 A0 c0 r0 1 true]) := by
 refine fn_ 27 Try.func77 rfl rfl rfl (fun base T w0 => ?_)
 rw [spec_l2Rows.f] at H
 refine gs (rg (sv (EV.as rfl) rfl (re (gs (rg (so rfl (op_lit (s := 3) (by_ := 24) k70 ([] : List S70) [] [] 1 [] rfl rfl rfl rfl rfl rfl rfl rfl rfl rfl rfl rfl rfl dq rfl fun A8_1 c8_1 => (sv (EV.as rfl) rfl (re (gs (rg (sv (EV.mv rfl) rfl (so rfl (op_lit (s := 1) (by_ := 8) (.int .i64) ([1, 2, 4, 10] : List Int) [[], [], [], []] [] 2 [.const (.int .i64 1), .const (.int .i64 2), .const (.int .i64 4), .const (.int .i64 10)] rfl rfl rfl rfl rfl rfl rfl rfl rfl rfl rfl rfl rfl dq rfl fun A10_2 c10_2 => ?_))))))))))))))
 revert H; refine bdI ?_; rintro ⟨t3_0, t3_1, t3_2⟩ A3 H
 refine so rfl (op_callM (spec_l1PickInt.ok b1000 l0_0 Al0_0 cl0_0 a0_1 a0_2 ([1, 2, 4, 10] : List Int) A10_2 c10_2 _ _ _ A3) [⟨0, 0, 0, false⟩, ⟨2, 0, 0, false⟩] [0] [] 3 rfl rfl rfl rfl rfl rfl rfl rfl ?_)
 rintro _ _ _ ⟨rfl, rfl, rfl⟩
 refine nmE (en := [.sl 0 (.int .u8) Al0_0 cl0_0 l0_0 0 false, .sl 2 k70 A8_1 c8_1 [] 1 true, .sl 2 (.int .i64) A10_2 c10_2 ([1, 2, 4, 10] : List Int) 2 true]) (by kernel_rfl) (sv (EV.as rfl) rfl (re (gs (gs (rg (sv (EV.mv rfl) rfl (sv (EV.mv rfl) rfl (sv (EV.add rfl rfl) rfl ?_))))))))
 revert H; refine bdI ?_; rintro ⟨t4_0, t4_1, t4_2⟩ A4 H
 refine so rfl (op_callM (spec_l1Below.ok b1000 l0_0 Al0_0 cl0_0 t3_1 t3_2 (wrap64 (a1 + 1)) _ _ _ A4) [⟨0, 0, 0, false⟩] [0] [] 3 rfl rfl rfl rfl rfl rfl rfl rfl ?_)
 rintro _ _ _ ⟨rfl, rfl, rfl⟩
 refine nmE (en := [.sl 0 (.int .u8) Al0_0 cl0_0 l0_0 0 false, .sl 2 k70 A8_1 c8_1 [] 1 true, .sl 2 (.int .i64) A10_2 c10_2 ([1, 2, 4, 10] : List Int) 2 true]) (by kernel_rfl) (sv (EV.as rfl) rfl (re (pr [0, 5, 6, 7] [0] [0, 1] rfl rfl rfl rfl (gb ?_))))
 refine lo (fun kk S => ∃ (x2_5 : List S70) (Ax2_5 : Option Addr) (cx2_5 : Nat) (x2_6 : Int) (x2_7 : Int) (x2_1000_1 : Int) (x2_1000_2 : Int), spec_l2Rows.l0 kk x2_5 x2_6 x2_7 x2_1000_1 x2_1000_2 l0_0 = some (r0, r1, r2) ∧ S = ⟨[(0, .pointer (some ⟨b1000, 0, none⟩)), (5, .slice Ax2_5 x2_5.length cx2_5), (6, .int .i64 x2_6), (7, .int .i64 x2_7)], [⟨b1000, 111, [.slice Al0_0 l0_0.length cl0_0, .int .i64 x2_1000_1, .int .i64 x2_1000_2]⟩], [.sl 2 k70 Ax2_5 cx2_5 x2_5 1 true, .sl 0 (.int .u8) Al0_0 cl0_0 l0_0 0 false]⟩) (fun S hS => ?_) (fun n0 ih0 S hS => ?_) ⟨[], A8_1, c8_1, t3_0, t4_0, t4_1, t4_2, H, rfl⟩ (fun h => wk [0, 5, 6, 7] [0] [⟨1, 2, 1, true⟩, ⟨0, 0, 0, false⟩] h)
 · clear H; obtain ⟨_, _, _, _, _, _, _, H, _⟩ := hS; rw [spec_l2Rows.l0] at H; cases H
 clear H
 obtain ⟨x2_5, Ax2_5, cx2_5, x2_6, x2_7, x2_1000_1, x2_1000_2, H, rfl⟩ := hS
 rw [spec_l2Rows.l0] at H
 refine gs (gs (rg (sv (EV.mv rfl) rfl (sv (EV.gtr rfl rfl) rfl (re ?_)))))
 revert H; refine ifsI ?_ ?_ <;> intro c5 H
 ·
  refine gt rfl (dT c5) (gk (gs (gb (rg (sv (EV.mv rfl) rfl (sv (EV.mv rfl) rfl (sv (EV.mv rfl) rfl ?_)))))))
  revert H; refine bdI ?_; rintro ⟨t6_0, t6_1, t6_2, t6_3, t6_4⟩ A6 H
  refine so rfl (op_callM (spec_l2Row.ok b1000 l0_0 Al0_0 cl0_0 x2_1000_1 x2_1000_2 x2_6 _ _ _ _ _ A6) [⟨1, 0, 0, false⟩] [0] [] 2 rfl rfl rfl rfl rfl rfl rfl rfl ?_)
  rintro _ _ _ ⟨rfl, rfl, rfl⟩
  refine nmE (en := [.sl 2 k70 Ax2_5 cx2_5 x2_5 1 true, .sl 0 (.int .u8) Al0_0 cl0_0 l0_0 0 false]) (by kernel_rfl) (so rfl (op_lit (s := 3) (by_ := 24) k70 ([(⟨t6_0, t6_1, t6_2⟩ : S70)] : List S70) [[]] [] 2 [.tmp 23] rfl rfl rfl rfl rfl rfl rfl rfl rfl rfl rfl rfl rfl dq rfl fun A24_7 c24_7 => ?_))
  revert H; refine ggI ?_; intro g8 H
  exact so rfl (op_app (k := k70) (s := 3) (by_ := 24) 0 2 rfl rfl rfl rfl (ap1 g8 dq) (ap1n g8 dq) (.inl rfl) true (fun _ => .inl rfl) rfl rfl fun A25_9 c25_9 => (nmE (en := [.sl 0 (.int .u8) Al0_0 cl0_0 l0_0 0 false, .sl 2 k70 A24_7 c24_7 ([(⟨t6_0, t6_1, t6_2⟩ : S70)] : List S70) 2 true, .sl 2 k70 A25_9 c25_9 (x2_5 ++ ([(⟨t6_0, t6_1, t6_2⟩ : S70)] : List S70)) 1 true]) (by kernel_rfl) (sv (EV.as rfl) rfl (re (pr [0, 5, 6, 7] [0] [0, 2] rfl rfl rfl rfl (ge (rg (sv (EV.mv rfl) rfl (sv (EV.sub rfl rfl) rfl (sv (EV.as rfl) rfl (re (wk [0, 5, 6, 7] [0] [⟨1, 2, 1, true⟩, ⟨0, 0, 0, false⟩] (ih0 _ (by omega) _ ⟨x2_5 ++ ([(⟨t6_0, t6_1, t6_2⟩ : S70)] : List S70), A25_9, c25_9, x2_6, wrap64 (x2_7 - 1), t6_3, t6_4, H, rfl⟩)))))))))))))
 ·
  refine gf rfl (dF c5) (gx rfl (gs (rg (sv (EV.mv rfl) rfl (sv (EV.as rfl) rfl (re (pr [4] [0] [0, 1] rfl rfl rfl rfl ?_)))))))
  cases H
  exact rt Try.func77 rfl (.tmp rfl .nil) rfl [0] [⟨0, 2, 1, true⟩] rfl rfl rfl rfl rfl ⟨_, _, rfl, rfl, rfl⟩
end Go.Proofs.Ytajjeemkdjfilaa.K
namespace Go.Proofs.Ytajjeemkdjfilaa.K
open Go Go.RowKit
set_option linter.unusedVariables false
set_option linter.unusedSimpArgs false
def spec_l16Draw.l0 : Nat → Int → Int → Int → Int → (List S70) → (List S70) → (List Bool) → Int → Int → (List S70) → (List S70) → (List Bool) → Int → (List Int) → Option (Int × (List S70) × (List S70) × (List Bool) × Int × Int × Int)
 | 0, _, _, _, _, _, _, _, _, _, _, _, _, _, _ => none
 | k + 1, x2_8, x2_1000_1, x2_1000_2, x2_4_0, x2_4_1, x2_4_2, x2_4_3, x2_4_4, x2_6_0, x2_6_1, x2_6_2, x2_6_3, x2_6_4, l0_0 => if x2_8 < (x2_6_3.length : Int) then (if 0 ≤ x2_8 then ((spec_l1Once.f l0_0 x2_1000_1 x2_1000_2 4).bind fun bt10 => (spec_l16Draw.l0 k (wrap64 (x2_8 + 1)) bt10.2.1 bt10.2.2 x2_4_0 x2_4_1 x2_4_2 x2_4_3 x2_4_4 x2_6_0 x2_6_1 x2_6_2 (x2_6_3.set x2_8.toNat bt10.1) x2_6_4 l0_0)) else none) else (some (x2_6_0, x2_6_1, x2_6_2, x2_6_3, x2_6_4, x2_1000_1, x2_1000_2))
def spec_l16Draw.f (k : Nat) (l0_0 : List Int) (a0_1 : Int) (a0_2 : Int) (a1 : Int) : Option (Int × (List S70) × (List S70) × (List Bool) × Int × Int × Int) := (spec_l2Rows.f k l0_0 a0_1 a0_2 a1).bind fun bt1 => ((spec_l1Below.f l0_0 bt1.2.1 bt1.2.2 4).bind fun bt2 => ((spec_l2Rows.f k l0_0 bt2.2.1 bt2.2.2 a1).bind fun bt3 => ((spec_NewTask.f k (wrap64 (1 + bt2.1)) bt1.1 bt3.1).bind fun bt4 => ((spec_l1Once.f l0_0 bt3.2.1 bt3.2.2 3).bind fun bt5 => (if bt5.1 = true then ((spec_l1Below.f l0_0 bt5.2.1 bt5.2.2 5).bind fun bt7 => (spec_l16Draw.l0 k 0 bt7.2.1 bt7.2.2 0 [] [] [] 0 bt4.1 bt4.2.1 bt4.2.2.1 bt4.2.2.2.1 bt7.1 l0_0)) else (some (bt4.1, bt4.2.1, bt4.2.2.1, bt4.2.2.2.1, bt4.2.2.2.2.1, bt5.2.1, bt5.2.2)))))))
set_option maxHeartbeats 4000000 in
set_option maxRecDepth 100000 in
theorem spec_l16Draw.ok (k : Nat) (b1000 : Nat) (l0_0 : List Int) (Al0_0 : Option Addr) (cl0_0 : Nat) (a0_1 : Int) (a0_2 : Int) (a1 : Int) (r0 : Int) (r1 : List S70) (r2 : List S70) (r3 : List Bool) (r4 : Int) (r5 : Int) (r6 : Int) (H : spec_l16Draw.f k l0_0 a0_1 a0_2 a1 = some (r0, r1, r2, r3, r4, r5, r6)) : Fn Try.prog 110 [.pointer (some ⟨b1000, 0, none⟩), .int .i64 a1] [⟨b1000, 111, [.slice Al0_0 l0_0.length cl0_0, .int .i64 a0_1, .int .i64 a0_2]⟩] [.sl 0 (.int .u8) Al0_0 cl0_0 l0_0 0 false] (fun v bx en => ∃ A1 c1 A2 c2 A3 c3, v = .agg #[.int .i64 r0, .slice A1 r1.length c1, .slice A2 r2.length c2, .slice A3 r3.length c3, .int .i64 r4] ∧ bx = [⟨b1000, 111, [.slice Al0_0 l0_0.length cl0_0, .int .i64 r5, .int .i64 r6]⟩] ∧ en = [.sl 2 k70 A1 c1 r1 1 true, .sl 2 k70 A2 c2 r2 2 true, .sl 2 .bool A3 c3 r3 3 true]) := by
 refine fn_ 42 Try.func110 rfl rfl rfl (fun base T w0 => ?_)
 rw [spec_l16Draw.f] at H
 refine gs (rg (so rfl (op_alloc (cs := [.int .i64 0, .slice none 0 0, .slice none 0 0, .slice none 0 0, .int .i64 0]) (by kernel_rfl) rfl fun b4 => (re (gs (rg (sv (EV.mv rfl) rfl (sv (EV.mv rfl) rfl ?_))))))))
 revert H; refine bdI ?_; rintro ⟨t1_0, t1_1, t1_2⟩ A1 H
 refine so rfl (op_callM (spec_l2Rows.ok k b1000 l0_0 Al0_0 cl0_0 a0_1 a0_2 a1 _ _ _ A1) [⟨0, 0, 0, false⟩] [0] [1] 1 rfl rfl rfl rfl rfl rfl rfl rfl ?_)
 rintro _ _ _ ⟨At1_0, ct1_0, rfl, rfl, rfl⟩
 refine nmE (en := [.sl 0 (.int .u8) Al0_0 cl0_0 l0_0 0 false, .sl 2 k70 At1_0 ct1_0 t1_0 2 true]) (by kernel_rfl) (sv (EV.as rfl) rfl (re (gs (rg (sv (EV.mv rfl) rfl ?_)))))
 revert H; refine bdI ?_; rintro ⟨t2_0, t2_1, t2_2⟩ A2 H
 refine so rfl (op_callM (spec_l1Below.ok b1000 l0_0 Al0_0 cl0_0 t1_1 t1_2 4 _ _ _ A2) [⟨0, 0, 0, false⟩] [1] [0] 3 rfl rfl rfl rfl rfl rfl rfl rfl ?_)
 rintro _ _ _ ⟨rfl, rfl, rfl⟩
 refine nmE (en := [.sl 0 (.int .u8) Al0_0 cl0_0 l0_0 0 false, .sl 2 k70 At1_0 ct1_0 t1_0 2 true]) (by kernel_rfl) (sv (EV.add rfl rfl) rfl (sv (EV.mv rfl) rfl (sv (EV.mv rfl) rfl (sv (EV.mv rfl) rfl ?_))))
 revert H; refine bdI ?_; rintro ⟨t3_0, t3_1, t3_2⟩ A3 H
 refine so rfl (op_callM (spec_l2Rows.ok k b1000 l0_0 Al0_0 cl0_0 t2_1 t2_2 a1 _ _ _ A3) [⟨0, 0, 0, false⟩] [1] [0] 3 rfl rfl rfl rfl rfl rfl rfl rfl ?_)
 rintro _ _ _ ⟨At3_0, ct3_0, rfl, rfl, rfl⟩
 refine nmE (en := [.sl 0 (.int .u8) Al0_0 cl0_0 l0_0 0 false, .sl 2 k70 At1_0 ct1_0 t1_0 2 true, .sl 2 k70 At3_0 ct3_0 t3_0 4 true]) (by kernel_rfl) ?_
 revert H; refine bdI ?_; rintro ⟨t4_0, t4_1, t4_2, t4_3, t4_4, t4_5⟩ A4 H
 refine so rfl (op_call (spec_NewTask.ok k (wrap64 (1 + t2_0)) t1_0 At1_0 ct1_0 t3_0 At3_0 ct3_0 _ _ _ _ _ _ A4) [⟨1, 0, 0, false⟩, ⟨2, 0, 0, false⟩] 5 rfl rfl rfl rfl rfl ?_)
 rintro _ _ _ ⟨At4_1, ct4_1, At4_2, ct4_2, At4_3, ct4_3, rfl, rfl, rfl⟩
 refine sv (EV.mv rfl) rfl (sv (EV.ex rfl rfl) rfl (sv (EV.ex rfl rfl) rfl (so rfl (op_alloc (cs := [.int .i64 0, .slice none 0 0, .slice none 0 0, .slice none 0 0, .int .i64 0]) (by kernel_rfl) rfl fun b6 => (so rfl (op_st (cs' := [.int .i64 t4_0, .slice At4_1 t4_1.length ct4_1, .slice At4_2 t4_2.length ct4_2, .slice At4_3 t4_3.length ct4_3, .int .i64 t4_4]) 2 rfl rfl rfl rfl rfl rfl (sv (EV.as rfl) rfl (re (pr [0, 4, 6] [0, 1, 2] [0, 3, 4, 5] rfl rfl rfl rfl (gs (gs (rg (sv (EV.mv rfl) rfl ?_)))))))))))))
 revert H; refine bdI ?_; rintro ⟨t5_0, t5_1, t5_2⟩ A5 H
 refine so rfl (op_callM (spec_l1Once.ok b1000 l0_0 Al0_0 cl0_0 t3_1 t3_2 3 _ _ _ A5) [⟨0, 0, 0, false⟩] [1] [0, 2] 9 rfl rfl rfl rfl rfl rfl rfl rfl ?_)
 rintro _ _ _ ⟨rfl, rfl, rfl⟩
 refine nmE (en := [.sl 0 (.int .u8) Al0_0 cl0_0 l0_0 0 false, .sl 2 k70 At4_1 ct4_1 t4_1 6 true, .sl 2 k70 At4_2 ct4_2 t4_2 7 true, .sl 2 .bool At4_3 ct4_3 t4_3 8 true]) (by kernel_rfl) (re ?_)
 revert H; refine ifsI ?_ ?_ <;> intro c6 H
 ·
  subst c6
  refine gt rfl rfl (gs (rg (sv (EV.mv rfl) rfl ?_)))
  revert H; refine bdI ?_; rintro ⟨t7_0, t7_1, t7_2⟩ A7 H
  refine so rfl (op_callM (spec_l1Below.ok b1000 l0_0 Al0_0 cl0_0 t5_1 t5_2 5 _ _ _ A7) [⟨0, 0, 0, false⟩] [2] [0, 1] 9 rfl rfl rfl rfl rfl rfl rfl rfl ?_)
  rintro _ _ _ ⟨rfl, rfl, rfl⟩
  refine nmE (en := [.sl 0 (.int .u8) Al0_0 cl0_0 l0_0 0 false, .sl 2 k70 At4_1 ct4_1 t4_1 6 true, .sl 2 k70 At4_2 ct4_2 t4_2 7 true, .sl 2 .bool At4_3 ct4_3 t4_3 8 true]) (by kernel_rfl) (sv (EV.fa 4 rfl) rfl (so rfl (op_st (cs' := [.int .i64 t4_0, .slice At4_1 t4_1.length ct4_1, .slice At4_2 t4_2.length ct4_2, .slice At4_3 t4_3.length ct4_3, .int .i64 t7_0]) 1 rfl rfl rfl rfl rfl rfl (re (gs (rg (sv (EV.as rfl) rfl (re (gb (nil_ k70 9 dq (nil_ k70 10 dq (nil_ .bool 11 dq ?_))))))))))))
  refine lo (fun kk S => ∃ (x2_8 : Int) (x2_1000_1 : Int) (x2_1000_2 : Int) (x2_4_0 : Int) (x2_4_1 : List S70) (Ax2_4_1 : Option Addr) (cx2_4_1 : Nat) (x2_4_2 : List S70) (Ax2_4_2 : Option Addr) (cx2_4_2 : Nat) (x2_4_3 : List Bool) (Ax2_4_3 : Option Addr) (cx2_4_3 : Nat) (x2_4_4 : Int) (x2_6_0 : Int) (x2_6_1 : List S70) (Ax2_6_1 : Option Addr) (cx2_6_1 : Nat) (x2_6_2 : List S70) (Ax2_6_2 : Option Addr) (cx2_6_2 : Nat) (x2_6_3 : List Bool) (Ax2_6_3 : Option Addr) (cx2_6_3 : Nat) (x2_6_4 : Int), spec_l16Draw.l0 kk x2_8 x2_1000_1 x2_1000_2 x2_4_0 x2_4_1 x2_4_2 x2_4_3 x2_4_4 x2_6_0 x2_6_1 x2_6_2 x2_6_3 x2_6_4 l0_0 = some (r0, r1, r2, r3, r4, r5, r6) ∧ S = ⟨[(0, .pointer (some ⟨b1000, 0, none⟩)), (4, .pointer (some ⟨b4, 0, none⟩)), (6, .pointer (some ⟨b6, 0, none⟩)), (8, .int .i64 x2_8)], [⟨b1000, 111, [.slice Al0_0 l0_0.length cl0_0, .int .i64 x2_1000_1, .int .i64 x2_1000_2]⟩, ⟨b4, 44, [.int .i64 x2_4_0, .slice Ax2_4_1 x2_4_1.length cx2_4_1, .slice Ax2_4_2 x2_4_2.length cx2_4_2, .slice Ax2_4_3 x2_4_3.length cx2_4_3, .int .i64 x2_4_4]⟩, ⟨b6, 44, [.int .i64 x2_6_0, .slice Ax2_6_1 x2_6_1.length cx2_6_1, .slice Ax2_6_2 x2_6_2.length cx2_6_2, .slice Ax2_6_3 x2_6_3.length cx2_6_3, .int .i64 x2_6_4]⟩], [.sl 2 k70 Ax2_4_1 cx2_4_1 x2_4_1 1 true, .sl 2 k70 Ax2_4_2 cx2_4_2 x2_4_2 2 true, .sl 2 .bool Ax2_4_3 cx2_4_3 x2_4_3 3 true, .sl 2 k70 Ax2_6_1 cx2_6_1 x2_6_1 4 true, .sl 2 k70 Ax2_6_2 cx2_6_2 x2_6_2 5 true, .sl 2 .bool Ax2_6_3 cx2_6_3 x2_6_3 6 true, .sl 0 (.int .u8) Al0_0 cl0_0 l0_0 0 false]⟩) (fun S hS => ?_) (fun n0 ih0 S hS => ?_) ⟨0, t7_1, t7_2, 0, [], none, 0, [], none, 0, [], none, 0, 0, t4_0, t4_1, At4_1, ct4_1, t4_2, At4_2, ct4_2, t4_3, At4_3, ct4_3, t7_0, H, rfl⟩ (fun h => wk [0, 4, 6, 8] [2, 0, 1] [⟨4, 2, 1, true⟩, ⟨5, 2, 2, true⟩, ⟨6, 2, 3, true⟩, ⟨1, 2, 4, true⟩, ⟨2, 2, 5, true⟩, ⟨3, 2, 6, true⟩, ⟨0, 0, 0, false⟩] h)
  · clear H; obtain ⟨_, _, _, _, _, _, _, _, _, _, _, _, _, _, _, _, _, _, _, _, _, _, _, _, _, H, _⟩ := hS; rw [spec_l16Draw.l0] at H; cases H
  clear H
  obtain ⟨x2_8, x2_1000_1, x2_1000_2, x2_4_0, x2_4_1, Ax2_4_1, cx2_4_1, x2_4_2, Ax2_4_2, cx2_4_2, x2_4_3, Ax2_4_3, cx2_4_3, x2_4_4, x2_6_0, x2_6_1, Ax2_6_1, cx2_6_1, x2_6_2, Ax2_6_2, cx2_6_2, x2_6_3, Ax2_6_3, cx2_6_3, x2_6_4, H, rfl⟩ := hS
  rw [spec_l16Draw.l0] at H
  refine gs (gs (rg (sv (EV.mv rfl) rfl (sv (EV.fa 3 rfl) rfl (sv (EV.ld 2 none rfl rfl rfl) rfl (sv (EV.ln rfl) rfl (sv (EV.lss rfl rfl) rfl (re ?_))))))))
  revert H; refine ifsI ?_ ?_ <;> intro c8 H
  ·
   refine gt rfl (dT c8) (gk (gs (gb ?_)))
   revert H; refine ggI ?_; intro g9 H
   refine dr [] [0, 1, 2, 3, 4, 5, 6] [5, 6] 7 rfl rfl rfl rfl (xv 0 [] [0, 1, 2, 3, 4, 5, 6] rfl (EV.fa 3 rfl) rfl rfl rfl rfl (xv 2 [] [0, 1, 2, 3, 4, 5, 6] rfl (EV.mv rfl) rfl rfl rfl rfl (xv 3 [] [0, 1, 2, 3, 4, 5, 6] rfl (EV.mv rfl) rfl rfl rfl rfl ?_)))
   refine one2 1 4 rfl rfl rfl rfl ?_ ?_
   ·
    refine ov (EV.ld 2 none rfl rfl rfl) rfl (xs [] [0, 1, 2, 3, 4, 5, 6] rfl rfl rfl (one1 4 rfl rfl ?_))
    revert H; refine bdI ?_; rintro ⟨t10_0, t10_1, t10_2⟩ A10 H
    refine op_callM (spec_l1Once.ok b1000 l0_0 Al0_0 cl0_0 x2_1000_1 x2_1000_2 4 _ _ _ A10) [⟨6, 0, 0, false⟩] [0] [1, 2] 7 rfl rfl rfl rfl rfl rfl rfl rfl ?_
    rintro _ _ _ ⟨rfl, rfl, rfl⟩
    exact nmE (en := [.sl 2 k70 Ax2_4_1 cx2_4_1 x2_4_1 1 true, .sl 2 k70 Ax2_4_2 cx2_4_2 x2_4_2 2 true, .sl 2 .bool Ax2_4_3 cx2_4_3 x2_4_3 3 true, .sl 2 k70 Ax2_6_1 cx2_6_1 x2_6_1 4 true, .sl 2 k70 Ax2_6_2 cx2_6_2 x2_6_2 5 true, .sl 2 .bool Ax2_6_3 cx2_6_3 x2_6_3 6 true, .sl 0 (.int .u8) Al0_0 cl0_0 l0_0 0 false]) (by kernel_rfl) (xs [] [0, 1, 2, 3, 4, 5, 6] rfl rfl rfl (one1 5 rfl rfl (ov (EV.ix 5 rfl rfl rfl g9 c8 rfl) rfl (xn rfl (one1 6 rfl rfl (op_stf x2_8 0 5 false t10_0 rfl rfl rfl rfl g9 c8 rfl rfl rfl rfl dq rfl (rlT 30 (v' := .slice Ax2_6_3 (x2_6_3.set x2_8.toNat t10_0).length cx2_6_3) rfl (sle _ _ _ _ _) (rlT 36 (v' := .slice Ax2_6_3 (x2_6_3.set x2_8.toNat t10_0).length cx2_6_3) rfl (sle _ _ _ _ _) (rlB 1 (cs' := [.int .i64 x2_6_0, .slice Ax2_6_1 x2_6_1.length cx2_6_1, .slice Ax2_6_2 x2_6_2.length cx2_6_2, .slice Ax2_6_3 (x2_6_3.set x2_8.toNat t10_0).length cx2_6_3, .int .i64 x2_6_4]) rfl (by simp only [List.length_set]) (nmE (en := [.sl 2 k70 Ax2_4_1 cx2_4_1 x2_4_1 1 true, .sl 2 k70 Ax2_4_2 cx2_4_2 x2_4_2 2 true, .sl 2 .bool Ax2_4_3 cx2_4_3 x2_4_3 3 true, .sl 2 k70 Ax2_6_1 cx2_6_1 x2_6_1 4 true, .sl 2 k70 Ax2_6_2 cx2_6_2 x2_6_2 5 true, .sl 0 (.int .u8) Al0_0 cl0_0 l0_0 0 false, .sl 2 .bool Ax2_6_3 cx2_6_3 (x2_6_3.set x2_8.toNat t10_0) 6 true]) (by kernel_rfl) (xn rfl (xd (pr [0, 4, 6, 8] [0, 1, 2] [0, 1, 2, 3, 4, 5, 6] rfl rfl rfl rfl (ge (rg (sv (EV.mv rfl) rfl (sv (EV.add rfl rfl) rfl (sv (EV.as rfl) rfl (re (wk [0, 4, 6, 8] [2, 0, 1] [⟨0, 2, 1, true⟩, ⟨1, 2, 2, true⟩, ⟨2, 2, 3, true⟩, ⟨3, 2, 4, true⟩, ⟨4, 2, 5, true⟩, ⟨6, 2, 6, true⟩, ⟨5, 0, 0, false⟩] (ih0 _ (by omega) _ ⟨wrap64 (x2_8 + 1), t10_1, t10_2, x2_4_0, x2_4_1, Ax2_4_1, cx2_4_1, x2_4_2, Ax2_4_2, cx2_4_2, x2_4_3, Ax2_4_3, cx2_4_3, x2_4_4, x2_6_0, x2_6_1, Ax2_6_1, cx2_6_1, x2_6_2, Ax2_6_2, cx2_6_2, x2_6_3.set x2_8.toNat t10_0, Ax2_6_3, cx2_6_3, x2_6_4, H, rfl⟩)))))))))))))))))))))
   ·
    revert H; refine bdI ?_; rintro ⟨t11_0, t11_1, t11_2⟩ A11 H
    refine op_callM (spec_l1Once.ok b1000 l0_0 Al0_0 cl0_0 x2_1000_1 x2_1000_2 4 _ _ _ A11) [⟨6, 0, 0, false⟩] [0] [1, 2] 7 rfl rfl rfl rfl rfl rfl rfl rfl ?_
    rintro _ _ _ ⟨rfl, rfl, rfl⟩
    exact nmE (en := [.sl 2 k70 Ax2_4_1 cx2_4_1 x2_4_1 1 true, .sl 2 k70 Ax2_4_2 cx2_4_2 x2_4_2 2 true, .sl 2 .bool Ax2_4_3 cx2_4_3 x2_4_3 3 true, .sl 2 k70 Ax2_6_1 cx2_6_1 x2_6_1 4 true, .sl 2 k70 Ax2_6_2 cx2_6_2 x2_6_2 5 true, .sl 2 .bool Ax2_6_3 cx2_6_3 x2_6_3 6 true, .sl 0 (.int .u8) Al0_0 cl0_0 l0_0 0 false]) (by kernel_rfl) (xs [] [0, 1, 2, 3, 4, 5, 6] rfl rfl rfl (one1 1 rfl rfl (ov (EV.ld 1 none rfl rfl rfl) rfl (xs [] [0, 1, 2, 3, 4, 5, 6] rfl rfl rfl (one1 5 rfl rfl (ov (EV.ix 5 rfl rfl rfl g9 c8 rfl) rfl (xn rfl (one1 6 rfl rfl (op_stf x2_8 0 5 false t11_0 rfl rfl rfl rfl g9 c8 rfl rfl rfl rfl dq rfl (rlT 30 (v' := .slice Ax2_6_3 (x2_6_3.set x2_8.toNat t11_0).length cx2_6_3) rfl (sle _ _ _ _ _) (rlT 36 (v' := .slice Ax2_6_3 (x2_6_3.set x2_8.toNat t11_0).length cx2_6_3) rfl (sle _ _ _ _ _) (rlB 1 (cs' := [.int .i64 x2_6_0, .slice Ax2_6_1 x2_6_1.length cx2_6_1, .slice Ax2_6_2 x2_6_2.length cx2_6_2, .slice Ax2_6_3 (x2_6_3.set x2_8.toNat t11_0).length cx2_6_3, .int .i64 x2_6_4]) rfl (by simp only [List.length_set]) (nmE (en := [.sl 2 k70 Ax2_4_1 cx2_4_1 x2_4_1 1 true, .sl 2 k70 Ax2_4_2 cx2_4_2 x2_4_2 2 true, .sl 2 .bool Ax2_4_3 cx2_4_3 x2_4_3 3 true, .sl 2 k70 Ax2_6_1 cx2_6_1 x2_6_1 4 true, .sl 2 k70 Ax2_6_2 cx2_6_2 x2_6_2 5 true, .sl 0 (.int .u8) Al0_0 cl0_0 l0_0 0 false, .sl 2 .bool Ax2_6_3 cx2_6_3 (x2_6_3.set x2_8.toNat t11_0) 6 true]) (by kernel_rfl) (xn rfl (xd (pr [0, 4, 6, 8] [0, 1, 2] [0, 1, 2, 3, 4, 5, 6] rfl rfl rfl rfl (ge (rg (sv (EV.mv rfl) rfl (sv (EV.add rfl rfl) rfl (sv (EV.as rfl) rfl (re (wk [0, 4, 6, 8] [2, 0, 1] [⟨0, 2, 1, true⟩, ⟨1, 2, 2, true⟩, ⟨2, 2, 3, true⟩, ⟨3, 2, 4, true⟩, ⟨4, 2, 5, true⟩, ⟨6, 2, 6, true⟩, ⟨5, 0, 0, false⟩] (ih0 _ (by omega) _ ⟨wrap64 (x2_8 + 1), t11_1, t11_2, x2_4_0, x2_4_1, Ax2_4_1, cx2_4_1, x2_4_2, Ax2_4_2, cx2_4_2, x2_4_3, Ax2_4_3, cx2_4_3, x2_4_4, x2_6_0, x2_6_1, Ax2_6_1, cx2_6_1, x2_6_2, Ax2_6_2, cx2_6_2, x2_6_3.set x2_8.toNat t11_0, Ax2_6_3, cx2_6_3, x2_6_4, H, rfl⟩))))))))))))))))))))))))
  ·
   refine gf rfl (dF c8) (gx rfl (gs (rg (sv (EV.ld (v := .agg #[.int .i64 x2_6_0, .slice Ax2_6_1 x2_6_1.length cx2_6_1, .slice Ax2_6_2 x2_6_2.length cx2_6_2, .slice Ax2_6_3 x2_6_3.length cx2_6_3, .int .i64 x2_6_4]) 2 (some 5) rfl rfl rfl) rfl (so rfl (op_st (cs' := [.int .i64 x2_6_0, .slice Ax2_6_1 x2_6_1.length cx2_6_1, .slice Ax2_6_2 x2_6_2.length cx2_6_2, .slice Ax2_6_3 x2_6_3.length cx2_6_3, .int .i64 x2_6_4]) 1 rfl rfl rfl rfl rfl rfl (re (pr [4] [0, 1] [3, 4, 5, 6] rfl rfl rfl rfl ?_))))))))
   cases H
   exact rt Try.func110 rfl (.cell 1 (some 5) rfl rfl rfl .nil) rfl [0] [⟨0, 2, 1, true⟩, ⟨1, 2, 2, true⟩, ⟨2, 2, 3, true⟩] rfl rfl rfl rfl rfl ⟨_, _, _, _, _, _, rfl, rfl, rfl⟩
 ·
  obtain rfl := bF c6
  refine gf rfl rfl (gk (gs (rg (sv (EV.ld (v := .agg #[.int .i64 t4_0, .slice At4_1 t4_1.length ct4_1, .slice At4_2 t4_2.length ct4_2, .slice At4_3 t4_3.length ct4_3, .int .i64 t4_4]) 1 (some 5) rfl rfl rfl) rfl (so rfl (op_st (cs' := [.int .i64 t4_0, .slice At4_1 t4_1.length ct4_1, .slice At4_2 t4_2.length ct4_2, .slice At4_3 t4_3.length ct4_3, .int .i64 t4_4]) 0 rfl rfl rfl rfl rfl rfl (re ?_)))))))
  cases H
  exact rt Try.func110 rfl (.cell 0 (some 5) rfl rfl rfl .nil) rfl [2] [⟨1, 2, 1, true⟩, ⟨2, 2, 2, true⟩, ⟨3, 2, 3, true⟩] rfl rfl rfl rfl rfl ⟨_, _, _, _, _, _, rfl, rfl, rfl⟩
end Go.Proofs.Ytajjeemkdjfilaa.K
namespace Go.Proofs.Ytajjeemkdjfilaa.K
open Go Go.RowKit
set_option linter.unusedVariables false
set_option linter.unusedSimpArgs false
def spec_l16Any.f (k : Nat) (l0_0 : List Int) (a0_1 : Int) (a0_2 : Int) (a1 : Int) : Option (Int × (List S70) × (List S70) × (List Bool) × Int × Int × Int) := (spec_l16Draw.f k l0_0 a0_1 a0_2 a1).bind fun bt1 => ((spec_l1Below.f l0_0 bt1.2.2.2.2.2.1 bt1.2.2.2.2.2.2 16).bind fun bt2 => (if bt2.1 = 0 then ((spec_l1PickInt.f l0_0 bt2.2.1 bt2.2.2 ([0, 5] : List Int)).bind fun bt5 => (some (bt5.1, bt1.2.1, bt1.2.2.1, bt1.2.2.2.1, bt1.2.2.2.2.1, bt5.2.1, bt5.2.2))) else (if bt2.1 = 1 then (if bt1.2.2.2.1.length < 140737488355328 then (some (bt1.1, bt1.2.1, bt1.2.2.1, bt1.2.2.2.1 ++ ([true] : List Bool), bt1.2.2.2.2.1, bt2.2.1, bt2.2.2)) else none) else (if bt2.1 = 2 then ((spec_l1PickInt.f l0_0 bt2.2.1 bt2.2.2 ([(-1), 5] : List Int)).bind fun bt12 => (some (bt1.1, bt1.2.1, bt1.2.2.1, bt1.2.2.2.1, bt12.1, bt12.2.1, bt12.2.2))) else (if bt2.1 = 3 then (if bt1.2.1.length < 5864062014805 then ((spec_l2Any.f l0_0 bt2.2.1 bt2.2.2).bind fun bt15 => (some (bt1.1, bt1.2.1 ++ ([(⟨bt15.1, bt15.2.1, bt15.2.2.1⟩ : S70)] : List S70), bt1.2.2.1, bt1.2.2.2.1, bt1.2.2.2.2.1, bt15.2.2.2.1, bt15.2.2.2.2))) else none) else (some (bt1.1, bt1.2.1, bt1.2.2.1, bt1.2.2.2.1, bt1.2.2.2.2.1, bt2.2.1, bt2.2.2)))))))
set_option maxHeartbeats 4000000 in
set_option maxRecDepth 100000 in
theorem spec_l16Any.ok (k : Nat) (b1000 : Nat) (l0_0 : List Int) (Al0_0 : Option Addr) (cl0_0 : Nat) (a0_1 : Int) (a0_2 : Int) (a1 : Int) (r0 : Int) (r1 : List S70) (r2 : List S70) (r3 : List Bool) (r4 : Int) (r5 : Int) (r6 : Int) (H : spec_l16Any.f k l0_0 a0_1 a0_2 a1 = some (r0, r1, r2, r3, r4, r5, r6)) : Fn Try.prog 76 [.pointer (some ⟨b1000, 0, none⟩), .int .i64 a1] [⟨b1000, 111, [.slice Al0_0 l0_0.length cl0_0, .int .i64 a0_1, .int .i64 a0_2]⟩] [.sl 0 (.int .u8) Al0_0 cl0_0 l0_0 0 false] (fun v bx en => ∃ A1 c1 A2 c2 A3 c3, v = .agg #[.int .i64 r0, .slice A1 r1.length c1, .slice A2 r2.length c2, .slice A3 r3.length c3, .int .i64 r4] ∧ bx = [⟨b1000, 111, [.slice Al0_0 l0_0.length cl0_0, .int .i64 r5, .int .i64 r6]⟩] ∧ en = [.sl 2 k70 A1 c1 r1 1 true, .sl 2 k70 A2 c2 r2 2 true, .sl 2 .bool A3 c3 r3 3 true]) := by
 refine fn_ 40 Try.func76 rfl rfl rfl (fun base T w0 => ?_)
 rw [spec_l16Any.f] at H
 refine gs (rg (so rfl (op_alloc (cs := [.int .i64 0, .slice none 0 0, .slice none 0 0, .slice none 0 0, .int .i64 0]) (by kernel_rfl) rfl fun b4 => (re (gs (rg (sv (EV.mv rfl) rfl (sv (EV.mv rfl) rfl ?_))))))))
 revert H; refine bdI ?_; rintro ⟨t1_0, t1_1, t1_2, t1_3, t1_4, t1_5, t1_6⟩ A1 H
 refine so rfl (op_callM (spec_l16Draw.ok k b1000 l0_0 Al0_0 cl0_0 a0_1 a0_2 a1 _ _ _ _ _ _ _ A1) [⟨0, 0, 0, false⟩] [0] [1] 1 rfl rfl rfl rfl rfl rfl rfl rfl ?_)
 rintro _ _ _ ⟨At1_1, ct1_1, At1_2, ct1_2, At1_3, ct1_3, rfl, rfl, rfl⟩
 refine nmE (en := [.sl 0 (.int .u8) Al0_0 cl0_0 l0_0 0 false, .sl 2 k70 At1_1 ct1_1 t1_1 2 true, .sl 2 k70 At1_2 ct1_2 t1_2 3 true, .sl 2 .bool At1_3 ct1_3 t1_3 4 true]) (by kernel_rfl) (so rfl (op_alloc (cs := [.int .i64 0, .slice none 0 0, .slice none 0 0, .slice none 0 0, .int .i64 0]) (by kernel_rfl) rfl fun b5 => (so rfl (op_st (cs' := [.int .i64 t1_0, .slice At1_1 t1_1.length ct1_1, .slice At1_2 t1_2.length ct1_2, .slice At1_3 t1_3.length ct1_3, .int .i64 t1_4]) 2 rfl rfl rfl rfl rfl rfl (re (gs (gs (rg (sv (EV.mv rfl) rfl ?_)))))))))
 revert H; refine bdI ?_; rintro ⟨t2_0, t2_1, t2_2⟩ A2 H
 refine so rfl (op_callM (spec_l1Below.ok b1000 l0_0 Al0_0 cl0_0 t1_5 t1_6 16 _ _ _ A2) [⟨0, 0, 0, false⟩] [1] [0, 2] 5 rfl rfl rfl rfl rfl rfl rfl rfl ?_)
 rintro _ _ _ ⟨rfl, rfl, rfl⟩
 refine nmE (en := [.sl 0 (.int .u8) Al0_0 cl0_0 l0_0 0 false, .sl 2 k70 At1_1 ct1_1 t1_1 2 true, .sl 2 k70 At1_2 ct1_2 t1_2 3 true, .sl 2 .bool At1_3 ct1_3 t1_3 4 true]) (by kernel_rfl) (re (gb (gs (rg (sv (EV.eql rfl rfl) rfl (sv (EV.as rfl) rfl (re (pr [0, 4, 5, 10, 11] [0, 1, 2] [0, 1, 2, 3] rfl rfl rfl rfl ?_))))))))
 revert H; refine ifsI ?_ ?_ <;> intro c3 H
 ·
  refine gt rfl (dT c3) (rg (sv (EV.mv rfl) rfl (so rfl (op_lit (s := 1) (by_ := 8) (.int .i64) ([0, 5] : List Int) [[], []] [] 5 [.const (.int .i64 0), .const (.int .i64 5)] rfl rfl rfl rfl rfl rfl rfl rfl rfl rfl rfl rfl rfl dq rfl fun A14_4 c14_4 => ?_))))
  revert H; refine bdI ?_; rintro ⟨t5_0, t5_1, t5_2⟩ A5 H
  refine so rfl (op_callM (spec_l1PickInt.ok b1000 l0_0 Al0_0 cl0_0 t2_1 t2_2 ([0, 5] : List Int) A14_4 c14_4 _ _ _ A5) [⟨0, 0, 0, false⟩, ⟨4, 0, 0, false⟩] [2] [0, 1] 6 rfl rfl rfl rfl rfl rfl rfl rfl ?_)
  rintro _ _ _ ⟨rfl, rfl, rfl⟩
  refine nmE (en := [.sl 0 (.int .u8) Al0_0 cl0_0 l0_0 0 false, .sl 2 k70 At1_1 ct1_1 t1_1 2 true, .sl 2 k70 At1_2 ct1_2 t1_2 3 true, .sl 2 .bool At1_3 ct1_3 t1_3 4 true, .sl 2 (.int .i64) A14_4 c14_4 ([0, 5] : List Int) 5 true]) (by kernel_rfl) (sv (EV.fa 0 rfl) rfl (so rfl (op_st (cs' := [.int .i64 t5_0, .slice At1_1 t1_1.length ct1_1, .slice At1_2 t1_2.length ct1_2, .slice At1_3 t1_3.length ct1_3, .int .i64 t1_4]) 1 rfl rfl rfl rfl rfl rfl (re (pr [4, 5] [0, 1, 2] [0, 1, 2, 3] rfl rfl rfl rfl (ge (gs (rg (sv (EV.ld (v := .agg #[.int .i64 t5_0, .slice At1_1 t1_1.length ct1_1, .slice At1_2 t1_2.length ct1_2, .slice At1_3 t1_3.length ct1_3, .int .i64 t1_4]) 1 (some 5) rfl rfl rfl) rfl (so rfl (op_st (cs' := [.int .i64 t5_0, .slice At1_1 t1_1.length ct1_1, .slice At1_2 t1_2.length ct1_2, .slice At1_3 t1_3.length ct1_3, .int .i64 t1_4]) 0 rfl rfl rfl rfl rfl rfl (re ?_))))))))))))
  cases H
  exact rt Try.func76 rfl (.cell 0 (some 5) rfl rfl rfl .nil) rfl [2] [⟨1, 2, 1, true⟩, ⟨2, 2, 2, true⟩, ⟨3, 2, 3, true⟩] rfl rfl rfl rfl rfl ⟨_, _, _, _, _, _, rfl, rfl, rfl⟩
 ·
  refine gf rfl (dF c3) (gs (rg (sv (EV.eql rfl rfl) rfl (sv (EV.as rfl) rfl (re ?_)))))
  revert H; refine ifsI ?_ ?_ <;> intro c6 H
  ·
   refine gt rfl (dT c6) (rg (sv (EV.fa 3 rfl) rfl (sv (EV.ld 1 none rfl rfl rfl) rfl (so rfl (op_lit (s := 1) (by_ := 1) .bool ([true] : List Bool) [[]] [] 5 [.const (.bool true)] rfl rfl rfl rfl rfl rfl rfl rfl rfl rfl rfl rfl rfl dq rfl fun A21_7 c21_7 => ?_)))))
   revert H; refine ggI ?_; intro g8 H
   refine so rfl (op_app (k := .bool) (s := 1) (by_ := 1) 3 4 rfl rfl rfl rfl (ap1 g8 dq) (ap1n g8 dq) (.inl rfl) true (fun _ => .inl rfl) rfl rfl fun A22_9 c22_9 => (nmE (en := [.sl 0 (.int .u8) Al0_0 cl0_0 l0_0 0 false, .sl 2 k70 At1_1 ct1_1 t1_1 2 true, .sl 2 k70 At1_2 ct1_2 t1_2 3 true, .sl 2 .bool A21_7 c21_7 ([true] : List Bool) 5 true, .sl 2 .bool A22_9 c22_9 (t1_3 ++ ([true] : List Bool)) 4 true]) (by kernel_rfl) (sv (EV.fa 3 rfl) rfl (so rfl (op_st (cs' := [.int .i64 t1_0, .slice At1_1 t1_1.length ct1_1, .slice At1_2 t1_2.length ct1_2, .slice A22_9 (t1_3 ++ ([true] : List Bool)).length c22_9, .int .i64 t1_4]) 1 rfl rfl rfl rfl rfl rfl (re (pr [4, 5] [0, 1, 2] [0, 1, 2, 4] rfl rfl rfl rfl (ge (gs (rg (sv (EV.ld (v := .agg #[.int .i64 t1_0, .slice At1_1 t1_1.length ct1_1, .slice At1_2 t1_2.length ct1_2, .slice A22_9 (t1_3 ++ ([true] : List Bool)).length c22_9, .int .i64 t1_4]) 1 (some 5) rfl rfl rfl) rfl (so rfl (op_st (cs' := [.int .i64 t1_0, .slice At1_1 t1_1.length ct1_1, .slice At1_2 t1_2.length ct1_2, .slice A22_9 (t1_3 ++ ([true] : List Bool)).length c22_9, .int .i64 t1_4]) 0 rfl rfl rfl rfl rfl rfl (re ?_))))))))))))))
   cases H
   exact rt Try.func76 rfl (.cell 0 (some 5) rfl rfl rfl .nil) rfl [2] [⟨1, 2, 1, true⟩, ⟨2, 2, 2, true⟩, ⟨3, 2, 3, true⟩] rfl rfl rfl rfl rfl ⟨_, _, _, _, _, _, rfl, rfl, rfl⟩
  ·
   refine gf rfl (dF c6) (gs (rg (sv (EV.eql rfl rfl) rfl (sv (EV.as rfl) rfl (re ?_)))))
   revert H; refine ifsI ?_ ?_ <;> intro c10 H
   ·
    refine gt rfl (dT c10) (rg (sv (EV.mv rfl) rfl (so rfl (op_lit (s := 1) (by_ := 8) (.int .i64) ([(-1), 5] : List Int) [[], []] [] 5 [.const (.int .i64 (-1)), .const (.int .i64 5)] rfl rfl rfl rfl rfl rfl rfl rfl rfl rfl rfl rfl rfl dq rfl fun A27_11 c27_11 => ?_))))
    revert H; refine bdI ?_; rintro ⟨t12_0, t12_1, t12_2⟩ A12 H
    refine so rfl (op_callM (spec_l1PickInt.ok b1000 l0_0 Al0_0 cl0_0 t2_1 t2_2 ([(-1), 5] : List Int) A27_11 c27_11 _ _ _ A12) [⟨0, 0, 0, false⟩, ⟨4, 0, 0, false⟩] [2] [0, 1] 6 rfl rfl rfl rfl rfl rfl rfl rfl ?_)
    rintro _ _ _ ⟨rfl, rfl, rfl⟩
    refine nmE (en := [.sl 0 (.int .u8) Al0_0 cl0_0 l0_0 0 false, .sl 2 k70 At1_1 ct1_1 t1_1 2 true, .sl 2 k70 At1_2 ct1_2 t1_2 3 true, .sl 2 .bool At1_3 ct1_3 t1_3 4 true, .sl 2 (.int .i64) A27_11 c27_11 ([(-1), 5] : List Int) 5 true]) (by kernel_rfl) (sv (EV.fa 4 rfl) rfl (so rfl (op_st (cs' := [.int .i64 t1_0, .slice At1_1 t1_1.length ct1_1, .slice At1_2 t1_2.length ct1_2, .slice At1_3 t1_3.length ct1_3, .int .i64 t12_0]) 1 rfl rfl rfl rfl rfl rfl (re (pr [4, 5] [0, 1, 2] [0, 1, 2, 3] rfl rfl rfl rfl (ge (gs (rg (sv (EV.ld (v := .agg #[.int .i64 t1_0, .slice At1_1 t1_1.length ct1_1, .slice At1_2 t1_2.length ct1_2, .slice At1_3 t1_3.length ct1_3, .int .i64 t12_0]) 1 (some 5) rfl rfl rfl) rfl (so rfl (op_st (cs' := [.int .i64 t1_0, .slice At1_1 t1_1.length ct1_1, .slice At1_2 t1_2.length ct1_2, .slice At1_3 t1_3.length ct1_3, .int .i64 t12_0]) 0 rfl rfl rfl rfl rfl rfl (re ?_))))))))))))
    cases H
    exact rt Try.func76 rfl (.cell 0 (some 5) rfl rfl rfl .nil) rfl [2] [⟨1, 2, 1, true⟩, ⟨2, 2, 2, true⟩, ⟨3, 2, 3, true⟩] rfl rfl rfl rfl rfl ⟨_, _, _, _, _, _, rfl, rfl, rfl⟩
   ·
    refine gf rfl (dF c10) (gs (rg (sv (EV.eql rfl rfl) rfl (sv (EV.as rfl) rfl (re (pr [0, 4, 5, 30] [0, 1, 2] [0, 1, 2, 3] rfl rfl rfl rfl ?_))))))
    revert H; refine ifsI ?_ ?_ <;> intro c13 H
    ·
     refine gt rfl (dT c13) ?_
     revert H; refine ggI ?_; intro g14 H
     refine dr [0, 1] [0, 2, 3] [6, 7] 8 rfl rfl rfl rfl (xv 0 [0, 1] [0, 2, 3] rfl (EV.fa 1 rfl) rfl rfl rfl rfl (xv 1 [0, 1] [0, 2, 3] rfl (EV.ld 1 none rfl rfl rfl) rfl rfl rfl rfl (xv 2 [0, 1] [0, 2, 3] rfl (EV.mv rfl) rfl rfl rfl rfl (one1 3 rfl rfl ?_))))
     revert H; refine bdI ?_; rintro ⟨t15_0, t15_1, t15_2, t15_3, t15_4⟩ A15 H
     refine op_callM (spec_l2Any.ok b1000 l0_0 Al0_0 cl0_0 t2_1 t2_2 _ _ _ _ _ A15) [⟨0, 0, 0, false⟩] [2] [0, 1] 5 rfl rfl rfl rfl rfl rfl rfl rfl ?_
     rintro _ _ _ ⟨rfl, rfl, rfl⟩
     refine nmE (en := [.sl 0 (.int .u8) Al0_0 cl0_0 l0_0 0 false, .sl 2 k70 At1_1 ct1_1 t1_1 2 true, .sl 2 k70 At1_2 ct1_2 t1_2 3 true, .sl 2 .bool At1_3 ct1_3 t1_3 4 true]) (by kernel_rfl) (xs [0, 1] [0, 2, 3] rfl rfl rfl (one1 4 rfl rfl (op_lit (s := 3) (by_ := 24) k70 ([(⟨t15_0, t15_1, t15_2⟩ : S70)] : List S70) [[]] [] 5 [.tmp 35] rfl rfl rfl rfl rfl rfl rfl rfl rfl rfl rfl rfl rfl dq rfl fun A36_16 c36_16 => (xs [0, 1] [0, 2, 3] rfl rfl rfl (one1 5 rfl rfl (op_app (k := k70) (s := 3) (by_ := 24) 1 4 rfl rfl rfl rfl (ap1 g14 dq) (ap1n g14 dq) (.inl rfl) true (fun _ => .inl rfl) rfl rfl fun A37_17 c37_17 => (nmE (en := [.sl 0 (.int .u8) Al0_0 cl0_0 l0_0 0 false, .sl 2 k70 At1_2 ct1_2 t1_2 3 true, .sl 2 .bool At1_3 ct1_3 t1_3 4 true, .sl 2 k70 A36_16 c36_16 ([(⟨t15_0, t15_1, t15_2⟩ : S70)] : List S70) 5 true, .sl 2 k70 A37_17 c37_17 (t1_1 ++ ([(⟨t15_0, t15_1, t15_2⟩ : S70)] : List S70)) 2 true]) (by kernel_rfl) (xs [0, 1] [0, 1, 2] rfl rfl rfl (one1 6 rfl rfl (ov (EV.fa 1 rfl) rfl (xn rfl (one1 7 rfl rfl (op_st (cs' := [.int .i64 t1_0, .slice A37_17 (t1_1 ++ ([(⟨t15_0, t15_1, t15_2⟩ : S70)] : List S70)).length c37_17, .slice At1_2 t1_2.length ct1_2, .slice At1_3 t1_3.length ct1_3, .int .i64 t1_4]) 1 rfl rfl rfl rfl rfl rfl (xn rfl (xd (pr [4, 5] [0, 1, 2] [0, 1, 2, 4] rfl rfl rfl rfl (ge (gs (rg (sv (EV.ld (v := .agg #[.int .i64 t1_0, .slice A37_17 (t1_1 ++ ([(⟨t15_0, t15_1, t15_2⟩ : S70)] : List S70)).length c37_17, .slice At1_2 t1_2.length ct1_2, .slice At1_3 t1_3.length ct1_3, .int .i64 t1_4]) 1 (some 5) rfl rfl rfl) rfl (so rfl (op_st (cs' := [.int .i64 t1_0, .slice A37_17 (t1_1 ++ ([(⟨t15_0, t15_1, t15_2⟩ : S70)] : List S70)).length c37_17, .slice At1_2 t1_2.length ct1_2, .slice At1_3 t1_3.length ct1_3, .int .i64 t1_4]) 0 rfl rfl rfl rfl rfl rfl (re ?_)))))))))))))))))))))))
     cases H
     exact rt Try.func76 rfl (.cell 0 (some 5) rfl rfl rfl .nil) rfl [2] [⟨3, 2, 1, true⟩, ⟨1, 2, 2, true⟩, ⟨2, 2, 3, true⟩] rfl rfl rfl rfl rfl ⟨_, _, _, _, _, _, rfl, rfl, rfl⟩
    ·
     refine gf rfl (dF c13) (gk (ge (gs (rg (sv (EV.ld (v := .agg #[.int .i64 t1_0, .slice At1_1 t1_1.length ct1_1, .slice At1_2 t1_2.length ct1_2, .slice At1_3 t1_3.length ct1_3, .int .i64 t1_4]) 1 (some 5) rfl rfl rfl) rfl (so rfl (op_st (cs' := [.int .i64 t1_0, .slice At1_1 t1_1.length ct1_1, .slice At1_2 t1_2.length ct1_2, .slice At1_3 t1_3.length ct1_3, .int .i64 t1_4]) 0 rfl rfl rfl rfl rfl rfl (re ?_))))))))
     cases H
     exact rt Try.func76 rfl (.cell 0 (some 5) rfl rfl rfl .nil) rfl [2] [⟨1, 2, 1, true⟩, ⟨2, 2, 2, true⟩, ⟨3, 2, 3, true⟩] rfl rfl rfl rfl rfl ⟨_, _, _, _, _, _, rfl, rfl, rfl⟩
end Go.Proofs.Ytajjeemkdjfilaa.K
