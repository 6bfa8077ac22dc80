/- Walks: what the functions compute. Printed by gen.py; no condition. -/
import Derived.Test.YtamjndlkompeeaaVFnJoinerTerminationf
namespace Go.Proofs.Ytamjndlkompeeaa.K
open Go Go.RowKit
set_option linter.unusedVariables false
set_option linter.unusedSimpArgs false
def laws_FnJoinerTermination.l0 : Nat → (List Int) → Int → Int → Int → (List S27) → Int → Int → Option (Bool)
 | 0, _, _, _, _, _, _, _ => none
 | k + 1, x2_4, x2_5, x2_9, x2_10, x2_3_0, x2_3_1, x2_3_2 => if x2_10 < (x2_3_0.length : Int) then (if 0 ≤ x2_10 then ((impl_JoinStepBound.f ((rd_T27 x2_3_0 x2_10).f1) ((rd_T27 x2_3_0 x2_10).f2)).bind fun t14 => (laws_FnJoinerTermination.l0 k x2_4 x2_5 (wrap64 (x2_9 + t14)) (wrap64 (x2_10 + 1)) x2_3_0 x2_3_1 x2_3_2)) else none) else ((impl_FormatJoiner.f k x2_3_0 x2_3_1 x2_3_2).bind fun t15 => ((impl_ParseJoiner.f k t15).bind fun bt16 => ((impl_StepsToFinish.f k bt16.1 bt16.2.1 bt16.2.2.1 x2_4).bind fun bt17 => (if x2_5 ≤ x2_9 then (if x2_5 ≥ (x2_3_0.length : Int) then (if bt16.2.2.2 = true then ((spec_EqualJoiners.f k bt16.1 bt16.2.1 bt16.2.2.1 x2_3_0 x2_3_1 x2_3_2).bind fun t21 => (if t21 = true then (if bt17.2 = true then (some (decide (bt17.1 = x2_5))) else (some false)) else (some false))) else (some false)) else (some false)) else (some false)))))
def laws_FnJoinerTermination.f (k : Nat) (l0 : List Int) : Option (Bool) := (laws_big.f l0).bind fun t1 => (if t1 = true then (some true) else ((spec_DrawStepsToFinish.f k l0).bind fun bt3 => ((impl_StepsToFinish.f k bt3.1 bt3.2.1 bt3.2.2.1 bt3.2.2.2).bind fun bt4 => ((spec_StepsToFinish.f k bt3.1 bt3.2.1 bt3.2.2.1 bt3.2.2.2).bind fun bt5 => (if (bt4.2 == bt5.2) = true then (if bt4.1 = bt5.1 then (if bt4.2 = true then (laws_FnJoinerTermination.l0 k bt3.2.2.2 bt4.1 0 0 bt3.1 bt3.2.1 bt3.2.2.1) else (some (decide (bt4.1 = 0)))) else (some false)) else (some false))))))
set_option maxHeartbeats 4000000 in
set_option maxRecDepth 100000 in
theorem laws_FnJoinerTermination.ok (k : Nat) (l0 : List Int) (Al0 : Option Addr) (cl0 : Nat) (r0 : Bool) (H : laws_FnJoinerTermination.f k l0 = some r0) : Fn Try.prog 5 [.slice Al0 l0.length cl0] [] [.sl 0 (.int .u8) Al0 cl0 l0 0 false] (fun v bx en => v = .bool r0 ∧ bx = [] ∧ en = []) := by
 refine fn_ 106 Try.func5 rfl rfl rfl (fun base T w0 => ?_)
 rw [laws_FnJoinerTermination.f] at H
 refine gs (rg (sv (EV.as rfl) rfl (re (gs (gs (rg (sv (EV.mv rfl) rfl ?_)))))))
 revert H; refine bdI ?_; rintro t1 A1 H
 refine so rfl (op_call (laws_big.ok l0 Al0 cl0 _ A1) [⟨0, 0, 0, false⟩] 1 rfl rfl rfl rfl rfl ?_)
 rintro _ _ _ ⟨rfl, rfl, rfl⟩
 refine re ?_
 revert H; refine ifsI ?_ ?_ <;> intro c2 H
 ·
  subst c2
  refine gt rfl rfl (gs (rg (sv (EV.as rfl) rfl (re ?_))))
  cases H
  exact rt Try.func5 rfl (.tmp rfl .nil) rfl [] [] rfl rfl rfl rfl rfl ⟨rfl, rfl, rfl⟩
 ·
  obtain rfl := bF c2
  refine gf rfl rfl (gk (gs (rg (sv (EV.mv rfl) rfl ?_))))
  revert H; refine bdI ?_; rintro ⟨t3_0, t3_1, t3_2, t3_3⟩ A3 H
  refine so rfl (op_call (spec_DrawStepsToFinish.ok k l0 Al0 cl0 _ _ _ _ A3) [⟨0, 0, 0, false⟩] 1 rfl rfl rfl rfl rfl ?_)
  rintro _ _ _ ⟨At3_0, ct3_0, At3_3, ct3_3, rfl, rfl, rfl⟩
  refine sv (EV.mv rfl) rfl (sv (EV.ex rfl rfl) rfl (sv (EV.ex rfl rfl) rfl (so rfl (op_alloc (cs := [.slice none 0 0, .int .i64 0, .int .i64 0]) (by kernel_rfl) rfl fun b3 => (so rfl (op_st (cs' := [.slice At3_0 t3_0.length ct3_0, .int .i64 t3_1, .int .i64 t3_2]) 0 rfl rfl rfl rfl rfl rfl (sv (EV.as rfl) rfl (re (pr [3, 4] [0] [1, 2] rfl rfl rfl rfl (gs (rg (sv (EV.ld (v := .agg #[.slice At3_0 t3_0.length ct3_0, .int .i64 t3_1, .int .i64 t3_2]) 0 (some 3) rfl rfl rfl) rfl (sv (EV.mv rfl) rfl ?_)))))))))))))
  revert H; refine bdI ?_; rintro ⟨t4_0, t4_1⟩ A4 H
  refine so rfl (op_call (impl_StepsToFinish.ok k t3_0 At3_0 ct3_0 t3_1 t3_2 t3_3 At3_3 ct3_3 _ _ A4) [⟨0, 0, 0, false⟩, ⟨1, 0, 0, false⟩] 4 rfl rfl rfl rfl rfl ?_)
  rintro _ _ _ ⟨rfl, rfl, rfl⟩
  refine sv (EV.mv rfl) rfl (sv (EV.ex rfl rfl) rfl (sv (EV.ex rfl rfl) rfl (sv (EV.as rfl) rfl (sv (EV.as rfl) rfl (re (pr [3, 4, 5, 6] [0] [0, 1] rfl rfl rfl rfl (gs (rg (sv (EV.ld (v := .agg #[.slice At3_0 t3_0.length ct3_0, .int .i64 t3_1, .int .i64 t3_2]) 0 (some 3) rfl rfl rfl) rfl (sv (EV.mv rfl) rfl ?_))))))))))
  revert H; refine bdI ?_; rintro ⟨t5_0, t5_1⟩ A5 H
  refine so rfl (op_call (spec_StepsToFinish.ok k t3_0 At3_0 ct3_0 t3_1 t3_2 t3_3 At3_3 ct3_3 _ _ A5) [⟨0, 0, 0, false⟩, ⟨1, 0, 0, false⟩] 4 rfl rfl rfl rfl rfl ?_)
  rintro _ _ _ ⟨rfl, rfl, rfl⟩
  refine sv (EV.mv rfl) rfl (sv (EV.ex rfl rfl) rfl (sv (EV.ex rfl rfl) rfl (sv (EV.as rfl) rfl (sv (EV.as rfl) rfl (re (pr [3, 4, 5, 6, 7, 8] [0] [0, 1] rfl rfl rfl rfl (gs (gs (rg (sv (EV.mv rfl) rfl (sv (EV.mv rfl) rfl (sv (EV.neb rfl rfl) rfl (sv (EV.mv rfl) rfl ?_)))))))))))))
  revert H; refine ifsI ?_ ?_ <;> intro c6 H
  ·
   refine ts 37 rfl (bN c6) (sv (EV.mv rfl) rfl (sv (EV.mv rfl) rfl (sv (EV.neq rfl rfl) rfl (sv (EV.pf rfl rfl rfl) rfl (re (pr [3, 4, 5, 6, 41] [0] [0, 1] rfl rfl rfl rfl ?_))))))
   revert H; refine ifsI ?_ ?_ <;> intro c7 H
   ·
    refine gf rfl (nF c7) (gk (gs (gs (rg (sv (EV.mv rfl) rfl (sv (EV.nt rfl) rfl (re ?_)))))))
    revert H; refine ifsI ?_ ?_ <;> intro c8 H
    ·
     subst c8
     refine gf rfl rfl (gk (gs (rg (sv (EV.as rfl) rfl (re (gs (gs (rg (sv (EV.as rfl) rfl (re (gb ?_)))))))))))
     refine lo (fun kk S => ∃ (x2_4 : List Int) (Ax2_4 : Option Addr) (cx2_4 : Nat) (x2_5 : Int) (x2_9 : Int) (x2_10 : Int) (x2_3_0 : List S27) (Ax2_3_0 : Option Addr) (cx2_3_0 : Nat) (x2_3_1 : Int) (x2_3_2 : Int), laws_FnJoinerTermination.l0 kk x2_4 x2_5 x2_9 x2_10 x2_3_0 x2_3_1 x2_3_2 = some r0 ∧ S = ⟨[(3, .pointer (some ⟨b3, 0, none⟩)), (4, .slice Ax2_4 x2_4.length cx2_4), (5, .int .i64 x2_5), (9, .int .i64 x2_9), (10, .int .i64 x2_10)], [⟨b3, 60, [.slice Ax2_3_0 x2_3_0.length cx2_3_0, .int .i64 x2_3_1, .int .i64 x2_3_2]⟩], [.sl 2 (.int .i64) Ax2_4 cx2_4 x2_4 1 true, .sl 1 k27 Ax2_3_0 cx2_3_0 x2_3_0 2 true]⟩) (fun S hS => ?_) (fun n0 ih0 S hS => ?_) ⟨t3_3, At3_3, ct3_3, t4_0, 0, 0, t3_0, At3_0, ct3_0, t3_1, t3_2, H, rfl⟩ (fun h => wk [3, 4, 5, 9, 10] [0] [⟨1, 2, 1, true⟩, ⟨0, 1, 2, true⟩] h)
     · clear H; obtain ⟨_, _, _, _, _, _, _, _, _, _, _, H, _⟩ := hS; rw [laws_FnJoinerTermination.l0] at H; cases H
     clear H
     obtain ⟨x2_4, Ax2_4, cx2_4, x2_5, x2_9, x2_10, x2_3_0, Ax2_3_0, cx2_3_0, x2_3_1, x2_3_2, H, rfl⟩ := hS
     rw [laws_FnJoinerTermination.l0] at H
     refine gs (gs (rg (sv (EV.mv rfl) rfl (sv (EV.fa 0 rfl) rfl (sv (EV.ld 0 none rfl rfl rfl) rfl (sv (EV.ln rfl) rfl (sv (EV.lss rfl rfl) rfl (re ?_))))))))
     revert H; refine ifsI ?_ ?_ <;> intro c9 H
     ·
      refine gt rfl (dT c9) (gk (gs (gb ?_)))
      revert H; refine ggI ?_; intro g10 H
      refine opn (i := x2_10) 1 z27 rfl g10 c9 fun A_11 c_11 A_12 c_12 A_13 c_13 => (dr [0] [0, 1, 2, 3, 4, 5] [] 16 rfl rfl rfl rfl (xv 0 [0] [0, 1, 2, 3, 4, 5] rfl (EV.mv rfl) rfl rfl rfl rfl (xv 1 [0] [0, 1, 2, 3, 4, 5] rfl (EV.fa 0 rfl) rfl rfl rfl rfl (xv 2 [0] [0, 1, 2, 3, 4, 5] rfl (EV.ld 0 none rfl rfl rfl) rfl rfl rfl rfl (xv 3 [0] [0, 1, 2, 3, 4, 5] rfl (EV.mv rfl) rfl rfl rfl rfl (xv 4 [0] [0, 1, 2, 3, 4, 5] rfl (EV.ix 1 rfl rfl rfl g10 c9 rfl) rfl rfl rfl rfl (xv 5 [0] [0, 1, 2, 3, 4, 5] rfl (EV.fa 1 rfl) rfl rfl rfl rfl (xv 6 [0] [0, 1, 2, 3, 4, 5] rfl (EV.lc (v := .slice A_11 ((rd_T27 x2_3_0 x2_10).f1).length c_11) 1 none 2 rfl rfl rfl rfl) rfl rfl rfl rfl (xv 7 [0] [0, 1, 2, 3, 4, 5] rfl (EV.fa 0 rfl) rfl rfl rfl rfl (xv 8 [0] [0, 1, 2, 3, 4, 5] rfl (EV.ld 0 none rfl rfl rfl) rfl rfl rfl rfl (xv 9 [0] [0, 1, 2, 3, 4, 5] rfl (EV.mv rfl) rfl rfl rfl rfl (xv 10 [0] [0, 1, 2, 3, 4, 5] rfl (EV.ix 1 rfl rfl rfl g10 c9 rfl) rfl rfl rfl rfl (xv 11 [0] [0, 1, 2, 3, 4, 5] rfl (EV.fa 2 rfl) rfl rfl rfl rfl (xv 12 [0] [0, 1, 2, 3, 4, 5] rfl (EV.lc (v := .slice A_12 ((rd_T27 x2_3_0 x2_10).f2).length c_12) 2 none 2 rfl rfl rfl rfl) rfl rfl rfl rfl (one1 13 rfl rfl ?_)))))))))))))))
      revert H; refine bdI ?_; rintro t14 A14 H
      refine op_call (impl_JoinStepBound.ok ((rd_T27 x2_3_0 x2_10).f1) A_11 c_11 ((rd_T27 x2_3_0 x2_10).f2) A_12 c_12 _ A14) [⟨3, 0, 0, false⟩, ⟨4, 0, 0, false⟩] 3 rfl rfl rfl rfl rfl ?_
      rintro _ _ _ ⟨rfl, rfl, rfl⟩
      exact xs [0] [0, 1, 2, 3, 4, 5] rfl rfl rfl (xv 14 [0] [0, 1, 2, 3, 4, 5] rfl (EV.add rfl rfl) rfl rfl rfl rfl (xv 15 [0] [0, 1, 2, 3, 4, 5] rfl (EV.as rfl) rfl rfl rfl rfl (xd (pr [3, 4, 5, 9, 10] [0] [0, 1] rfl rfl rfl rfl (ge (rg (sv (EV.mv rfl) rfl (sv (EV.add rfl rfl) rfl (sv (EV.as rfl) rfl (re (wk [3, 4, 5, 9, 10] [0] [⟨0, 2, 1, true⟩, ⟨1, 1, 2, true⟩] (ih0 _ (by omega) _ ⟨x2_4, Ax2_4, cx2_4, x2_5, wrap64 (x2_9 + t14), wrap64 (x2_10 + 1), x2_3_0, Ax2_3_0, cx2_3_0, x2_3_1, x2_3_2, H, rfl⟩))))))))))))
     ·
      refine gf rfl (dF c9) (gx rfl (gs (rg (sv (EV.ld (v := .agg #[.slice Ax2_3_0 x2_3_0.length cx2_3_0, .int .i64 x2_3_1, .int .i64 x2_3_2]) 0 (some 3) rfl rfl rfl) rfl ?_))))
      revert H; refine bdI ?_; rintro t15 A15 H
      refine so rfl (op_call (impl_FormatJoiner.ok n0 x2_3_0 Ax2_3_0 cx2_3_0 x2_3_1 x2_3_2 _ A15) [⟨1, 0, 0, false⟩] 3 rfl rfl rfl rfl rfl ?_)
      rintro _ _ _ ⟨rfl, rfl, rfl⟩
      revert H; refine bdI ?_; rintro ⟨t16_0, t16_1, t16_2, t16_3⟩ A16 H
      refine so rfl (op_call (impl_ParseJoiner.ok n0 t15 _ _ _ _ A16) [] 3 rfl rfl rfl rfl rfl ?_)
      rintro _ _ _ ⟨At16_0, ct16_0, rfl, rfl, rfl⟩
      refine sv (EV.mv rfl) rfl (sv (EV.ex rfl rfl) rfl (sv (EV.ex rfl rfl) rfl (so rfl (op_alloc (cs := [.slice none 0 0, .int .i64 0, .int .i64 0]) (by kernel_rfl) rfl fun b11 => (so rfl (op_st (cs' := [.slice At16_0 t16_0.length ct16_0, .int .i64 t16_1, .int .i64 t16_2]) 1 rfl rfl rfl rfl rfl rfl (sv (EV.as rfl) rfl (re (pr [3, 4, 5, 9, 11, 12] [0, 1] [0, 1, 2] rfl rfl rfl rfl (gs (rg (sv (EV.ld (v := .agg #[.slice At16_0 t16_0.length ct16_0, .int .i64 t16_1, .int .i64 t16_2]) 1 (some 3) rfl rfl rfl) rfl (sv (EV.mv rfl) rfl ?_)))))))))))))
      revert H; refine bdI ?_; rintro ⟨t17_0, t17_1⟩ A17 H
      refine so rfl (op_call (impl_StepsToFinish.ok n0 t16_0 At16_0 ct16_0 t16_1 t16_2 x2_4 Ax2_4 cx2_4 _ _ A17) [⟨2, 0, 0, false⟩, ⟨0, 0, 0, false⟩] 5 rfl rfl rfl rfl rfl ?_)
      rintro _ _ _ ⟨rfl, rfl, rfl⟩
      refine sv (EV.mv rfl) rfl (sv (EV.ex rfl rfl) rfl (sv (EV.ex rfl rfl) rfl (sv (EV.as rfl) rfl (sv (EV.as rfl) rfl (re (pr [3, 5, 9, 11, 12, 13, 14] [0, 1] [1, 2] rfl rfl rfl rfl (gs (rg (sv (EV.mv rfl) rfl (sv (EV.mv rfl) rfl (sv (EV.leq rfl rfl) rfl (sv (EV.mv rfl) rfl ?_))))))))))))
      revert H; refine ifsI ?_ ?_ <;> intro c18 H
      ·
       refine ts 83 rfl (dT c18) (sv (EV.mv rfl) rfl (sv (EV.fa 0 rfl) rfl (sv (EV.ld 0 none rfl rfl rfl) rfl (sv (EV.ln rfl) rfl (sv (EV.geq rfl rfl) rfl (sv (EV.pt rfl rfl rfl) rfl (sv (EV.mv rfl) rfl ?_)))))))
       revert H; refine ifsI ?_ ?_ <;> intro c19 H
       ·
        refine ts 90 rfl (dT c19) (sv (EV.mv rfl) rfl (sv (EV.pt rfl rfl rfl) rfl (sv (EV.mv rfl) rfl ?_)))
        revert H; refine ifsI ?_ ?_ <;> intro c20 H
        ·
         subst c20
         refine ts 93 rfl rfl (sv (EV.ld (v := .agg #[.slice At16_0 t16_0.length ct16_0, .int .i64 t16_1, .int .i64 t16_2]) 1 (some 3) rfl rfl rfl) rfl (sv (EV.ld (v := .agg #[.slice Ax2_3_0 x2_3_0.length cx2_3_0, .int .i64 x2_3_1, .int .i64 x2_3_2]) 0 (some 3) rfl rfl rfl) rfl ?_))
         revert H; refine bdI ?_; rintro t21 A21 H
         refine so rfl (op_call (spec_EqualJoiners.ok n0 t16_0 At16_0 ct16_0 t16_1 t16_2 x2_3_0 Ax2_3_0 cx2_3_0 x2_3_1 x2_3_2 _ A21) [⟨1, 0, 0, false⟩, ⟨0, 0, 0, false⟩] 5 rfl rfl rfl rfl rfl ?_)
         rintro _ _ _ ⟨rfl, rfl, rfl⟩
         refine sv (EV.pt rfl rfl rfl) rfl (sv (EV.mv rfl) rfl ?_)
         revert H; refine ifsI ?_ ?_ <;> intro c22 H
         ·
          subst c22
          refine ts 98 rfl rfl (sv (EV.mv rfl) rfl (sv (EV.pt rfl rfl rfl) rfl (sv (EV.mv rfl) rfl ?_)))
          revert H; refine ifsI ?_ ?_ <;> intro c23 H
          ·
           subst c23
           refine ts 101 rfl rfl (sv (EV.mv rfl) rfl (sv (EV.mv rfl) rfl (sv (EV.eql rfl rfl) rfl (sv (EV.pt rfl rfl rfl) rfl (sv (EV.as rfl) rfl (re (pr [2] [] [] rfl rfl rfl rfl ?_)))))))
           cases H
           exact rt Try.func5 rfl (.tmp rfl .nil) rfl [] [] rfl rfl rfl rfl rfl ⟨rfl, rfl, rfl⟩
          ·
           obtain rfl := bF c23
           refine ts 101 rfl rfl (sk rfl (sk rfl (sk rfl (sv (EV.pf rfl rfl rfl) rfl (sv (EV.as rfl) rfl (re (pr [2] [] [] rfl rfl rfl rfl ?_)))))))
           cases H
           exact rt Try.func5 rfl (.tmp rfl .nil) rfl [] [] rfl rfl rfl rfl rfl ⟨rfl, rfl, rfl⟩
         ·
          obtain rfl := bF c22
          refine ts 98 rfl rfl (sk rfl (sv (EV.pf rfl rfl rfl) rfl (sv (EV.mv rfl) rfl (sk rfl (sk rfl (sk rfl (sv (EV.pf rfl rfl rfl) rfl (sv (EV.as rfl) rfl (re (pr [2] [] [] rfl rfl rfl rfl ?_))))))))))
          cases H
          exact rt Try.func5 rfl (.tmp rfl .nil) rfl [] [] rfl rfl rfl rfl rfl ⟨rfl, rfl, rfl⟩
        ·
         obtain rfl := bF c20
         refine ts 93 rfl rfl (sk rfl (sk rfl (sk rfl (sv (EV.pf rfl rfl rfl) rfl (sv (EV.mv rfl) rfl (sk rfl (sv (EV.pf rfl rfl rfl) rfl (sv (EV.mv rfl) rfl (sk rfl (sk rfl (sk rfl (sv (EV.pf rfl rfl rfl) rfl (sv (EV.as rfl) rfl (re (pr [2] [] [] rfl rfl rfl rfl ?_)))))))))))))))
         cases H
         exact rt Try.func5 rfl (.tmp rfl .nil) rfl [] [] rfl rfl rfl rfl rfl ⟨rfl, rfl, rfl⟩
       ·
        refine ts 90 rfl (dF c19) (sk rfl (sv (EV.pf rfl rfl rfl) rfl (sv (EV.mv rfl) rfl (sk rfl (sk rfl (sk rfl (sv (EV.pf rfl rfl rfl) rfl (sv (EV.mv rfl) rfl (sk rfl (sv (EV.pf rfl rfl rfl) rfl (sv (EV.mv rfl) rfl (sk rfl (sk rfl (sk rfl (sv (EV.pf rfl rfl rfl) rfl (sv (EV.as rfl) rfl (re (pr [2] [] [] rfl rfl rfl rfl ?_))))))))))))))))))
        cases H
        exact rt Try.func5 rfl (.tmp rfl .nil) rfl [] [] rfl rfl rfl rfl rfl ⟨rfl, rfl, rfl⟩
      ·
       refine ts 83 rfl (dF c18) (sk rfl (sk rfl (sk rfl (sk rfl (sk rfl (sv (EV.pf rfl rfl rfl) rfl (sv (EV.mv rfl) rfl (sk rfl (sv (EV.pf rfl rfl rfl) rfl (sv (EV.mv rfl) rfl (sk rfl (sk rfl (sk rfl (sv (EV.pf rfl rfl rfl) rfl (sv (EV.mv rfl) rfl (sk rfl (sv (EV.pf rfl rfl rfl) rfl (sv (EV.mv rfl) rfl (sk rfl (sk rfl (sk rfl (sv (EV.pf rfl rfl rfl) rfl (sv (EV.as rfl) rfl (re (pr [2] [] [] rfl rfl rfl rfl ?_)))))))))))))))))))))))))
       cases H
       exact rt Try.func5 rfl (.tmp rfl .nil) rfl [] [] rfl rfl rfl rfl rfl ⟨rfl, rfl, rfl⟩
    ·
     obtain rfl := bF c8
     refine gt rfl rfl (gs (rg (sv (EV.mv rfl) rfl (sv (EV.eql rfl rfl) rfl (sv (EV.as rfl) rfl (re (pr [2] [] [] rfl rfl rfl rfl ?_)))))))
     cases H
     exact rt Try.func5 rfl (.tmp rfl .nil) rfl [] [] rfl rfl rfl rfl rfl ⟨rfl, rfl, rfl⟩
   ·
    refine gt rfl (nT c7) (gs (rg (sv (EV.as rfl) rfl (re ?_))))
    cases H
    exact rt Try.func5 rfl (.tmp rfl .nil) rfl [] [] rfl rfl rfl rfl rfl ⟨rfl, rfl, rfl⟩
  ·
   refine ts 37 rfl (bM c6) (sk rfl (sk rfl (sk rfl (sv (EV.pt rfl rfl rfl) rfl (re (pr [3, 4, 5, 6, 41] [0] [0, 1] rfl rfl rfl rfl (gt rfl rfl (gs (rg (sv (EV.as rfl) rfl (re ?_)))))))))))
   cases H
   exact rt Try.func5 rfl (.tmp rfl .nil) rfl [] [] rfl rfl rfl rfl rfl ⟨rfl, rfl, rfl⟩
end Go.Proofs.Ytamjndlkompeeaa.K
