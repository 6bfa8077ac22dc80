/- Walks: what the functions compute. Printed by gen.py; no condition. -/
import Derived.Test.YtoncjohnkiilcaaVFnExactStepAggregatorb
namespace Go.Proofs.Ytoncjohnkiilcaa.K
open Go Go.RowKit
set_option linter.unusedVariables false
set_option linter.unusedSimpArgs false
def laws_FnExactStepAggregator.f (k : Nat) (l0_0 : List S107) (a0_1 : Int) (a0_2 : Bool) (a1 : Int) : Option (Bool) := (laws_szAggregator.f k l0_0 a0_1 a0_2 1048576).bind fun t1 => (if t1 < 0 then (some true) else ((laws_toAggregator.f k l0_0 a0_1 a0_2).bind fun bt3 => ((spec_StepAggregator.f k bt3.1 bt3.2.1 bt3.2.2 a1).bind fun bt4 => ((laws_toAggregator.f k l0_0 a0_1 a0_2).bind fun bt5 => ((impl_StepAggregator.f k bt5.1 bt5.2.1 bt5.2.2 a1).bind fun bt6 => ((laws_eqAggregator.f k bt6.1 bt6.2.1 bt6.2.2.1 bt4.1 bt4.2.1 bt4.2.2.1).bind fun t7 => (if t7 = true then ((laws_eqGroupS.f k bt6.2.2.2.1 bt4.2.2.2.1).bind fun t9 => (if t9 = true then (if bt6.2.2.2.2.1 = bt4.2.2.2.2.1 then (if (bt6.2.2.2.2.2 == bt4.2.2.2.2.2) = true then ((laws_toAggregator.f k l0_0 a0_1 a0_2).bind fun bt13 => ((laws_eqAggregator.f k bt5.1 bt5.2.1 bt5.2.2 bt13.1 bt13.2.1 bt13.2.2).bind fun t14 => (if t14 = true then ((laws_markAggregator.f k bt5.1 bt5.2.1 bt5.2.2 1).bind fun bt16 => (if bt16.1 < 0 then (some false) else ((laws_eqAggregator.f k bt6.1 bt6.2.1 bt6.2.2.1 bt4.1 bt4.2.1 bt4.2.2.1).bind fun t18 => (if t18 = true then ((laws_eqGroupS.f k bt6.2.2.2.1 bt4.2.2.2.1).bind fun t20 => (if t20 = true then ((laws_markAggregator.f k bt6.1 bt6.2.1 bt6.2.2.1 1).bind fun bt22 => ((laws_markGroupS.f k bt6.2.2.2.1 bt22.1).bind fun bt23 => ((laws_heldAggregator.f k bt22.2 bt6.2.1 bt6.2.2.1 1).bind fun t24 => (if t24 < 0 then (some false) else ((laws_heldGroupS.f k bt23.2 t24).bind fun t26 => (if t26 < 0 then (some false) else (if t26 = bt23.1 then ((laws_toAggregator.f k l0_0 a0_1 a0_2).bind fun bt29 => ((impl_StepAggregator.f k bt29.1 bt29.2.1 bt29.2.2 a1).bind fun bt30 => ((laws_eqAggregator.f k bt30.1 bt30.2.1 bt30.2.2.1 bt4.1 bt4.2.1 bt4.2.2.1).bind fun t31 => (if t31 = true then ((laws_eqGroupS.f k bt30.2.2.2.1 bt4.2.2.2.1).bind fun t33 => (if t33 = true then (if bt30.2.2.2.2.1 = bt4.2.2.2.2.1 then (if (bt30.2.2.2.2.2 == bt4.2.2.2.2.2) = true then ((laws_heldAggregator.f k bt22.2 bt6.2.1 bt6.2.2.1 1).bind fun t37 => (if t37 < 0 then (some false) else ((laws_heldGroupS.f k bt23.2 t37).bind fun t39 => (if t39 < 0 then (some false) else (if t39 = bt23.1 then (some true) else (some false)))))) else (some false)) else (some false)) else (some false))) else (some false))))) else (some false)))))))) else (some false))) else (some false))))) else (some false)))) else (some false)) else (some false)) else (some false))) else (some false))))))))
set_option maxHeartbeats 4000000 in
set_option maxRecDepth 100000 in
theorem laws_FnExactStepAggregator.ok (k : Nat) (l0_0 : List S107) (Al0_0 : Option Addr) (cl0_0 : Nat) (a0_1 : Int) (a0_2 : Bool) (a1 : Int) (r0 : Bool) (H : laws_FnExactStepAggregator.f k l0_0 a0_1 a0_2 a1 = some r0) : Fn Try.prog 10 [.agg #[.slice Al0_0 l0_0.length cl0_0, .int .i64 a0_1, .bool a0_2], .int .i64 a1] [] [.sl 0 k107 Al0_0 cl0_0 l0_0 0 false] (fun v bx en => v = .bool r0 ∧ bx = [] ∧ en = []) := by
 refine fn_ 159 Try.func10 rfl rfl rfl (fun base T w0 => ?_)
 rw [laws_FnExactStepAggregator.f] at H
 refine gs (rg (so rfl (op_box (cs := [.slice Al0_0 l0_0.length cl0_0, .int .i64 a0_1, .bool a0_2]) rfl rfl rfl fun b2 => (sv (EV.as rfl) rfl (re (gs (rg (sv (EV.as rfl) rfl (re (gs (rg (sv (EV.ld (v := .agg #[.slice Al0_0 l0_0.length cl0_0, .int .i64 a0_1, .bool a0_2]) 0 (some 3) rfl rfl rfl) rfl (sv (EV.mv rfl) rfl ?_)))))))))))))
 revert H; refine bdI ?_; rintro t1 A1 H
 refine so rfl (op_call (laws_szAggregator.ok k l0_0 Al0_0 cl0_0 a0_1 a0_2 1048576 _ A1) [⟨0, 0, 0, false⟩] 1 rfl rfl rfl rfl rfl ?_)
 rintro _ _ _ ⟨rfl, rfl, rfl⟩
 refine sv (EV.as rfl) rfl (re (gs (gs (rg (sv (EV.mv rfl) rfl (sv (EV.lss rfl rfl) rfl (re (pr [1, 2, 26] [0] [0] rfl rfl rfl rfl ?_))))))))
 revert H; refine ifsI ?_ ?_ <;> intro c2 H
 ·
  refine gt rfl (dT c2) (gs (rg (sv (EV.as rfl) rfl (re ?_))))
  cases H
  exact rt Try.func10 rfl (.tmp rfl .nil) rfl [] [] rfl rfl rfl rfl rfl ⟨rfl, rfl, rfl⟩
 ·
  refine gf rfl (dF c2) (gk (gs (rg (sv (EV.ld (v := .agg #[.slice Al0_0 l0_0.length cl0_0, .int .i64 a0_1, .bool a0_2]) 0 (some 3) rfl rfl rfl) rfl ?_))))
  revert H; refine bdI ?_; rintro ⟨t3_0, t3_1, t3_2⟩ A3 H
  refine so rfl (op_call (laws_toAggregator.ok k l0_0 Al0_0 cl0_0 a0_1 a0_2 _ _ _ A3) [⟨0, 0, 0, false⟩] 1 rfl rfl rfl rfl rfl ?_)
  rintro _ _ _ ⟨At3_0, ct3_0, rfl, rfl, rfl⟩
  refine sv (EV.mv rfl) rfl ?_
  revert H; refine bdI ?_; rintro ⟨t4_0, t4_1, t4_2, t4_3, t4_4, t4_5⟩ A4 H
  refine so rfl (op_call (spec_StepAggregator.ok k t3_0 At3_0 ct3_0 t3_1 t3_2 a1 _ _ _ _ _ _ A4) [⟨1, 0, 0, false⟩] 3 rfl rfl rfl rfl rfl ?_)
  rintro _ _ _ ⟨At4_0, ct4_0, At4_3, ct4_3, rfl, rfl, rfl⟩
  refine sv (EV.mv rfl) rfl (sv (EV.ex rfl rfl) rfl (sv (EV.ex rfl rfl) rfl (sv (EV.ex rfl rfl) rfl (sv (EV.ex rfl rfl) rfl (so rfl (op_alloc (cs := [.slice none 0 0, .int .i64 0, .bool false]) (by kernel_rfl) rfl fun b6 => (so rfl (op_st (cs' := [.slice At4_0 t4_0.length ct4_0, .int .i64 t4_1, .bool t4_2]) 1 rfl rfl rfl rfl rfl rfl (sv (EV.as rfl) rfl (sv (EV.as rfl) rfl (sv (EV.as rfl) rfl (re (pr [1, 2, 6, 7, 8, 9] [0, 1] [0, 2, 3] rfl rfl rfl rfl (gs (rg (sv (EV.ld (v := .agg #[.slice Al0_0 l0_0.length cl0_0, .int .i64 a0_1, .bool a0_2]) 0 (some 3) rfl rfl rfl) rfl ?_))))))))))))))))
  revert H; refine bdI ?_; rintro ⟨t5_0, t5_1, t5_2⟩ A5 H
  refine so rfl (op_call (laws_toAggregator.ok k l0_0 Al0_0 cl0_0 a0_1 a0_2 _ _ _ A5) [⟨0, 0, 0, false⟩] 6 rfl rfl rfl rfl rfl ?_)
  rintro _ _ _ ⟨At5_0, ct5_0, rfl, rfl, rfl⟩
  refine so rfl (op_alloc (cs := [.slice none 0 0, .int .i64 0, .bool false]) (by kernel_rfl) rfl fun b10 => (so rfl (op_st (cs' := [.slice At5_0 t5_0.length ct5_0, .int .i64 t5_1, .bool t5_2]) 2 rfl rfl rfl rfl rfl rfl (re (gs (rg (sv (EV.ld (v := .agg #[.slice At5_0 t5_0.length ct5_0, .int .i64 t5_1, .bool t5_2]) 2 (some 3) rfl rfl rfl) rfl (sv (EV.mv rfl) rfl ?_))))))))
  revert H; refine bdI ?_; rintro ⟨t6_0, t6_1, t6_2, t6_3, t6_4, t6_5⟩ A6 H
  refine so rfl (op_call (impl_StepAggregator.ok k t5_0 At5_0 ct5_0 t5_1 t5_2 a1 _ _ _ _ _ _ A6) [⟨3, 0, 0, false⟩] 8 rfl rfl rfl rfl rfl ?_)
  rintro _ _ _ ⟨At6_0, ct6_0, At6_3, ct6_3, rfl, rfl, rfl⟩
  refine sv (EV.mv rfl) rfl (sv (EV.ex rfl rfl) rfl (sv (EV.ex rfl rfl) rfl (sv (EV.ex rfl rfl) rfl (sv (EV.ex rfl rfl) rfl (so rfl (op_alloc (cs := [.slice none 0 0, .int .i64 0, .bool false]) (by kernel_rfl) rfl fun b11 => (so rfl (op_st (cs' := [.slice At6_0 t6_0.length ct6_0, .int .i64 t6_1, .bool t6_2]) 3 rfl rfl rfl rfl rfl rfl (sv (EV.as rfl) rfl (sv (EV.as rfl) rfl (sv (EV.as rfl) rfl (re (pr [1, 2, 6, 7, 8, 9, 10, 11, 12, 13, 14] [0, 1, 2, 3] [0, 1, 2, 3, 4, 5] rfl rfl rfl rfl (gs (gs (rg (sv (EV.ld (v := .agg #[.slice At6_0 t6_0.length ct6_0, .int .i64 t6_1, .bool t6_2]) 3 (some 3) rfl rfl rfl) rfl (sv (EV.ld (v := .agg #[.slice At4_0 t4_0.length ct4_0, .int .i64 t4_1, .bool t4_2]) 1 (some 3) rfl rfl rfl) rfl ?_))))))))))))))))))
  revert H; refine bdI ?_; rintro t7 A7 H
  refine so rfl (op_call (laws_eqAggregator.ok k t6_0 At6_0 ct6_0 t6_1 t6_2 t4_0 At4_0 ct4_0 t4_1 t4_2 _ A7) [⟨4, 0, 0, false⟩, ⟨1, 0, 0, false⟩] 11 rfl rfl rfl rfl rfl ?_)
  rintro _ _ _ ⟨rfl, rfl, rfl⟩
  refine sv (EV.nt rfl) rfl (sv (EV.mv rfl) rfl ?_)
  revert H; refine ifsI ?_ ?_ <;> intro c8 H
  ·
   subst c8
   refine ts 50 rfl rfl (sv (EV.mv rfl) rfl (sv (EV.mv rfl) rfl ?_))
   revert H; refine bdI ?_; rintro t9 A9 H
   refine so rfl (op_call (laws_eqGroupS.ok k t6_3 At6_3 ct6_3 t4_3 At4_3 ct4_3 _ A9) [⟨5, 0, 0, false⟩, ⟨2, 0, 0, false⟩] 11 rfl rfl rfl rfl rfl ?_)
   rintro _ _ _ ⟨rfl, rfl, rfl⟩
   refine sv (EV.nt rfl) rfl (sv (EV.pf rfl rfl rfl) rfl (sv (EV.mv rfl) rfl ?_))
   revert H; refine ifsI ?_ ?_ <;> intro c10 H
   ·
    subst c10
    refine ts 56 rfl rfl (sv (EV.mv rfl) rfl (sv (EV.mv rfl) rfl (sv (EV.neq rfl rfl) rfl (sv (EV.pf rfl rfl rfl) rfl (sv (EV.mv rfl) rfl ?_)))))
    revert H; refine ifsI ?_ ?_ <;> intro c11 H
    ·
     refine ts 61 rfl (nF c11) (sv (EV.mv rfl) rfl (sv (EV.mv rfl) rfl (sv (EV.neb rfl rfl) rfl (sv (EV.pf rfl rfl rfl) rfl (re (pr [1, 2, 6, 7, 8, 9, 10, 11, 12, 13, 14, 65] [0, 1, 2, 3] [0, 1, 2, 3, 4, 5] rfl rfl rfl rfl ?_))))))
     revert H; refine ifsI ?_ ?_ <;> intro c12 H
     ·
      refine gf rfl (bN c12) (gk (gs (gs (dr [0, 1, 2, 3] [0, 1, 2, 3, 4, 5] [] 5 rfl rfl rfl rfl (xv 0 [0, 1, 2, 3] [0, 1, 2, 3, 4, 5] rfl (EV.ld (v := .agg #[.slice At5_0 t5_0.length ct5_0, .int .i64 t5_1, .bool t5_2]) 2 (some 3) rfl rfl rfl) rfl rfl rfl rfl (xv 1 [0, 1, 2, 3] [0, 1, 2, 3, 4, 5] rfl (EV.ld (v := .agg #[.slice Al0_0 l0_0.length cl0_0, .int .i64 a0_1, .bool a0_2]) 0 (some 3) rfl rfl rfl) rfl rfl rfl rfl (one1 2 rfl rfl ?_)))))))
      revert H; refine bdI ?_; rintro ⟨t13_0, t13_1, t13_2⟩ A13 H
      refine op_call (laws_toAggregator.ok k l0_0 Al0_0 cl0_0 a0_1 a0_2 _ _ _ A13) [⟨0, 0, 0, false⟩] 11 rfl rfl rfl rfl rfl ?_
      rintro _ _ _ ⟨At13_0, ct13_0, rfl, rfl, rfl⟩
      refine xs [0, 1, 2, 3] [0, 1, 2, 3, 4, 5] rfl rfl rfl (one1 3 rfl rfl ?_)
      revert H; refine bdI ?_; rintro t14 A14 H
      refine op_call (laws_eqAggregator.ok k t5_0 At5_0 ct5_0 t5_1 t5_2 t13_0 At13_0 ct13_0 t13_1 t13_2 _ A14) [⟨3, 0, 0, false⟩, ⟨6, 0, 0, false⟩] 13 rfl rfl rfl rfl rfl ?_
      rintro _ _ _ ⟨rfl, rfl, rfl⟩
      refine xs [0, 1, 2, 3] [0, 1, 2, 3, 4, 5] rfl rfl rfl (xv 4 [0, 1, 2, 3] [0, 1, 2, 3, 4, 5] rfl (EV.nt rfl) rfl rfl rfl rfl (xd ?_))
      revert H; refine ifsI ?_ ?_ <;> intro c15 H
      ·
       subst c15
       refine gf rfl rfl (gk (gs (rg (sv (EV.as rfl) rfl (re (pr [1, 2, 6, 7, 8, 9, 10, 11, 12, 13, 14, 15] [0, 1, 2, 3] [0, 1, 2, 3, 4, 5] rfl rfl rfl rfl (gs (rg (sv (EV.ld (v := .agg #[.slice At5_0 t5_0.length ct5_0, .int .i64 t5_1, .bool t5_2]) 2 (some 3) rfl rfl rfl) rfl (sv (EV.mv rfl) rfl ?_))))))))))
       revert H; refine bdI ?_; rintro ⟨t16_0, t16_1⟩ A16 H
       refine so rfl (op_callM (laws_markAggregator.ok k t5_0 At5_0 ct5_0 t5_1 t5_2 1 _ _ A16) [⟨3, 1, 1, true⟩] [] [0, 1, 2, 3] 11 rfl rfl rfl rfl rfl rfl rfl rfl ?_)
       rintro _ _ _ ⟨rfl, rfl, rfl, q16_0⟩
       refine rlT 71 (v' := .agg #[.slice At5_0 t16_1.length ct5_0, .int .i64 t5_1, .bool t5_2]) rfl (by simp only [q16_0]) (rlB 2 (cs' := [.slice At5_0 t16_1.length ct5_0, .int .i64 t5_1, .bool t5_2]) rfl (by simp only [q16_0]) (nmE (en := [.sl 0 k107 Al0_0 cl0_0 l0_0 0 false, .sl 1 k80 At4_0 ct4_0 t4_0 4 true, .sl 2 k88 At4_3 ct4_3 t4_3 5 true, .sl 1 k80 At6_0 ct6_0 t6_0 9 true, .sl 1 k88 At6_3 ct6_3 t6_3 10 false, .sl 1 k80 At5_0 ct5_0 t16_1 12 true]) (by kernel_rfl) (sv (EV.as rfl) rfl (re (gs (gs (rg (sv (EV.mv rfl) rfl (sv (EV.lss rfl rfl) rfl (sv (EV.mv rfl) rfl ?_))))))))))
       revert H; refine ifsI ?_ ?_ <;> intro c17 H
       ·
        refine ts 76 rfl (dT c17) (sk rfl (sk rfl (sk rfl (sk rfl (sv (EV.pt rfl rfl rfl) rfl (sv (EV.mv rfl) rfl (sk rfl (sk rfl (sk rfl (sk rfl (sv (EV.pt rfl rfl rfl) rfl (sv (EV.mv rfl) rfl (sk rfl (sk rfl (sk rfl (sv (EV.pt rfl rfl rfl) rfl (sv (EV.mv rfl) rfl (sk rfl (sk rfl (sk rfl (sv (EV.pt rfl rfl rfl) rfl (re (pr [1, 2, 6, 7, 8, 9, 11, 12, 97] [0, 1, 3] [0, 1, 2, 3, 4] rfl rfl rfl rfl (gt rfl rfl (gs (rg (sv (EV.as rfl) rfl (re (pr [4] [] [] rfl rfl rfl rfl ?_)))))))))))))))))))))))))))))
        cases H
        exact rt Try.func10 rfl (.tmp rfl .nil) rfl [] [] rfl rfl rfl rfl rfl ⟨rfl, rfl, rfl⟩
       ·
        refine ts 76 rfl (dF c17) (sv (EV.ld (v := .agg #[.slice At6_0 t6_0.length ct6_0, .int .i64 t6_1, .bool t6_2]) 3 (some 3) rfl rfl rfl) rfl (sv (EV.ld (v := .agg #[.slice At4_0 t4_0.length ct4_0, .int .i64 t4_1, .bool t4_2]) 1 (some 3) rfl rfl rfl) rfl ?_))
        revert H; refine bdI ?_; rintro t18 A18 H
        refine so rfl (op_call (laws_eqAggregator.ok k t6_0 At6_0 ct6_0 t6_1 t6_2 t4_0 At4_0 ct4_0 t4_1 t4_2 _ A18) [⟨3, 0, 0, false⟩, ⟨1, 0, 0, false⟩] 13 rfl rfl rfl rfl rfl ?_)
        rintro _ _ _ ⟨rfl, rfl, rfl⟩
        refine sv (EV.nt rfl) rfl (sv (EV.pf rfl rfl rfl) rfl (sv (EV.mv rfl) rfl ?_))
        revert H; refine ifsI ?_ ?_ <;> intro c19 H
        ·
         subst c19
         refine ts 82 rfl rfl (sv (EV.mv rfl) rfl (sv (EV.mv rfl) rfl ?_))
         revert H; refine bdI ?_; rintro t20 A20 H
         refine so rfl (op_call (laws_eqGroupS.ok k t6_3 At6_3 ct6_3 t4_3 At4_3 ct4_3 _ A20) [⟨4, 0, 0, false⟩, ⟨2, 0, 0, false⟩] 13 rfl rfl rfl rfl rfl ?_)
         rintro _ _ _ ⟨rfl, rfl, rfl⟩
         refine sv (EV.nt rfl) rfl (sv (EV.pf rfl rfl rfl) rfl (sv (EV.mv rfl) rfl ?_))
         revert H; refine ifsI ?_ ?_ <;> intro c21 H
         ·
          subst c21
          refine ts 88 rfl rfl (sv (EV.mv rfl) rfl (sv (EV.mv rfl) rfl (sv (EV.neq rfl rfl) rfl (sv (EV.pf rfl rfl rfl) rfl (sv (EV.mv rfl) rfl (ts 93 rfl (nF c11) (sv (EV.mv rfl) rfl (sv (EV.mv rfl) rfl (sv (EV.neb rfl rfl) rfl (sv (EV.pf rfl rfl rfl) rfl (re (pr [1, 2, 6, 7, 8, 9, 11, 12, 97] [0, 1, 3] [0, 1, 2, 3, 4] rfl rfl rfl rfl (gf rfl (bN c12) (gk (gs (rg (sv (EV.as rfl) rfl (re (gs (rg (sv (EV.ld (v := .agg #[.slice At6_0 t6_0.length ct6_0, .int .i64 t6_1, .bool t6_2]) 2 (some 3) rfl rfl rfl) rfl (sv (EV.mv rfl) rfl ?_))))))))))))))))))))))
          revert H; refine bdI ?_; rintro ⟨t22_0, t22_1⟩ A22 H
          refine so rfl (op_callM (laws_markAggregator.ok k t6_0 At6_0 ct6_0 t6_1 t6_2 1 _ _ A22) [⟨3, 1, 1, true⟩] [] [0, 1, 2] 11 rfl rfl rfl rfl rfl rfl rfl rfl ?_)
          rintro _ _ _ ⟨rfl, rfl, rfl, q22_0⟩
          refine rlT 98 (v' := .agg #[.slice At6_0 t22_1.length ct6_0, .int .i64 t6_1, .bool t6_2]) rfl (by simp only [q22_0]) (rlB 2 (cs' := [.slice At6_0 t22_1.length ct6_0, .int .i64 t6_1, .bool t6_2]) rfl (by simp only [q22_0]) (nmE (en := [.sl 0 k107 Al0_0 cl0_0 l0_0 0 false, .sl 1 k80 At4_0 ct4_0 t4_0 4 true, .sl 2 k88 At4_3 ct4_3 t4_3 5 true, .sl 1 k88 At6_3 ct6_3 t6_3 10 false, .sl 1 k80 At6_0 ct6_0 t22_1 12 true]) (by kernel_rfl) (sv (EV.as rfl) rfl (re (gs (rg (sv (EV.mv rfl) rfl (sv (EV.mv rfl) rfl ?_))))))))
          revert H; refine bdI ?_; rintro ⟨t23_0, t23_1⟩ A23 H
          refine so rfl (op_callM (laws_markGroupS.ok k t6_3 At6_3 ct6_3 t22_0 _ _ A23) [⟨3, 1, 1, false⟩] [] [0, 1, 2] 13 rfl rfl rfl rfl rfl rfl rfl rfl ?_)
          rintro _ _ _ ⟨rfl, rfl, rfl, q23_0⟩
          refine rlT 12 (v' := .slice At6_3 t23_1.length ct6_3) rfl (slq _ _ q23_0) (rlT 101 (v' := .slice At6_3 t23_1.length ct6_3) rfl (slq _ _ q23_0) (nmE (en := [.sl 0 k107 Al0_0 cl0_0 l0_0 0 false, .sl 1 k80 At4_0 ct4_0 t4_0 4 true, .sl 2 k88 At4_3 ct4_3 t4_3 5 true, .sl 1 k80 At6_0 ct6_0 t22_1 12 true, .sl 1 k88 At6_3 ct6_3 t23_1 14 false]) (by kernel_rfl) (sv (EV.as rfl) rfl (re (pr [1, 2, 6, 7, 8, 9, 11, 12, 16] [0, 1, 2] [0, 1, 2, 3, 4] rfl rfl rfl rfl (gs (rg (sv (EV.as rfl) rfl (re (gs (rg (sv (EV.ld (v := .agg #[.slice At6_0 t22_1.length ct6_0, .int .i64 t6_1, .bool t6_2]) 2 (some 3) rfl rfl rfl) rfl (sv (EV.mv rfl) rfl ?_)))))))))))))
          revert H; refine bdI ?_; rintro t24 A24 H
          refine so rfl (op_call (laws_heldAggregator.ok k t22_1 At6_0 ct6_0 t6_1 t6_2 1 _ A24) [⟨3, 0, 0, false⟩] 15 rfl rfl rfl rfl rfl ?_)
          rintro _ _ _ ⟨rfl, rfl, rfl⟩
          refine sv (EV.as rfl) rfl (re (gs (gs (rg (sv (EV.mv rfl) rfl (sv (EV.lss rfl rfl) rfl (re ?_)))))))
          revert H; refine ifsI ?_ ?_ <;> intro c25 H
          ·
           refine gt rfl (dT c25) (gs (rg (sv (EV.as rfl) rfl (re (pr [4] [] [] rfl rfl rfl rfl ?_)))))
           cases H
           exact rt Try.func10 rfl (.tmp rfl .nil) rfl [] [] rfl rfl rfl rfl rfl ⟨rfl, rfl, rfl⟩
          ·
           refine gf rfl (dF c25) (gk (gs (rg (sv (EV.mv rfl) rfl (sv (EV.mv rfl) rfl ?_)))))
           revert H; refine bdI ?_; rintro t26 A26 H
           refine so rfl (op_call (laws_heldGroupS.ok k t23_1 At6_3 ct6_3 t24 _ A26) [⟨4, 0, 0, false⟩] 15 rfl rfl rfl rfl rfl ?_)
           rintro _ _ _ ⟨rfl, rfl, rfl⟩
           refine sv (EV.as rfl) rfl (re (pr [1, 2, 6, 7, 8, 9, 11, 12, 16, 17] [0, 1, 2] [0, 1, 2, 3, 4] rfl rfl rfl rfl (gs (gs (rg (sv (EV.mv rfl) rfl (sv (EV.lss rfl rfl) rfl (re ?_))))))))
           revert H; refine ifsI ?_ ?_ <;> intro c27 H
           ·
            refine gt rfl (dT c27) (gs (rg (sv (EV.as rfl) rfl (re (pr [4] [] [] rfl rfl rfl rfl ?_)))))
            cases H
            exact rt Try.func10 rfl (.tmp rfl .nil) rfl [] [] rfl rfl rfl rfl rfl ⟨rfl, rfl, rfl⟩
           ·
            refine gf rfl (dF c27) (gk (gs (gs (rg (sv (EV.mv rfl) rfl (sv (EV.mv rfl) rfl (sv (EV.neq rfl rfl) rfl (re ?_))))))))
            revert H; refine ifsI ?_ ?_ <;> intro c28 H
            ·
             refine gf rfl (nF c28) (gk (gs (rg (sv (EV.ld (v := .agg #[.slice Al0_0 l0_0.length cl0_0, .int .i64 a0_1, .bool a0_2]) 0 (some 3) rfl rfl rfl) rfl ?_))))
             revert H; refine bdI ?_; rintro ⟨t29_0, t29_1, t29_2⟩ A29 H
             refine so rfl (op_call (laws_toAggregator.ok k l0_0 Al0_0 cl0_0 a0_1 a0_2 _ _ _ A29) [⟨0, 0, 0, false⟩] 15 rfl rfl rfl rfl rfl ?_)
             rintro _ _ _ ⟨At29_0, ct29_0, rfl, rfl, rfl⟩
             refine sv (EV.mv rfl) rfl ?_
             revert H; refine bdI ?_; rintro ⟨t30_0, t30_1, t30_2, t30_3, t30_4, t30_5⟩ A30 H
             refine so rfl (op_call (impl_StepAggregator.ok k t29_0 At29_0 ct29_0 t29_1 t29_2 a1 _ _ _ _ _ _ A30) [⟨5, 0, 0, false⟩] 17 rfl rfl rfl rfl rfl ?_)
             rintro _ _ _ ⟨At30_0, ct30_0, At30_3, ct30_3, rfl, rfl, rfl⟩
             refine sv (EV.mv rfl) rfl (sv (EV.ex rfl rfl) rfl (sv (EV.ex rfl rfl) rfl (sv (EV.ex rfl rfl) rfl (sv (EV.ex rfl rfl) rfl (so rfl (op_alloc (cs := [.slice none 0 0, .int .i64 0, .bool false]) (by kernel_rfl) rfl fun b18 => (so rfl (op_st (cs' := [.slice At30_0 t30_0.length ct30_0, .int .i64 t30_1, .bool t30_2]) 3 rfl rfl rfl rfl rfl rfl (sv (EV.as rfl) rfl (sv (EV.as rfl) rfl (sv (EV.as rfl) rfl (re (pr [6, 7, 8, 9, 11, 12, 16, 18, 19, 20, 21] [1, 2, 3] [1, 2, 3, 4, 6, 7] rfl rfl rfl rfl (gs (gs (rg (sv (EV.ld (v := .agg #[.slice At30_0 t30_0.length ct30_0, .int .i64 t30_1, .bool t30_2]) 2 (some 3) rfl rfl rfl) rfl (sv (EV.ld (v := .agg #[.slice At4_0 t4_0.length ct4_0, .int .i64 t4_1, .bool t4_2]) 0 (some 3) rfl rfl rfl) rfl ?_))))))))))))))))))
             revert H; refine bdI ?_; rintro t31 A31 H
             refine so rfl (op_call (laws_eqAggregator.ok k t30_0 At30_0 ct30_0 t30_1 t30_2 t4_0 At4_0 ct4_0 t4_1 t4_2 _ A31) [⟨4, 0, 0, false⟩, ⟨0, 0, 0, false⟩] 20 rfl rfl rfl rfl rfl ?_)
             rintro _ _ _ ⟨rfl, rfl, rfl⟩
             refine sv (EV.nt rfl) rfl (sv (EV.mv rfl) rfl ?_)
             revert H; refine ifsI ?_ ?_ <;> intro c32 H
             ·
              subst c32
              refine ts 130 rfl rfl (sv (EV.mv rfl) rfl (sv (EV.mv rfl) rfl ?_))
              revert H; refine bdI ?_; rintro t33 A33 H
              refine so rfl (op_call (laws_eqGroupS.ok k t30_3 At30_3 ct30_3 t4_3 At4_3 ct4_3 _ A33) [⟨5, 0, 0, false⟩, ⟨1, 0, 0, false⟩] 20 rfl rfl rfl rfl rfl ?_)
              rintro _ _ _ ⟨rfl, rfl, rfl⟩
              refine sv (EV.nt rfl) rfl (sv (EV.pf rfl rfl rfl) rfl (sv (EV.mv rfl) rfl ?_))
              revert H; refine ifsI ?_ ?_ <;> intro c34 H
              ·
               subst c34
               refine ts 136 rfl rfl (sv (EV.mv rfl) rfl (sv (EV.mv rfl) rfl (sv (EV.neq rfl rfl) rfl (sv (EV.pf rfl rfl rfl) rfl (sv (EV.mv rfl) rfl ?_)))))
               revert H; refine ifsI ?_ ?_ <;> intro c35 H
               ·
                refine ts 141 rfl (nF c35) (sv (EV.mv rfl) rfl (sv (EV.mv rfl) rfl (sv (EV.neb rfl rfl) rfl (sv (EV.pf rfl rfl rfl) rfl (re (pr [11, 12, 16, 145] [1] [2, 3] rfl rfl rfl rfl ?_))))))
                revert H; refine ifsI ?_ ?_ <;> intro c36 H
                ·
                 refine gf rfl (bN c36) (gk (gs (rg (sv (EV.as rfl) rfl (re (gs (rg (sv (EV.ld (v := .agg #[.slice At6_0 t22_1.length ct6_0, .int .i64 t6_1, .bool t6_2]) 0 (some 3) rfl rfl rfl) rfl (sv (EV.mv rfl) rfl ?_)))))))))
                 revert H; refine bdI ?_; rintro t37 A37 H
                 refine so rfl (op_call (laws_heldAggregator.ok k t22_1 At6_0 ct6_0 t6_1 t6_2 1 _ A37) [⟨0, 0, 0, false⟩] 15 rfl rfl rfl rfl rfl ?_)
                 rintro _ _ _ ⟨rfl, rfl, rfl⟩
                 refine sv (EV.as rfl) rfl (re (gs (gs (rg (sv (EV.mv rfl) rfl (sv (EV.lss rfl rfl) rfl (re (pr [12, 16, 17, 150] [] [1] rfl rfl rfl rfl ?_))))))))
                 revert H; refine ifsI ?_ ?_ <;> intro c38 H
                 ·
                  refine gt rfl (dT c38) (gs (rg (sv (EV.as rfl) rfl (re ?_))))
                  cases H
                  exact rt Try.func10 rfl (.tmp rfl .nil) rfl [] [] rfl rfl rfl rfl rfl ⟨rfl, rfl, rfl⟩
                 ·
                  refine gf rfl (dF c38) (gk (gs (rg (sv (EV.mv rfl) rfl (sv (EV.mv rfl) rfl ?_)))))
                  revert H; refine bdI ?_; rintro t39 A39 H
                  refine so rfl (op_call (laws_heldGroupS.ok k t23_1 At6_3 ct6_3 t37 _ A39) [⟨0, 0, 0, false⟩] 15 rfl rfl rfl rfl rfl ?_)
                  rintro _ _ _ ⟨rfl, rfl, rfl⟩
                  refine sv (EV.as rfl) rfl (re (gs (gs (rg (sv (EV.mv rfl) rfl (sv (EV.lss rfl rfl) rfl (re (pr [16, 17, 155] [] [] rfl rfl rfl rfl ?_))))))))
                  revert H; refine ifsI ?_ ?_ <;> intro c40 H
                  ·
                   refine gt rfl (dT c40) (gs (rg (sv (EV.as rfl) rfl (re ?_))))
                   cases H
                   exact rt Try.func10 rfl (.tmp rfl .nil) rfl [] [] rfl rfl rfl rfl rfl ⟨rfl, rfl, rfl⟩
                  ·
                   refine gf rfl (dF c40) (gk (gs (gs (rg (sv (EV.mv rfl) rfl (sv (EV.mv rfl) rfl (sv (EV.neq rfl rfl) rfl (re ?_))))))))
                   revert H; refine ifsI ?_ ?_ <;> intro c41 H
                   ·
                    refine gf rfl (nF c41) (gk (gs (rg (sv (EV.as rfl) rfl (re (pr [4] [] [] rfl rfl rfl rfl ?_))))))
                    cases H
                    exact rt Try.func10 rfl (.tmp rfl .nil) rfl [] [] rfl rfl rfl rfl rfl ⟨rfl, rfl, rfl⟩
                   ·
                    refine gt rfl (nT c41) (gs (rg (sv (EV.as rfl) rfl (re (pr [4] [] [] rfl rfl rfl rfl ?_)))))
                    cases H
                    exact rt Try.func10 rfl (.tmp rfl .nil) rfl [] [] rfl rfl rfl rfl rfl ⟨rfl, rfl, rfl⟩
                ·
                 refine gt rfl (bM c36) (gs (rg (sv (EV.as rfl) rfl (re ?_))))
                 cases H
                 exact rt Try.func10 rfl (.tmp rfl .nil) rfl [] [] rfl rfl rfl rfl rfl ⟨rfl, rfl, rfl⟩
               ·
                refine ts 141 rfl (nT c35) (sk rfl (sk rfl (sk rfl (sv (EV.pt rfl rfl rfl) rfl (re (pr [11, 12, 16, 145] [1] [2, 3] rfl rfl rfl rfl (gt rfl rfl (gs (rg (sv (EV.as rfl) rfl (re ?_)))))))))))
                cases H
                exact rt Try.func10 rfl (.tmp rfl .nil) rfl [] [] rfl rfl rfl rfl rfl ⟨rfl, rfl, rfl⟩
              ·
               obtain rfl := bF c34
               refine ts 136 rfl rfl (sk rfl (sk rfl (sk rfl (sv (EV.pt rfl rfl rfl) rfl (sv (EV.mv rfl) rfl (sk rfl (sk rfl (sk rfl (sv (EV.pt rfl rfl rfl) rfl (re (pr [11, 12, 16, 145] [1] [2, 3] rfl rfl rfl rfl (gt rfl rfl (gs (rg (sv (EV.as rfl) rfl (re ?_))))))))))))))))
               cases H
               exact rt Try.func10 rfl (.tmp rfl .nil) rfl [] [] rfl rfl rfl rfl rfl ⟨rfl, rfl, rfl⟩
             ·
              obtain rfl := bF c32
              refine ts 130 rfl rfl (sk rfl (sk rfl (sk rfl (sk rfl (sv (EV.pt rfl rfl rfl) rfl (sv (EV.mv rfl) rfl (sk rfl (sk rfl (sk rfl (sv (EV.pt rfl rfl rfl) rfl (sv (EV.mv rfl) rfl (sk rfl (sk rfl (sk rfl (sv (EV.pt rfl rfl rfl) rfl (re (pr [11, 12, 16, 145] [1] [2, 3] rfl rfl rfl rfl (gt rfl rfl (gs (rg (sv (EV.as rfl) rfl (re ?_))))))))))))))))))))))
              cases H
              exact rt Try.func10 rfl (.tmp rfl .nil) rfl [] [] rfl rfl rfl rfl rfl ⟨rfl, rfl, rfl⟩
            ·
             refine gt rfl (nT c28) (gs (rg (sv (EV.as rfl) rfl (re (pr [4] [] [] rfl rfl rfl rfl ?_)))))
             cases H
             exact rt Try.func10 rfl (.tmp rfl .nil) rfl [] [] rfl rfl rfl rfl rfl ⟨rfl, rfl, rfl⟩
         ·
          obtain rfl := bF c21
          refine ts 88 rfl rfl (sk rfl (sk rfl (sk rfl (sv (EV.pt rfl rfl rfl) rfl (sv (EV.mv rfl) rfl (sk rfl (sk rfl (sk rfl (sv (EV.pt rfl rfl rfl) rfl (re (pr [1, 2, 6, 7, 8, 9, 11, 12, 97] [0, 1, 3] [0, 1, 2, 3, 4] rfl rfl rfl rfl (gt rfl rfl (gs (rg (sv (EV.as rfl) rfl (re (pr [4] [] [] rfl rfl rfl rfl ?_)))))))))))))))))
          cases H
          exact rt Try.func10 rfl (.tmp rfl .nil) rfl [] [] rfl rfl rfl rfl rfl ⟨rfl, rfl, rfl⟩
        ·
         obtain rfl := bF c19
         refine ts 82 rfl rfl (sk rfl (sk rfl (sk rfl (sk rfl (sv (EV.pt rfl rfl rfl) rfl (sv (EV.mv rfl) rfl (sk rfl (sk rfl (sk rfl (sv (EV.pt rfl rfl rfl) rfl (sv (EV.mv rfl) rfl (sk rfl (sk rfl (sk rfl (sv (EV.pt rfl rfl rfl) rfl (re (pr [1, 2, 6, 7, 8, 9, 11, 12, 97] [0, 1, 3] [0, 1, 2, 3, 4] rfl rfl rfl rfl (gt rfl rfl (gs (rg (sv (EV.as rfl) rfl (re (pr [4] [] [] rfl rfl rfl rfl ?_)))))))))))))))))))))))
         cases H
         exact rt Try.func10 rfl (.tmp rfl .nil) rfl [] [] rfl rfl rfl rfl rfl ⟨rfl, rfl, rfl⟩
      ·
       obtain rfl := bF c15
       refine gt rfl rfl (gs (rg (sv (EV.as rfl) rfl (re (pr [4] [] [] rfl rfl rfl rfl ?_)))))
       cases H
       exact rt Try.func10 rfl (.tmp rfl .nil) rfl [] [] rfl rfl rfl rfl rfl ⟨rfl, rfl, rfl⟩
     ·
      refine gt rfl (bM c12) (gs (rg (sv (EV.as rfl) rfl (re (pr [4] [] [] rfl rfl rfl rfl ?_)))))
      cases H
      exact rt Try.func10 rfl (.tmp rfl .nil) rfl [] [] rfl rfl rfl rfl rfl ⟨rfl, rfl, rfl⟩
    ·
     refine ts 61 rfl (nT c11) (sk rfl (sk rfl (sk rfl (sv (EV.pt rfl rfl rfl) rfl (re (pr [1, 2, 6, 7, 8, 9, 10, 11, 12, 13, 14, 65] [0, 1, 2, 3] [0, 1, 2, 3, 4, 5] rfl rfl rfl rfl (gt rfl rfl (gs (rg (sv (EV.as rfl) rfl (re (pr [4] [] [] rfl rfl rfl rfl ?_))))))))))))
     cases H
     exact rt Try.func10 rfl (.tmp rfl .nil) rfl [] [] rfl rfl rfl rfl rfl ⟨rfl, rfl, rfl⟩
   ·
    obtain rfl := bF c10
    refine ts 56 rfl rfl (sk rfl (sk rfl (sk rfl (sv (EV.pt rfl rfl rfl) rfl (sv (EV.mv rfl) rfl (sk rfl (sk rfl (sk rfl (sv (EV.pt rfl rfl rfl) rfl (re (pr [1, 2, 6, 7, 8, 9, 10, 11, 12, 13, 14, 65] [0, 1, 2, 3] [0, 1, 2, 3, 4, 5] rfl rfl rfl rfl (gt rfl rfl (gs (rg (sv (EV.as rfl) rfl (re (pr [4] [] [] rfl rfl rfl rfl ?_)))))))))))))))))
    cases H
    exact rt Try.func10 rfl (.tmp rfl .nil) rfl [] [] rfl rfl rfl rfl rfl ⟨rfl, rfl, rfl⟩
  ·
   obtain rfl := bF c8
   refine ts 50 rfl rfl (sk rfl (sk rfl (sk rfl (sk rfl (sv (EV.pt rfl rfl rfl) rfl (sv (EV.mv rfl) rfl (sk rfl (sk rfl (sk rfl (sv (EV.pt rfl rfl rfl) rfl (sv (EV.mv rfl) rfl (sk rfl (sk rfl (sk rfl (sv (EV.pt rfl rfl rfl) rfl (re (pr [1, 2, 6, 7, 8, 9, 10, 11, 12, 13, 14, 65] [0, 1, 2, 3] [0, 1, 2, 3, 4, 5] rfl rfl rfl rfl (gt rfl rfl (gs (rg (sv (EV.as rfl) rfl (re (pr [4] [] [] rfl rfl rfl rfl ?_)))))))))))))))))))))))
   cases H
   exact rt Try.func10 rfl (.tmp rfl .nil) rfl [] [] rfl rfl rfl rfl rfl ⟨rfl, rfl, rfl⟩
end Go.Proofs.Ytoncjohnkiilcaa.K
