/- Walks: what the functions compute. Printed by gen.py; no condition. -/
import Derived.Test.YtgpencaijhbolaaVFnGroupUnderGrantsb
namespace Go.Proofs.Ytgpencaijhbolaa.K
open Go Go.RowKit
set_option linter.unusedVariables false
set_option linter.unusedSimpArgs false
def laws_FnGroupUnderGrants.j0 : Nat → (List S75) → Bool → (List Int) → Bool → (List S49) → Int → Int → Int → (List Int) → Option (Bool)
 | 0, _, _, _, _, _, _, _, _, _ => none
 | k + 1, x1_3, x1_4, x1_5, x1_7, x1_6_0, x1_6_1, x1_6_2, x1_6_3, l0 => if x1_7 = true then ((spec_DrawGroupStepBound.f k l0).bind fun t8 => ((spec_DrawGroupWriteBound.f k l0).bind fun t9 => ((spec_ReferenceGroups.f k x1_3).bind fun t10 => ((laws_sameGroups.f k x1_6_0 t10).bind fun t11 => (if t11 = true then ((laws_most.f k x1_5).bind fun t13 => (if x1_6_2 ≤ t13 then ((impl_GroupStepBound.f x1_3).bind fun t15 => (if x1_6_1 ≤ t15 then ((impl_GroupWriteBound.f k x1_3).bind fun t17 => (if x1_6_3 ≤ t17 then (if x1_4 = true then (if x1_6_3 = 0 then ((impl_GroupStepBound.f t8).bind fun t21 => ((spec_GroupStepBound.f t8).bind fun t22 => (if t21 = t22 then ((impl_GroupWriteBound.f k t9).bind fun t24 => ((spec_GroupWriteBound.f k t9).bind fun t25 => (some (decide (t24 = t25))))) else (some false)))) else (some false)) else ((impl_GroupStepBound.f t8).bind fun t26 => ((spec_GroupStepBound.f t8).bind fun t27 => (if t26 = t27 then ((impl_GroupWriteBound.f k t9).bind fun t29 => ((spec_GroupWriteBound.f k t9).bind fun t30 => (some (decide (t29 = t30))))) else (some false))))) else (some false))) else (some false))) else (some false))) else (some false)))))) else (some (decide (x1_6_1 = 0)))
def laws_FnGroupUnderGrants.f (k : Nat) (l0 : List Int) : Option (Bool) := (laws_big.f l0).bind fun t1 => (if t1 = true then (some true) else ((spec_DrawRunGroup.f k l0).bind fun bt3 => ((impl_RunGroup.f k bt3.1 bt3.2.1 bt3.2.2).bind fun bt4 => ((spec_RunGroup.f k bt3.1 bt3.2.1 bt3.2.2).bind fun bt5 => (if (bt4.2.2.2.2 == bt5.2.2.2.2) = true then ((laws_sameGroups.f k bt4.1 bt5.1).bind fun t32 => (if t32 = true then (if bt4.2.1 = bt5.2.1 then (if bt4.2.2.1 = bt5.2.2.1 then (if bt4.2.2.2.1 = bt5.2.2.2.1 then ((spec_AreValidRows.f k bt3.1).bind fun t37 => (if t37 = true then ((laws_grantsOk.f k bt3.2.2).bind fun t39 => (if (bt4.2.2.2.2 == t39) = true then (laws_FnGroupUnderGrants.j0 k bt3.1 bt3.2.1 bt3.2.2 bt4.2.2.2.2 bt4.1 bt4.2.1 bt4.2.2.1 bt4.2.2.2.1 l0) else (some false))) else (if (bt4.2.2.2.2 == false) = true then (laws_FnGroupUnderGrants.j0 k bt3.1 bt3.2.1 bt3.2.2 bt4.2.2.2.2 bt4.1 bt4.2.1 bt4.2.2.1 bt4.2.2.2.1 l0) else (some false)))) else (some false)) else (some false)) else (some false)) else (some false))) else (some false))))))
set_option maxHeartbeats 4000000 in
set_option maxRecDepth 100000 in
theorem laws_FnGroupUnderGrants.ok (k : Nat) (l0 : List Int) (Al0 : Option Addr) (cl0 : Nat) (r0 : Bool) (H : laws_FnGroupUnderGrants.f k l0 = some r0) : Fn Try.prog 3 [.slice Al0 l0.length cl0] [] [.sl 0 (.int .u8) Al0 cl0 l0 0 false] (fun v bx en => v = .bool r0 ∧ bx = [] ∧ en = []) := by
 refine fn_ 134 Try.func3 rfl rfl rfl (fun base T w0 => ?_)
 rw [laws_FnGroupUnderGrants.f] at H
 refine gs (rg (sv (EV.as rfl) rfl (re (gs (gs (rg (sv (EV.mv rfl) rfl ?_)))))))
 revert H; refine bdI ?_; rintro t1 A1 H
 refine so rfl (op_call (laws_big.ok l0 Al0 cl0 _ A1) [⟨0, 0, 0, false⟩] 1 rfl rfl rfl rfl rfl ?_)
 rintro _ _ _ ⟨rfl, rfl, rfl⟩
 refine re ?_
 revert H; refine ifsI ?_ ?_ <;> intro c2 H
 ·
  subst c2
  refine gt rfl rfl (gs (rg (sv (EV.as rfl) rfl (re ?_))))
  cases H
  exact rt Try.func3 rfl (.tmp rfl .nil) rfl [] [] rfl rfl rfl rfl rfl ⟨rfl, rfl, rfl⟩
 ·
  obtain rfl := bF c2
  refine gf rfl rfl (gk (gs (rg (sv (EV.mv rfl) rfl ?_))))
  revert H; refine bdI ?_; rintro ⟨t3_0, t3_1, t3_2⟩ A3 H
  refine so rfl (op_call (spec_DrawRunGroup.ok k l0 Al0 cl0 _ _ _ A3) [⟨0, 0, 0, false⟩] 1 rfl rfl rfl rfl rfl ?_)
  rintro _ _ _ ⟨At3_0, ct3_0, At3_2, ct3_2, rfl, rfl, rfl⟩
  refine sv (EV.mv rfl) rfl (sv (EV.ex rfl rfl) rfl (sv (EV.ex rfl rfl) rfl (sv (EV.ex rfl rfl) rfl (sv (EV.as rfl) rfl (sv (EV.as rfl) rfl (sv (EV.as rfl) rfl (re (pr [0, 3, 4, 5] [] [0, 1, 2] rfl rfl rfl rfl (gs (rg (sv (EV.mv rfl) rfl (sv (EV.mv rfl) rfl (sv (EV.mv rfl) rfl ?_)))))))))))))
  revert H; refine bdI ?_; rintro ⟨t4_0, t4_1, t4_2, t4_3, t4_4⟩ A4 H
  refine so rfl (op_call (impl_RunGroup.ok k t3_0 At3_0 ct3_0 t3_1 t3_2 At3_2 ct3_2 _ _ _ _ _ A4) [⟨1, 0, 0, false⟩, ⟨2, 0, 0, false⟩] 4 rfl rfl rfl rfl rfl ?_)
  rintro _ _ _ ⟨At4_0, ct4_0, rfl, rfl, rfl⟩
  refine sv (EV.mv rfl) rfl (sv (EV.ex rfl rfl) rfl (sv (EV.ex rfl rfl) rfl (so rfl (op_alloc (cs := [.slice none 0 0, .int .i64 0, .int .i64 0, .int .i64 0]) (by kernel_rfl) rfl fun b6 => (so rfl (op_st (cs' := [.slice At4_0 t4_0.length ct4_0, .int .i64 t4_1, .int .i64 t4_2, .int .i64 t4_3]) 0 rfl rfl rfl rfl rfl rfl (sv (EV.as rfl) rfl (re (pr [0, 3, 4, 5, 6, 7] [0] [0, 1, 2, 3] rfl rfl rfl rfl (gs (rg (sv (EV.mv rfl) rfl (sv (EV.mv rfl) rfl (sv (EV.mv rfl) rfl ?_))))))))))))))
  revert H; refine bdI ?_; rintro ⟨t5_0, t5_1, t5_2, t5_3, t5_4⟩ A5 H
  refine so rfl (op_call (spec_RunGroup.ok k t3_0 At3_0 ct3_0 t3_1 t3_2 At3_2 ct3_2 _ _ _ _ _ A5) [⟨1, 0, 0, false⟩, ⟨2, 0, 0, false⟩] 6 rfl rfl rfl rfl rfl ?_)
  rintro _ _ _ ⟨At5_0, ct5_0, rfl, rfl, rfl⟩
  refine sv (EV.mv rfl) rfl (sv (EV.ex rfl rfl) rfl (sv (EV.ex rfl rfl) rfl (so rfl (op_alloc (cs := [.slice none 0 0, .int .i64 0, .int .i64 0, .int .i64 0]) (by kernel_rfl) rfl fun b8 => (so rfl (op_st (cs' := [.slice At5_0 t5_0.length ct5_0, .int .i64 t5_1, .int .i64 t5_2, .int .i64 t5_3]) 1 rfl rfl rfl rfl rfl rfl (sv (EV.as rfl) rfl (re (pr [0, 3, 4, 5, 6, 7, 8, 9] [0, 1] [0, 1, 2, 3, 4] rfl rfl rfl rfl ?_)))))))))
  refine jo (fun S => ∃ (m : Nat) (x1_3 : List S75) (Ax1_3 : Option Addr) (cx1_3 : Nat) (x1_4 : Bool) (x1_5 : List Int) (Ax1_5 : Option Addr) (cx1_5 : Nat) (x1_7 : Bool) (x1_6_0 : List S49) (Ax1_6_0 : Option Addr) (cx1_6_0 : Nat) (x1_6_1 : Int) (x1_6_2 : Int) (x1_6_3 : Int), laws_FnGroupUnderGrants.j0 m x1_3 x1_4 x1_5 x1_7 x1_6_0 x1_6_1 x1_6_2 x1_6_3 l0 = some r0 ∧ S = ⟨[(0, .slice Al0 l0.length cl0), (3, .slice Ax1_3 x1_3.length cx1_3), (4, .bool x1_4), (5, .slice Ax1_5 x1_5.length cx1_5), (6, .pointer (some ⟨b6, 0, none⟩)), (7, .bool x1_7)], [⟨b6, 30, [.slice Ax1_6_0 x1_6_0.length cx1_6_0, .int .i64 x1_6_1, .int .i64 x1_6_2, .int .i64 x1_6_3]⟩], [.sl 2 k75 Ax1_3 cx1_3 x1_3 1 true, .sl 2 (.int .i64) Ax1_5 cx1_5 x1_5 2 true, .sl 1 k49 Ax1_6_0 cx1_6_0 x1_6_0 3 false, .sl 0 (.int .u8) Al0 cl0 l0 0 false]⟩) (fun S hS => ?_) (fun jh0 => ?_)
  ·
   clear H
   obtain ⟨m6, x1_3, Ax1_3, cx1_3, x1_4, x1_5, Ax1_5, cx1_5, x1_7, x1_6_0, Ax1_6_0, cx1_6_0, x1_6_1, x1_6_2, x1_6_3, H, rfl⟩ := hS
   rcases m6 with _ | m6
   · rw [laws_FnGroupUnderGrants.j0] at H; cases H
   rw [laws_FnGroupUnderGrants.j0] at H
   refine gs (gs (rg (sv (EV.mv rfl) rfl (sv (EV.nt rfl) rfl (re ?_)))))
   revert H; refine ifsI ?_ ?_ <;> intro c7 H
   ·
    subst c7
    refine gf rfl rfl (gk (gs (rg (sv (EV.mv rfl) rfl ?_))))
    revert H; refine bdI ?_; rintro t8 A8 H
    refine so rfl (op_call (spec_DrawGroupStepBound.ok m6 l0 Al0 cl0 _ A8) [⟨3, 0, 0, false⟩] 4 rfl rfl rfl rfl rfl ?_)
    rintro _ _ _ ⟨At8, ct8, rfl, rfl, rfl⟩
    refine sv (EV.as rfl) rfl (re (gs (rg (sv (EV.mv rfl) rfl ?_))))
    revert H; refine bdI ?_; rintro t9 A9 H
    refine so rfl (op_call (spec_DrawGroupWriteBound.ok m6 l0 Al0 cl0 _ A9) [⟨3, 0, 0, false⟩] 6 rfl rfl rfl rfl rfl ?_)
    rintro _ _ _ ⟨At9, ct9, rfl, rfl, rfl⟩
    refine sv (EV.as rfl) rfl (re (pr [3, 4, 5, 6, 10, 11] [0] [0, 1, 2, 4, 5] rfl rfl rfl rfl (gs (dr [0] [0, 1, 2, 3, 4] [] 50 rfl rfl rfl rfl (xv 0 [0] [0, 1, 2, 3, 4] rfl (EV.fa 0 rfl) rfl rfl rfl rfl (xv 1 [0] [0, 1, 2, 3, 4] rfl (EV.ld 0 none rfl rfl rfl) rfl rfl rfl rfl (xv 2 [0] [0, 1, 2, 3, 4] rfl (EV.mv rfl) rfl rfl rfl rfl (one1 3 rfl rfl ?_))))))))
    revert H; refine bdI ?_; rintro t10 A10 H
    refine op_call (spec_ReferenceGroups.ok m6 x1_3 Ax1_3 cx1_3 _ A10) [⟨0, 0, 0, false⟩] 8 rfl rfl rfl rfl rfl ?_
    rintro _ _ _ ⟨At10, ct10, rfl, rfl, rfl⟩
    refine xs [0] [0, 1, 2, 3, 4] rfl rfl rfl (one1 4 rfl rfl ?_)
    revert H; refine bdI ?_; rintro t11 A11 H
    refine op_call (laws_sameGroups.ok m6 x1_6_0 Ax1_6_0 cx1_6_0 t10 At10 ct10 _ A11) [⟨2, 0, 0, false⟩, ⟨5, 0, 0, false⟩] 10 rfl rfl rfl rfl rfl ?_
    rintro _ _ _ ⟨rfl, rfl, rfl⟩
    refine xs [0] [0, 1, 2, 3, 4] rfl rfl rfl (xv 5 [0] [0, 1, 2, 3, 4] rfl (EV.mv rfl) rfl rfl rfl rfl ?_)
    revert H; refine ifsI ?_ ?_ <;> intro c12 H
    ·
     subst c12
     refine ts 90 rfl rfl (xv 6 [0] [0, 1, 2, 3, 4] rfl (EV.fa 2 rfl) rfl rfl rfl rfl (xv 7 [0] [0, 1, 2, 3, 4] rfl (EV.ld 0 none rfl rfl rfl) rfl rfl rfl rfl (xv 8 [0] [0, 1, 2, 3, 4] rfl (EV.mv rfl) rfl rfl rfl rfl (one1 9 rfl rfl ?_))))
     revert H; refine bdI ?_; rintro t13 A13 H
     refine op_call (laws_most.ok m6 x1_5 Ax1_5 cx1_5 _ A13) [⟨1, 0, 0, false⟩] 10 rfl rfl rfl rfl rfl ?_
     rintro _ _ _ ⟨rfl, rfl, rfl⟩
     refine xs [0] [0, 1, 2, 3, 4] rfl rfl rfl (xv 10 [0] [0, 1, 2, 3, 4] rfl (EV.leq rfl rfl) rfl rfl rfl rfl (xv 11 [0] [0, 1, 2, 3, 4] rfl (EV.pt rfl rfl rfl) rfl rfl rfl rfl (xv 12 [0] [0, 1, 2, 3, 4] rfl (EV.mv rfl) rfl rfl rfl rfl ?_)))
     revert H; refine ifsI ?_ ?_ <;> intro c14 H
     ·
      refine ts 97 rfl (dT c14) (xv 13 [0] [0, 1, 2, 3, 4] rfl (EV.fa 1 rfl) rfl rfl rfl rfl (xv 14 [0] [0, 1, 2, 3, 4] rfl (EV.ld 0 none rfl rfl rfl) rfl rfl rfl rfl (xv 15 [0] [0, 1, 2, 3, 4] rfl (EV.mv rfl) rfl rfl rfl rfl (one1 16 rfl rfl ?_))))
      revert H; refine bdI ?_; rintro t15 A15 H
      refine op_call (impl_GroupStepBound.ok x1_3 Ax1_3 cx1_3 _ A15) [⟨0, 0, 0, false⟩] 10 rfl rfl rfl rfl rfl ?_
      rintro _ _ _ ⟨rfl, rfl, rfl⟩
      refine xs [0] [0, 1, 2, 3, 4] rfl rfl rfl (xv 17 [0] [0, 1, 2, 3, 4] rfl (EV.leq rfl rfl) rfl rfl rfl rfl (xv 18 [0] [0, 1, 2, 3, 4] rfl (EV.pt rfl rfl rfl) rfl rfl rfl rfl (xv 19 [0] [0, 1, 2, 3, 4] rfl (EV.mv rfl) rfl rfl rfl rfl ?_)))
      revert H; refine ifsI ?_ ?_ <;> intro c16 H
      ·
       refine ts 104 rfl (dT c16) (xv 20 [0] [0, 1, 2, 3, 4] rfl (EV.fa 3 rfl) rfl rfl rfl rfl (xv 21 [0] [0, 1, 2, 3, 4] rfl (EV.ld 0 none rfl rfl rfl) rfl rfl rfl rfl (xv 22 [0] [0, 1, 2, 3, 4] rfl (EV.mv rfl) rfl rfl rfl rfl (one1 23 rfl rfl ?_))))
       revert H; refine bdI ?_; rintro t17 A17 H
       refine op_call (impl_GroupWriteBound.ok m6 x1_3 Ax1_3 cx1_3 _ A17) [⟨0, 0, 0, false⟩] 10 rfl rfl rfl rfl rfl ?_
       rintro _ _ _ ⟨rfl, rfl, rfl⟩
       refine xs [0] [0, 1, 2, 3, 4] rfl rfl rfl (xv 24 [0] [0, 1, 2, 3, 4] rfl (EV.leq rfl rfl) rfl rfl rfl rfl (xv 25 [0] [0, 1, 2, 3, 4] rfl (EV.pt rfl rfl rfl) rfl rfl rfl rfl (xv 26 [0] [0, 1, 2, 3, 4] rfl (EV.mv rfl) rfl rfl rfl rfl ?_)))
       revert H; refine ifsI ?_ ?_ <;> intro c18 H
       ·
        refine ts 111 rfl (dT c18) (xv 27 [0] [0, 1, 2, 3, 4] rfl (EV.mv rfl) rfl rfl rfl rfl (xv 28 [0] [0, 1, 2, 3, 4] rfl (EV.nt rfl) rfl rfl rfl rfl (xv 29 [0] [0, 1, 2, 3, 4] rfl (EV.mv rfl) rfl rfl rfl rfl ?_)))
        revert H; refine ifsI ?_ ?_ <;> intro c19 H
        ·
         subst c19
         refine ts 114 rfl rfl (xv 30 [0] [0, 1, 2, 3, 4] rfl (EV.fa 3 rfl) rfl rfl rfl rfl (xv 31 [0] [0, 1, 2, 3, 4] rfl (EV.ld 0 none rfl rfl rfl) rfl rfl rfl rfl (xv 32 [0] [0, 1, 2, 3, 4] rfl (EV.eql rfl rfl) rfl rfl rfl rfl (xv 33 [0] [0, 1, 2, 3, 4] rfl (EV.pf rfl rfl rfl) rfl rfl rfl rfl (xv 34 [0] [0, 1, 2, 3, 4] rfl (EV.pt rfl rfl rfl) rfl rfl rfl rfl (xv 35 [0] [0, 1, 2, 3, 4] rfl (EV.mv rfl) rfl rfl rfl rfl ?_))))))
         revert H; refine ifsI ?_ ?_ <;> intro c20 H
         ·
          refine ts 120 rfl (dT c20) (xv 36 [0] [0, 1, 2, 3, 4] rfl (EV.mv rfl) rfl rfl rfl rfl (xv 38 [0] [0, 1, 2, 3, 4] rfl (EV.mv rfl) rfl rfl rfl rfl (one1 37 rfl rfl ?_)))
          revert H; refine bdI ?_; rintro t21 A21 H
          refine op_call (impl_GroupStepBound.ok t8 At8 ct8 _ A21) [⟨3, 0, 0, false⟩] 10 rfl rfl rfl rfl rfl ?_
          rintro _ _ _ ⟨rfl, rfl, rfl⟩
          refine xs [0] [0, 1, 2, 3, 4] rfl rfl rfl (one1 39 rfl rfl ?_)
          revert H; refine bdI ?_; rintro t22 A22 H
          refine op_call (spec_GroupStepBound.ok t8 At8 ct8 _ A22) [⟨3, 0, 0, false⟩] 10 rfl rfl rfl rfl rfl ?_
          rintro _ _ _ ⟨rfl, rfl, rfl⟩
          refine xs [0] [0, 1, 2, 3, 4] rfl rfl rfl (xv 40 [0] [0, 1, 2, 3, 4] rfl (EV.eql rfl rfl) rfl rfl rfl rfl (xv 41 [0] [0, 1, 2, 3, 4] rfl (EV.pt rfl rfl rfl) rfl rfl rfl rfl (xv 42 [0] [0, 1, 2, 3, 4] rfl (EV.mv rfl) rfl rfl rfl rfl ?_)))
          revert H; refine ifsI ?_ ?_ <;> intro c23 H
          ·
           refine ts 127 rfl (dT c23) (xv 43 [0] [0, 1, 2, 3, 4] rfl (EV.mv rfl) rfl rfl rfl rfl (xv 45 [0] [0, 1, 2, 3, 4] rfl (EV.mv rfl) rfl rfl rfl rfl (one1 44 rfl rfl ?_)))
           revert H; refine bdI ?_; rintro t24 A24 H
           refine op_call (impl_GroupWriteBound.ok m6 t9 At9 ct9 _ A24) [⟨4, 0, 0, false⟩] 10 rfl rfl rfl rfl rfl ?_
           rintro _ _ _ ⟨rfl, rfl, rfl⟩
           refine xs [0] [0, 1, 2, 3, 4] rfl rfl rfl (one1 46 rfl rfl ?_)
           revert H; refine bdI ?_; rintro t25 A25 H
           refine op_call (spec_GroupWriteBound.ok m6 t9 At9 ct9 _ A25) [⟨4, 0, 0, false⟩] 10 rfl rfl rfl rfl rfl ?_
           rintro _ _ _ ⟨rfl, rfl, rfl⟩
           refine xs [0] [0, 1, 2, 3, 4] rfl rfl rfl (xv 47 [0] [0, 1, 2, 3, 4] rfl (EV.eql rfl rfl) rfl rfl rfl rfl (xv 48 [0] [0, 1, 2, 3, 4] rfl (EV.pt rfl rfl rfl) rfl rfl rfl rfl (xv 49 [0] [0, 1, 2, 3, 4] rfl (EV.as rfl) rfl rfl rfl rfl (xd (pr [2] [] [] rfl rfl rfl rfl ?_)))))
           cases H
           exact rt Try.func3 rfl (.tmp rfl .nil) rfl [] [] rfl rfl rfl rfl rfl ⟨rfl, rfl, rfl⟩
          ·
           refine ts 127 rfl (dF c23) (xk 43 [0] [0, 1, 2, 3, 4] rfl rfl rfl rfl rfl (xk 45 [0] [0, 1, 2, 3, 4] rfl rfl rfl rfl rfl (xk 44 [0] [0, 1, 2, 3, 4] rfl rfl rfl rfl rfl (xk 46 [0] [0, 1, 2, 3, 4] rfl rfl rfl rfl rfl (xk 47 [0] [0, 1, 2, 3, 4] rfl rfl rfl rfl rfl (xv 48 [0] [0, 1, 2, 3, 4] rfl (EV.pf rfl rfl rfl) rfl rfl rfl rfl (xv 49 [0] [0, 1, 2, 3, 4] rfl (EV.as rfl) rfl rfl rfl rfl (xd (pr [2] [] [] rfl rfl rfl rfl ?_)))))))))
           cases H
           exact rt Try.func3 rfl (.tmp rfl .nil) rfl [] [] rfl rfl rfl rfl rfl ⟨rfl, rfl, rfl⟩
         ·
          refine ts 120 rfl (dF c20) (xk 36 [0] [0, 1, 2, 3, 4] rfl rfl rfl rfl rfl (xk 38 [0] [0, 1, 2, 3, 4] rfl rfl rfl rfl rfl (xk 37 [0] [0, 1, 2, 3, 4] rfl rfl rfl rfl rfl (xk 39 [0] [0, 1, 2, 3, 4] rfl rfl rfl rfl rfl (xk 40 [0] [0, 1, 2, 3, 4] rfl rfl rfl rfl rfl (xv 41 [0] [0, 1, 2, 3, 4] rfl (EV.pf rfl rfl rfl) rfl rfl rfl rfl (xv 42 [0] [0, 1, 2, 3, 4] rfl (EV.mv rfl) rfl rfl rfl rfl (xk 43 [0] [0, 1, 2, 3, 4] rfl rfl rfl rfl rfl (xk 45 [0] [0, 1, 2, 3, 4] rfl rfl rfl rfl rfl (xk 44 [0] [0, 1, 2, 3, 4] rfl rfl rfl rfl rfl (xk 46 [0] [0, 1, 2, 3, 4] rfl rfl rfl rfl rfl (xk 47 [0] [0, 1, 2, 3, 4] rfl rfl rfl rfl rfl (xv 48 [0] [0, 1, 2, 3, 4] rfl (EV.pf rfl rfl rfl) rfl rfl rfl rfl (xv 49 [0] [0, 1, 2, 3, 4] rfl (EV.as rfl) rfl rfl rfl rfl (xd (pr [2] [] [] rfl rfl rfl rfl ?_))))))))))))))))
          cases H
          exact rt Try.func3 rfl (.tmp rfl .nil) rfl [] [] rfl rfl rfl rfl rfl ⟨rfl, rfl, rfl⟩
        ·
         obtain rfl := bF c19
         refine ts 114 rfl rfl (xk 30 [0] [0, 1, 2, 3, 4] rfl rfl rfl rfl rfl (xk 31 [0] [0, 1, 2, 3, 4] rfl rfl rfl rfl rfl (xk 32 [0] [0, 1, 2, 3, 4] rfl rfl rfl rfl rfl (xv 33 [0] [0, 1, 2, 3, 4] rfl (EV.pt rfl rfl rfl) rfl rfl rfl rfl (xv 34 [0] [0, 1, 2, 3, 4] rfl (EV.pt rfl rfl rfl) rfl rfl rfl rfl (xv 35 [0] [0, 1, 2, 3, 4] rfl (EV.mv rfl) rfl rfl rfl rfl (xv 36 [0] [0, 1, 2, 3, 4] rfl (EV.mv rfl) rfl rfl rfl rfl (xv 38 [0] [0, 1, 2, 3, 4] rfl (EV.mv rfl) rfl rfl rfl rfl (one1 37 rfl rfl ?_)))))))))
         revert H; refine bdI ?_; rintro t26 A26 H
         refine op_call (impl_GroupStepBound.ok t8 At8 ct8 _ A26) [⟨3, 0, 0, false⟩] 10 rfl rfl rfl rfl rfl ?_
         rintro _ _ _ ⟨rfl, rfl, rfl⟩
         refine xs [0] [0, 1, 2, 3, 4] rfl rfl rfl (one1 39 rfl rfl ?_)
         revert H; refine bdI ?_; rintro t27 A27 H
         refine op_call (spec_GroupStepBound.ok t8 At8 ct8 _ A27) [⟨3, 0, 0, false⟩] 10 rfl rfl rfl rfl rfl ?_
         rintro _ _ _ ⟨rfl, rfl, rfl⟩
         refine xs [0] [0, 1, 2, 3, 4] rfl rfl rfl (xv 40 [0] [0, 1, 2, 3, 4] rfl (EV.eql rfl rfl) rfl rfl rfl rfl (xv 41 [0] [0, 1, 2, 3, 4] rfl (EV.pt rfl rfl rfl) rfl rfl rfl rfl (xv 42 [0] [0, 1, 2, 3, 4] rfl (EV.mv rfl) rfl rfl rfl rfl ?_)))
         revert H; refine ifsI ?_ ?_ <;> intro c28 H
         ·
          refine ts 127 rfl (dT c28) (xv 43 [0] [0, 1, 2, 3, 4] rfl (EV.mv rfl) rfl rfl rfl rfl (xv 45 [0] [0, 1, 2, 3, 4] rfl (EV.mv rfl) rfl rfl rfl rfl (one1 44 rfl rfl ?_)))
          revert H; refine bdI ?_; rintro t29 A29 H
          refine op_call (impl_GroupWriteBound.ok m6 t9 At9 ct9 _ A29) [⟨4, 0, 0, false⟩] 10 rfl rfl rfl rfl rfl ?_
          rintro _ _ _ ⟨rfl, rfl, rfl⟩
          refine xs [0] [0, 1, 2, 3, 4] rfl rfl rfl (one1 46 rfl rfl ?_)
          revert H; refine bdI ?_; rintro t30 A30 H
          refine op_call (spec_GroupWriteBound.ok m6 t9 At9 ct9 _ A30) [⟨4, 0, 0, false⟩] 10 rfl rfl rfl rfl rfl ?_
          rintro _ _ _ ⟨rfl, rfl, rfl⟩
          refine xs [0] [0, 1, 2, 3, 4] rfl rfl rfl (xv 47 [0] [0, 1, 2, 3, 4] rfl (EV.eql rfl rfl) rfl rfl rfl rfl (xv 48 [0] [0, 1, 2, 3, 4] rfl (EV.pt rfl rfl rfl) rfl rfl rfl rfl (xv 49 [0] [0, 1, 2, 3, 4] rfl (EV.as rfl) rfl rfl rfl rfl (xd (pr [2] [] [] rfl rfl rfl rfl ?_)))))
          cases H
          exact rt Try.func3 rfl (.tmp rfl .nil) rfl [] [] rfl rfl rfl rfl rfl ⟨rfl, rfl, rfl⟩
         ·
          refine ts 127 rfl (dF c28) (xk 43 [0] [0, 1, 2, 3, 4] rfl rfl rfl rfl rfl (xk 45 [0] [0, 1, 2, 3, 4] rfl rfl rfl rfl rfl (xk 44 [0] [0, 1, 2, 3, 4] rfl rfl rfl rfl rfl (xk 46 [0] [0, 1, 2, 3, 4] rfl rfl rfl rfl rfl (xk 47 [0] [0, 1, 2, 3, 4] rfl rfl rfl rfl rfl (xv 48 [0] [0, 1, 2, 3, 4] rfl (EV.pf rfl rfl rfl) rfl rfl rfl rfl (xv 49 [0] [0, 1, 2, 3, 4] rfl (EV.as rfl) rfl rfl rfl rfl (xd (pr [2] [] [] rfl rfl rfl rfl ?_)))))))))
          cases H
          exact rt Try.func3 rfl (.tmp rfl .nil) rfl [] [] rfl rfl rfl rfl rfl ⟨rfl, rfl, rfl⟩
       ·
        refine ts 111 rfl (dF c18) (xk 27 [0] [0, 1, 2, 3, 4] rfl rfl rfl rfl rfl (xk 28 [0] [0, 1, 2, 3, 4] rfl rfl rfl rfl rfl (xk 29 [0] [0, 1, 2, 3, 4] rfl rfl rfl rfl rfl (xk 30 [0] [0, 1, 2, 3, 4] rfl rfl rfl rfl rfl (xk 31 [0] [0, 1, 2, 3, 4] rfl rfl rfl rfl rfl (xk 32 [0] [0, 1, 2, 3, 4] rfl rfl rfl rfl rfl (xk 33 [0] [0, 1, 2, 3, 4] rfl rfl rfl rfl rfl (xv 34 [0] [0, 1, 2, 3, 4] rfl (EV.pf rfl rfl rfl) rfl rfl rfl rfl (xv 35 [0] [0, 1, 2, 3, 4] rfl (EV.mv rfl) rfl rfl rfl rfl (xk 36 [0] [0, 1, 2, 3, 4] rfl rfl rfl rfl rfl (xk 38 [0] [0, 1, 2, 3, 4] rfl rfl rfl rfl rfl (xk 37 [0] [0, 1, 2, 3, 4] rfl rfl rfl rfl rfl (xk 39 [0] [0, 1, 2, 3, 4] rfl rfl rfl rfl rfl (xk 40 [0] [0, 1, 2, 3, 4] rfl rfl rfl rfl rfl (xv 41 [0] [0, 1, 2, 3, 4] rfl (EV.pf rfl rfl rfl) rfl rfl rfl rfl (xv 42 [0] [0, 1, 2, 3, 4] rfl (EV.mv rfl) rfl rfl rfl rfl (xk 43 [0] [0, 1, 2, 3, 4] rfl rfl rfl rfl rfl (xk 45 [0] [0, 1, 2, 3, 4] rfl rfl rfl rfl rfl (xk 44 [0] [0, 1, 2, 3, 4] rfl rfl rfl rfl rfl (xk 46 [0] [0, 1, 2, 3, 4] rfl rfl rfl rfl rfl (xk 47 [0] [0, 1, 2, 3, 4] rfl rfl rfl rfl rfl (xv 48 [0] [0, 1, 2, 3, 4] rfl (EV.pf rfl rfl rfl) rfl rfl rfl rfl (xv 49 [0] [0, 1, 2, 3, 4] rfl (EV.as rfl) rfl rfl rfl rfl (xd (pr [2] [] [] rfl rfl rfl rfl ?_)))))))))))))))))))))))))
        cases H
        exact rt Try.func3 rfl (.tmp rfl .nil) rfl [] [] rfl rfl rfl rfl rfl ⟨rfl, rfl, rfl⟩
      ·
       refine ts 104 rfl (dF c16) (xk 20 [0] [0, 1, 2, 3, 4] rfl rfl rfl rfl rfl (xk 21 [0] [0, 1, 2, 3, 4] rfl rfl rfl rfl rfl (xk 22 [0] [0, 1, 2, 3, 4] rfl rfl rfl rfl rfl (xk 23 [0] [0, 1, 2, 3, 4] rfl rfl rfl rfl rfl (xk 24 [0] [0, 1, 2, 3, 4] rfl rfl rfl rfl rfl (xv 25 [0] [0, 1, 2, 3, 4] rfl (EV.pf rfl rfl rfl) rfl rfl rfl rfl (xv 26 [0] [0, 1, 2, 3, 4] rfl (EV.mv rfl) rfl rfl rfl rfl (xk 27 [0] [0, 1, 2, 3, 4] rfl rfl rfl rfl rfl (xk 28 [0] [0, 1, 2, 3, 4] rfl rfl rfl rfl rfl (xk 29 [0] [0, 1, 2, 3, 4] rfl rfl rfl rfl rfl (xk 30 [0] [0, 1, 2, 3, 4] rfl rfl rfl rfl rfl (xk 31 [0] [0, 1, 2, 3, 4] rfl rfl rfl rfl rfl (xk 32 [0] [0, 1, 2, 3, 4] rfl rfl rfl rfl rfl (xk 33 [0] [0, 1, 2, 3, 4] rfl rfl rfl rfl rfl (xv 34 [0] [0, 1, 2, 3, 4] rfl (EV.pf rfl rfl rfl) rfl rfl rfl rfl (xv 35 [0] [0, 1, 2, 3, 4] rfl (EV.mv rfl) rfl rfl rfl rfl (xk 36 [0] [0, 1, 2, 3, 4] rfl rfl rfl rfl rfl (xk 38 [0] [0, 1, 2, 3, 4] rfl rfl rfl rfl rfl (xk 37 [0] [0, 1, 2, 3, 4] rfl rfl rfl rfl rfl (xk 39 [0] [0, 1, 2, 3, 4] rfl rfl rfl rfl rfl (xk 40 [0] [0, 1, 2, 3, 4] rfl rfl rfl rfl rfl (xv 41 [0] [0, 1, 2, 3, 4] rfl (EV.pf rfl rfl rfl) rfl rfl rfl rfl (xv 42 [0] [0, 1, 2, 3, 4] rfl (EV.mv rfl) rfl rfl rfl rfl (xk 43 [0] [0, 1, 2, 3, 4] rfl rfl rfl rfl rfl (xk 45 [0] [0, 1, 2, 3, 4] rfl rfl rfl rfl rfl (xk 44 [0] [0, 1, 2, 3, 4] rfl rfl rfl rfl rfl (xk 46 [0] [0, 1, 2, 3, 4] rfl rfl rfl rfl rfl (xk 47 [0] [0, 1, 2, 3, 4] rfl rfl rfl rfl rfl (xv 48 [0] [0, 1, 2, 3, 4] rfl (EV.pf rfl rfl rfl) rfl rfl rfl rfl ?_)))))))))))))))))))))))))))))
       refine xv 49 [0] [0, 1, 2, 3, 4] rfl (EV.as rfl) rfl rfl rfl rfl (xd (pr [2] [] [] rfl rfl rfl rfl ?_))
       cases H
       exact rt Try.func3 rfl (.tmp rfl .nil) rfl [] [] rfl rfl rfl rfl rfl ⟨rfl, rfl, rfl⟩
     ·
      refine ts 97 rfl (dF c14) (xk 13 [0] [0, 1, 2, 3, 4] rfl rfl rfl rfl rfl (xk 14 [0] [0, 1, 2, 3, 4] rfl rfl rfl rfl rfl (xk 15 [0] [0, 1, 2, 3, 4] rfl rfl rfl rfl rfl (xk 16 [0] [0, 1, 2, 3, 4] rfl rfl rfl rfl rfl (xk 17 [0] [0, 1, 2, 3, 4] rfl rfl rfl rfl rfl (xv 18 [0] [0, 1, 2, 3, 4] rfl (EV.pf rfl rfl rfl) rfl rfl rfl rfl (xv 19 [0] [0, 1, 2, 3, 4] rfl (EV.mv rfl) rfl rfl rfl rfl (xk 20 [0] [0, 1, 2, 3, 4] rfl rfl rfl rfl rfl (xk 21 [0] [0, 1, 2, 3, 4] rfl rfl rfl rfl rfl (xk 22 [0] [0, 1, 2, 3, 4] rfl rfl rfl rfl rfl (xk 23 [0] [0, 1, 2, 3, 4] rfl rfl rfl rfl rfl (xk 24 [0] [0, 1, 2, 3, 4] rfl rfl rfl rfl rfl (xv 25 [0] [0, 1, 2, 3, 4] rfl (EV.pf rfl rfl rfl) rfl rfl rfl rfl (xv 26 [0] [0, 1, 2, 3, 4] rfl (EV.mv rfl) rfl rfl rfl rfl (xk 27 [0] [0, 1, 2, 3, 4] rfl rfl rfl rfl rfl (xk 28 [0] [0, 1, 2, 3, 4] rfl rfl rfl rfl rfl (xk 29 [0] [0, 1, 2, 3, 4] rfl rfl rfl rfl rfl (xk 30 [0] [0, 1, 2, 3, 4] rfl rfl rfl rfl rfl (xk 31 [0] [0, 1, 2, 3, 4] rfl rfl rfl rfl rfl (xk 32 [0] [0, 1, 2, 3, 4] rfl rfl rfl rfl rfl (xk 33 [0] [0, 1, 2, 3, 4] rfl rfl rfl rfl rfl (xv 34 [0] [0, 1, 2, 3, 4] rfl (EV.pf rfl rfl rfl) rfl rfl rfl rfl (xv 35 [0] [0, 1, 2, 3, 4] rfl (EV.mv rfl) rfl rfl rfl rfl (xk 36 [0] [0, 1, 2, 3, 4] rfl rfl rfl rfl rfl (xk 38 [0] [0, 1, 2, 3, 4] rfl rfl rfl rfl rfl (xk 37 [0] [0, 1, 2, 3, 4] rfl rfl rfl rfl rfl (xk 39 [0] [0, 1, 2, 3, 4] rfl rfl rfl rfl rfl (xk 40 [0] [0, 1, 2, 3, 4] rfl rfl rfl rfl rfl (xv 41 [0] [0, 1, 2, 3, 4] rfl (EV.pf rfl rfl rfl) rfl rfl rfl rfl ?_)))))))))))))))))))))))))))))
      refine xv 42 [0] [0, 1, 2, 3, 4] rfl (EV.mv rfl) rfl rfl rfl rfl (xk 43 [0] [0, 1, 2, 3, 4] rfl rfl rfl rfl rfl (xk 45 [0] [0, 1, 2, 3, 4] rfl rfl rfl rfl rfl (xk 44 [0] [0, 1, 2, 3, 4] rfl rfl rfl rfl rfl (xk 46 [0] [0, 1, 2, 3, 4] rfl rfl rfl rfl rfl (xk 47 [0] [0, 1, 2, 3, 4] rfl rfl rfl rfl rfl (xv 48 [0] [0, 1, 2, 3, 4] rfl (EV.pf rfl rfl rfl) rfl rfl rfl rfl (xv 49 [0] [0, 1, 2, 3, 4] rfl (EV.as rfl) rfl rfl rfl rfl (xd (pr [2] [] [] rfl rfl rfl rfl ?_)))))))))
      cases H
      exact rt Try.func3 rfl (.tmp rfl .nil) rfl [] [] rfl rfl rfl rfl rfl ⟨rfl, rfl, rfl⟩
    ·
     obtain rfl := bF c12
     refine ts 90 rfl rfl (xk 6 [0] [0, 1, 2, 3, 4] rfl rfl rfl rfl rfl (xk 7 [0] [0, 1, 2, 3, 4] rfl rfl rfl rfl rfl (xk 8 [0] [0, 1, 2, 3, 4] rfl rfl rfl rfl rfl (xk 9 [0] [0, 1, 2, 3, 4] rfl rfl rfl rfl rfl (xk 10 [0] [0, 1, 2, 3, 4] rfl rfl rfl rfl rfl (xv 11 [0] [0, 1, 2, 3, 4] rfl (EV.pf rfl rfl rfl) rfl rfl rfl rfl (xv 12 [0] [0, 1, 2, 3, 4] rfl (EV.mv rfl) rfl rfl rfl rfl (xk 13 [0] [0, 1, 2, 3, 4] rfl rfl rfl rfl rfl (xk 14 [0] [0, 1, 2, 3, 4] rfl rfl rfl rfl rfl (xk 15 [0] [0, 1, 2, 3, 4] rfl rfl rfl rfl rfl (xk 16 [0] [0, 1, 2, 3, 4] rfl rfl rfl rfl rfl (xk 17 [0] [0, 1, 2, 3, 4] rfl rfl rfl rfl rfl (xv 18 [0] [0, 1, 2, 3, 4] rfl (EV.pf rfl rfl rfl) rfl rfl rfl rfl (xv 19 [0] [0, 1, 2, 3, 4] rfl (EV.mv rfl) rfl rfl rfl rfl (xk 20 [0] [0, 1, 2, 3, 4] rfl rfl rfl rfl rfl (xk 21 [0] [0, 1, 2, 3, 4] rfl rfl rfl rfl rfl (xk 22 [0] [0, 1, 2, 3, 4] rfl rfl rfl rfl rfl (xk 23 [0] [0, 1, 2, 3, 4] rfl rfl rfl rfl rfl (xk 24 [0] [0, 1, 2, 3, 4] rfl rfl rfl rfl rfl (xv 25 [0] [0, 1, 2, 3, 4] rfl (EV.pf rfl rfl rfl) rfl rfl rfl rfl (xv 26 [0] [0, 1, 2, 3, 4] rfl (EV.mv rfl) rfl rfl rfl rfl (xk 27 [0] [0, 1, 2, 3, 4] rfl rfl rfl rfl rfl (xk 28 [0] [0, 1, 2, 3, 4] rfl rfl rfl rfl rfl (xk 29 [0] [0, 1, 2, 3, 4] rfl rfl rfl rfl rfl (xk 30 [0] [0, 1, 2, 3, 4] rfl rfl rfl rfl rfl (xk 31 [0] [0, 1, 2, 3, 4] rfl rfl rfl rfl rfl (xk 32 [0] [0, 1, 2, 3, 4] rfl rfl rfl rfl rfl (xk 33 [0] [0, 1, 2, 3, 4] rfl rfl rfl rfl rfl (xv 34 [0] [0, 1, 2, 3, 4] rfl (EV.pf rfl rfl rfl) rfl rfl rfl rfl ?_)))))))))))))))))))))))))))))
     refine xv 35 [0] [0, 1, 2, 3, 4] rfl (EV.mv rfl) rfl rfl rfl rfl (xk 36 [0] [0, 1, 2, 3, 4] rfl rfl rfl rfl rfl (xk 38 [0] [0, 1, 2, 3, 4] rfl rfl rfl rfl rfl (xk 37 [0] [0, 1, 2, 3, 4] rfl rfl rfl rfl rfl (xk 39 [0] [0, 1, 2, 3, 4] rfl rfl rfl rfl rfl (xk 40 [0] [0, 1, 2, 3, 4] rfl rfl rfl rfl rfl (xv 41 [0] [0, 1, 2, 3, 4] rfl (EV.pf rfl rfl rfl) rfl rfl rfl rfl (xv 42 [0] [0, 1, 2, 3, 4] rfl (EV.mv rfl) rfl rfl rfl rfl (xk 43 [0] [0, 1, 2, 3, 4] rfl rfl rfl rfl rfl (xk 45 [0] [0, 1, 2, 3, 4] rfl rfl rfl rfl rfl (xk 44 [0] [0, 1, 2, 3, 4] rfl rfl rfl rfl rfl (xk 46 [0] [0, 1, 2, 3, 4] rfl rfl rfl rfl rfl (xk 47 [0] [0, 1, 2, 3, 4] rfl rfl rfl rfl rfl (xv 48 [0] [0, 1, 2, 3, 4] rfl (EV.pf rfl rfl rfl) rfl rfl rfl rfl (xv 49 [0] [0, 1, 2, 3, 4] rfl (EV.as rfl) rfl rfl rfl rfl (xd (pr [2] [] [] rfl rfl rfl rfl ?_))))))))))))))))
     cases H
     exact rt Try.func3 rfl (.tmp rfl .nil) rfl [] [] rfl rfl rfl rfl rfl ⟨rfl, rfl, rfl⟩
   ·
    obtain rfl := bF c7
    refine gt rfl rfl (gs (rg (sv (EV.fa 1 rfl) rfl (sv (EV.ld 0 none rfl rfl rfl) rfl (sv (EV.eql rfl rfl) rfl (sv (EV.as rfl) rfl (re (pr [2] [] [] rfl rfl rfl rfl ?_))))))))
    cases H
    exact rt Try.func3 rfl (.tmp rfl .nil) rfl [] [] rfl rfl rfl rfl rfl ⟨rfl, rfl, rfl⟩
  ·
   refine gs (rg (sv (EV.mv rfl) rfl (sv (EV.mv rfl) rfl (sv (EV.neb rfl rfl) rfl (sv (EV.mv rfl) rfl ?_)))))
   revert H; refine ifsI ?_ ?_ <;> intro c31 H
   ·
    refine ts 37 rfl (bN c31) (sv (EV.fa 0 rfl) rfl (sv (EV.ld 0 none rfl rfl rfl) rfl (sv (EV.fa 0 rfl) rfl (sv (EV.ld 1 none rfl rfl rfl) rfl ?_))))
    revert H; refine bdI ?_; rintro t32 A32 H
    refine so rfl (op_call (laws_sameGroups.ok k t4_0 At4_0 ct4_0 t5_0 At5_0 ct5_0 _ A32) [⟨3, 0, 0, false⟩, ⟨4, 0, 0, false⟩] 8 rfl rfl rfl rfl rfl ?_)
    rintro _ _ _ ⟨rfl, rfl, rfl⟩
    refine sv (EV.nt rfl) rfl (sv (EV.pf rfl rfl rfl) rfl (sv (EV.mv rfl) rfl ?_))
    revert H; refine ifsI ?_ ?_ <;> intro c33 H
    ·
     subst c33
     refine ts 45 rfl rfl (sv (EV.fa 1 rfl) rfl (sv (EV.ld 0 none rfl rfl rfl) rfl (sv (EV.fa 1 rfl) rfl (sv (EV.ld 1 none rfl rfl rfl) rfl (sv (EV.neq rfl rfl) rfl (sv (EV.pf rfl rfl rfl) rfl (sv (EV.mv rfl) rfl ?_)))))))
     revert H; refine ifsI ?_ ?_ <;> intro c34 H
     ·
      refine ts 52 rfl (nF c34) (sv (EV.fa 2 rfl) rfl (sv (EV.ld 0 none rfl rfl rfl) rfl (sv (EV.fa 2 rfl) rfl (sv (EV.ld 1 none rfl rfl rfl) rfl (sv (EV.neq rfl rfl) rfl (sv (EV.pf rfl rfl rfl) rfl (sv (EV.mv rfl) rfl ?_)))))))
      revert H; refine ifsI ?_ ?_ <;> intro c35 H
      ·
       refine ts 59 rfl (nF c35) (sv (EV.fa 3 rfl) rfl (sv (EV.ld 0 none rfl rfl rfl) rfl (sv (EV.fa 3 rfl) rfl (sv (EV.ld 1 none rfl rfl rfl) rfl (sv (EV.neq rfl rfl) rfl (sv (EV.pf rfl rfl rfl) rfl (sv (EV.mv rfl) rfl ?_)))))))
       revert H; refine ifsI ?_ ?_ <;> intro c36 H
       ·
        refine ts 66 rfl (nF c36) (sv (EV.mv rfl) rfl (sv (EV.mv rfl) rfl ?_))
        revert H; refine bdI ?_; rintro t37 A37 H
        refine so rfl (op_call (spec_AreValidRows.ok k t3_0 At3_0 ct3_0 _ A37) [⟨1, 0, 0, false⟩] 8 rfl rfl rfl rfl rfl ?_)
        rintro _ _ _ ⟨rfl, rfl, rfl⟩
        refine sv (EV.mv rfl) rfl ?_
        revert H; refine ifsI ?_ ?_ <;> intro c38 H
        ·
         subst c38
         refine ts 70 rfl rfl (sv (EV.mv rfl) rfl ?_)
         revert H; refine bdI ?_; rintro t39 A39 H
         refine so rfl (op_call (laws_grantsOk.ok k t3_2 At3_2 ct3_2 _ A39) [⟨2, 0, 0, false⟩] 8 rfl rfl rfl rfl rfl ?_)
         rintro _ _ _ ⟨rfl, rfl, rfl⟩
         refine sv (EV.pt rfl rfl rfl) rfl (sv (EV.neb rfl rfl) rfl (sv (EV.pf rfl rfl rfl) rfl (re (pr [0, 3, 4, 5, 6, 7, 75] [0] [0, 1, 2, 3] rfl rfl rfl rfl ?_))))
         revert H; refine ifsI ?_ ?_ <;> intro c40 H
         ·
          exact gf rfl (bN c40) (gk (wk [0, 3, 4, 5, 6, 7] [0] [⟨1, 2, 1, true⟩, ⟨2, 2, 2, true⟩, ⟨3, 1, 3, false⟩, ⟨0, 0, 0, false⟩] (jh0 _ ⟨_, t3_0, At3_0, ct3_0, t3_1, t3_2, At3_2, ct3_2, t4_4, t4_0, At4_0, ct4_0, t4_1, t4_2, t4_3, H, rfl⟩)))
         ·
          refine gt rfl (bM c40) (gs (rg (sv (EV.as rfl) rfl (re (pr [2] [] [] rfl rfl rfl rfl ?_)))))
          cases H
          exact rt Try.func3 rfl (.tmp rfl .nil) rfl [] [] rfl rfl rfl rfl rfl ⟨rfl, rfl, rfl⟩
        ·
         obtain rfl := bF c38
         refine ts 70 rfl rfl (sk rfl (sk rfl (sv (EV.pf rfl rfl rfl) rfl (sv (EV.neb rfl rfl) rfl (sv (EV.pf rfl rfl rfl) rfl (re (pr [0, 3, 4, 5, 6, 7, 75] [0] [0, 1, 2, 3] rfl rfl rfl rfl ?_)))))))
         revert H; refine ifsI ?_ ?_ <;> intro c41 H
         ·
          exact gf rfl (bN c41) (gk (wk [0, 3, 4, 5, 6, 7] [0] [⟨1, 2, 1, true⟩, ⟨2, 2, 2, true⟩, ⟨3, 1, 3, false⟩, ⟨0, 0, 0, false⟩] (jh0 _ ⟨_, t3_0, At3_0, ct3_0, t3_1, t3_2, At3_2, ct3_2, t4_4, t4_0, At4_0, ct4_0, t4_1, t4_2, t4_3, H, rfl⟩)))
         ·
          refine gt rfl (bM c41) (gs (rg (sv (EV.as rfl) rfl (re (pr [2] [] [] rfl rfl rfl rfl ?_)))))
          cases H
          exact rt Try.func3 rfl (.tmp rfl .nil) rfl [] [] rfl rfl rfl rfl rfl ⟨rfl, rfl, rfl⟩
       ·
        refine ts 66 rfl (nT c36) (sk rfl (sk rfl (sk rfl (sk rfl (sk rfl (sk rfl (sk rfl (sk rfl (sv (EV.pt rfl rfl rfl) rfl (re (pr [0, 3, 4, 5, 6, 7, 75] [0] [0, 1, 2, 3] rfl rfl rfl rfl (gt rfl rfl (gs (rg (sv (EV.as rfl) rfl (re (pr [2] [] [] rfl rfl rfl rfl ?_)))))))))))))))))
        cases H
        exact rt Try.func3 rfl (.tmp rfl .nil) rfl [] [] rfl rfl rfl rfl rfl ⟨rfl, rfl, rfl⟩
      ·
       refine ts 59 rfl (nT c35) (sk rfl (sk rfl (sk rfl (sk rfl (sk rfl (sv (EV.pt rfl rfl rfl) rfl (sv (EV.mv rfl) rfl (sk rfl (sk rfl (sk rfl (sk rfl (sk rfl (sk rfl (sk rfl (sk rfl (sv (EV.pt rfl rfl rfl) rfl (re (pr [0, 3, 4, 5, 6, 7, 75] [0] [0, 1, 2, 3] rfl rfl rfl rfl (gt rfl rfl (gs (rg (sv (EV.as rfl) rfl (re (pr [2] [] [] rfl rfl rfl rfl ?_))))))))))))))))))))))))
       cases H
       exact rt Try.func3 rfl (.tmp rfl .nil) rfl [] [] rfl rfl rfl rfl rfl ⟨rfl, rfl, rfl⟩
     ·
      refine ts 52 rfl (nT c34) (sk rfl (sk rfl (sk rfl (sk rfl (sk rfl (sv (EV.pt rfl rfl rfl) rfl (sv (EV.mv rfl) rfl (sk rfl (sk rfl (sk rfl (sk rfl (sk rfl (sv (EV.pt rfl rfl rfl) rfl (sv (EV.mv rfl) rfl (sk rfl (sk rfl (sk rfl (sk rfl (sk rfl (sk rfl (sk rfl (sk rfl (sv (EV.pt rfl rfl rfl) rfl (re (pr [0, 3, 4, 5, 6, 7, 75] [0] [0, 1, 2, 3] rfl rfl rfl rfl (gt rfl rfl (gs (rg (sv (EV.as rfl) rfl ?_)))))))))))))))))))))))))))))
      refine re (pr [2] [] [] rfl rfl rfl rfl ?_)
      cases H
      exact rt Try.func3 rfl (.tmp rfl .nil) rfl [] [] rfl rfl rfl rfl rfl ⟨rfl, rfl, rfl⟩
    ·
     obtain rfl := bF c33
     refine ts 45 rfl rfl (sk rfl (sk rfl (sk rfl (sk rfl (sk rfl (sv (EV.pt rfl rfl rfl) rfl (sv (EV.mv rfl) rfl (sk rfl (sk rfl (sk rfl (sk rfl (sk rfl (sv (EV.pt rfl rfl rfl) rfl (sv (EV.mv rfl) rfl (sk rfl (sk rfl (sk rfl (sk rfl (sk rfl (sv (EV.pt rfl rfl rfl) rfl (sv (EV.mv rfl) rfl (sk rfl (sk rfl (sk rfl (sk rfl (sk rfl (sk rfl (sk rfl (sk rfl ?_)))))))))))))))))))))))))))))
     refine sv (EV.pt rfl rfl rfl) rfl (re (pr [0, 3, 4, 5, 6, 7, 75] [0] [0, 1, 2, 3] rfl rfl rfl rfl (gt rfl rfl (gs (rg (sv (EV.as rfl) rfl (re (pr [2] [] [] rfl rfl rfl rfl ?_))))))))
     cases H
     exact rt Try.func3 rfl (.tmp rfl .nil) rfl [] [] rfl rfl rfl rfl rfl ⟨rfl, rfl, rfl⟩
   ·
    refine ts 37 rfl (bM c31) (sk rfl (sk rfl (sk rfl (sk rfl (sk rfl (sk rfl (sv (EV.pt rfl rfl rfl) rfl (sv (EV.mv rfl) rfl (sk rfl (sk rfl (sk rfl (sk rfl (sk rfl (sv (EV.pt rfl rfl rfl) rfl (sv (EV.mv rfl) rfl (sk rfl (sk rfl (sk rfl (sk rfl (sk rfl (sv (EV.pt rfl rfl rfl) rfl (sv (EV.mv rfl) rfl (sk rfl (sk rfl (sk rfl (sk rfl (sk rfl (sv (EV.pt rfl rfl rfl) rfl (sv (EV.mv rfl) rfl ?_)))))))))))))))))))))))))))))
    refine sk rfl (sk rfl (sk rfl (sk rfl (sk rfl (sk rfl (sk rfl (sk rfl (sv (EV.pt rfl rfl rfl) rfl (re (pr [0, 3, 4, 5, 6, 7, 75] [0] [0, 1, 2, 3] rfl rfl rfl rfl (gt rfl rfl (gs (rg (sv (EV.as rfl) rfl (re (pr [2] [] [] rfl rfl rfl rfl ?_))))))))))))))))
    cases H
    exact rt Try.func3 rfl (.tmp rfl .nil) rfl [] [] rfl rfl rfl rfl rfl ⟨rfl, rfl, rfl⟩
end Go.Proofs.Ytgpencaijhbolaa.K
