/- Walks: what the functions compute. Printed by gen.py; no condition. -/
import Derived.Test.YtajjeemkdjfilaaVFnJoinerMemoryd
namespace Go.Proofs.Ytajjeemkdjfilaa.K
open Go Go.RowKit
set_option linter.unusedVariables false
set_option linter.unusedSimpArgs false
def impl_BuildSide.f (k : Nat) (a0_0 : Int) (l0_1 : List S70) (l0_2 : List S70) (l0_3 : List Bool) (a0_4 : Int) (a1 : Int) : Option (Int) := (impl_IsValidTask.f k a0_0 l0_1 l0_2 l0_3 a0_4).bind fun t1 => (if t1 = true then ((impl_TotalCost.f k l0_1).bind fun t3 => ((impl_TotalCost.f k l0_2).bind fun t4 => (if a0_0 = 1 then (if t3 < t4 then (if t3 ≤ a1 then (some 1) else (if t4 ≤ a1 then (some 2) else (some 0))) else (if t4 ≤ a1 then (some 2) else (some 0))) else (if t4 ≤ a1 then (some 2) else (some 0))))) else (some 0))
set_option maxHeartbeats 4000000 in
set_option maxRecDepth 100000 in
theorem impl_BuildSide.ok (k : Nat) (a0_0 : Int) (l0_1 : List S70) (Al0_1 : Option Addr) (cl0_1 : Nat) (l0_2 : List S70) (Al0_2 : Option Addr) (cl0_2 : Nat) (l0_3 : List Bool) (Al0_3 : Option Addr) (cl0_3 : Nat) (a0_4 : Int) (a1 : Int) (r0 : Int) (H : impl_BuildSide.f k a0_0 l0_1 l0_2 l0_3 a0_4 a1 = some r0) : Fn Try.prog 97 [.agg #[.int .i64 a0_0, .slice Al0_1 l0_1.length cl0_1, .slice Al0_2 l0_2.length cl0_2, .slice Al0_3 l0_3.length cl0_3, .int .i64 a0_4], .int .i64 a1] [] [.sl 0 k70 Al0_1 cl0_1 l0_1 0 false, .sl 0 k70 Al0_2 cl0_2 l0_2 0 false, .sl 0 .bool Al0_3 cl0_3 l0_3 0 false] (fun v bx en => v = .int .i64 r0 ∧ bx = [] ∧ en = []) := by
 refine fn_ 34 Try.func97 rfl rfl rfl (fun base T w0 => ?_)
 rw [impl_BuildSide.f] at H
 refine gs (rg (so rfl (op_box (cs := [.int .i64 a0_0, .slice Al0_1 l0_1.length cl0_1, .slice Al0_2 l0_2.length cl0_2, .slice Al0_3 l0_3.length cl0_3, .int .i64 a0_4]) rfl rfl rfl fun b2 => (sv (EV.as rfl) rfl (re (gs (gs (rg (sv (EV.ld (v := .agg #[.int .i64 a0_0, .slice Al0_1 l0_1.length cl0_1, .slice Al0_2 l0_2.length cl0_2, .slice Al0_3 l0_3.length cl0_3, .int .i64 a0_4]) 0 (some 5) rfl rfl rfl) rfl ?_)))))))))
 revert H; refine bdI ?_; rintro t1 A1 H
 refine so rfl (op_call (impl_IsValidTask.ok k a0_0 l0_1 Al0_1 cl0_1 l0_2 Al0_2 cl0_2 l0_3 Al0_3 cl0_3 a0_4 _ A1) [⟨0, 0, 0, false⟩, ⟨1, 0, 0, false⟩, ⟨2, 0, 0, false⟩] 1 rfl rfl rfl rfl rfl ?_)
 rintro _ _ _ ⟨rfl, rfl, rfl⟩
 refine sv (EV.nt rfl) rfl (re ?_)
 revert H; refine ifsI ?_ ?_ <;> intro c2 H
 ·
  subst c2
  refine gf rfl rfl (gk (gs (dr [0] [0, 1, 2] [] 8 rfl rfl rfl rfl (xv 0 [0] [0, 1, 2] rfl (EV.fa 1 rfl) rfl rfl rfl rfl (xv 1 [0] [0, 1, 2] rfl (EV.ld 0 none rfl rfl rfl) rfl rfl rfl rfl (xv 3 [0] [0, 1, 2] rfl (EV.fa 2 rfl) rfl rfl rfl rfl (xv 4 [0] [0, 1, 2] rfl (EV.ld 0 none rfl rfl rfl) rfl rfl rfl rfl (one1 2 rfl rfl ?_))))))))
  revert H; refine bdI ?_; rintro t3 A3 H
  refine op_call (impl_TotalCost.ok k l0_1 Al0_1 cl0_1 _ A3) [⟨0, 0, 0, false⟩] 1 rfl rfl rfl rfl rfl ?_
  rintro _ _ _ ⟨rfl, rfl, rfl⟩
  refine xs [0] [0, 1, 2] rfl rfl rfl (one1 5 rfl rfl ?_)
  revert H; refine bdI ?_; rintro t4 A4 H
  refine op_call (impl_TotalCost.ok k l0_2 Al0_2 cl0_2 _ A4) [⟨1, 0, 0, false⟩] 1 rfl rfl rfl rfl rfl ?_
  rintro _ _ _ ⟨rfl, rfl, rfl⟩
  refine xs [0] [0, 1, 2] rfl rfl rfl (xv 6 [0] [0, 1, 2] rfl (EV.as rfl) rfl rfl rfl rfl (xv 7 [0] [0, 1, 2] rfl (EV.as rfl) rfl rfl rfl rfl (xd (pr [1, 2, 5, 6] [0] [0, 1, 2] rfl rfl rfl rfl (gs (gb (gs (rg (sv (EV.fa 0 rfl) rfl (sv (EV.ld 0 none rfl rfl rfl) rfl (sv (EV.eql rfl rfl) rfl (sv (EV.mv rfl) rfl ?_))))))))))))
  revert H; refine ifsI ?_ ?_ <;> intro c5 H
  ·
   refine ts 20 rfl (dT c5) (sv (EV.mv rfl) rfl (sv (EV.mv rfl) rfl (sv (EV.lss rfl rfl) rfl (sv (EV.pt rfl rfl rfl) rfl (sv (EV.mv rfl) rfl ?_)))))
   revert H; refine ifsI ?_ ?_ <;> intro c6 H
   ·
    refine ts 25 rfl (dT c6) (sv (EV.mv rfl) rfl (sv (EV.mv rfl) rfl (sv (EV.leq rfl rfl) rfl (sv (EV.pt rfl rfl rfl) rfl (sv (EV.as rfl) rfl (re (pr [1, 6, 16] [] [] rfl rfl rfl rfl ?_)))))))
    revert H; refine ifsI ?_ ?_ <;> intro c7 H
    ·
     refine gt rfl (dT c7) (gs (rg (sv (EV.as rfl) rfl (re ?_))))
     cases H
     exact rt Try.func97 rfl (.tmp rfl .nil) rfl [] [] rfl rfl rfl rfl rfl ⟨rfl, rfl, rfl⟩
    ·
     refine gf rfl (dF c7) (gs (rg (sv (EV.mv rfl) rfl (sv (EV.mv rfl) rfl (sv (EV.leq rfl rfl) rfl (sv (EV.as rfl) rfl (re (pr [30] [] [] rfl rfl rfl rfl ?_))))))))
     revert H; refine ifsI ?_ ?_ <;> intro c8 H
     ·
      refine gt rfl (dT c8) (gs (rg (sv (EV.as rfl) rfl (re ?_))))
      cases H
      exact rt Try.func97 rfl (.tmp rfl .nil) rfl [] [] rfl rfl rfl rfl rfl ⟨rfl, rfl, rfl⟩
     ·
      refine gf rfl (dF c8) (gk (ge (gs (rg (sv (EV.as rfl) rfl (re ?_))))))
      cases H
      exact rt Try.func97 rfl (.tmp rfl .nil) rfl [] [] rfl rfl rfl rfl rfl ⟨rfl, rfl, rfl⟩
   ·
    refine ts 25 rfl (dF c6) (sk rfl (sk rfl (sk rfl (sv (EV.pf rfl rfl rfl) rfl (sv (EV.as rfl) rfl (re (pr [1, 6, 16] [] [] rfl rfl rfl rfl (gf rfl rfl (gs (rg (sv (EV.mv rfl) rfl (sv (EV.mv rfl) rfl (sv (EV.leq rfl rfl) rfl (sv (EV.as rfl) rfl (re (pr [30] [] [] rfl rfl rfl rfl ?_))))))))))))))))
    revert H; refine ifsI ?_ ?_ <;> intro c9 H
    ·
     refine gt rfl (dT c9) (gs (rg (sv (EV.as rfl) rfl (re ?_))))
     cases H
     exact rt Try.func97 rfl (.tmp rfl .nil) rfl [] [] rfl rfl rfl rfl rfl ⟨rfl, rfl, rfl⟩
    ·
     refine gf rfl (dF c9) (gk (ge (gs (rg (sv (EV.as rfl) rfl (re ?_))))))
     cases H
     exact rt Try.func97 rfl (.tmp rfl .nil) rfl [] [] rfl rfl rfl rfl rfl ⟨rfl, rfl, rfl⟩
  ·
   refine ts 20 rfl (dF c5) (sk rfl (sk rfl (sk rfl (sv (EV.pf rfl rfl rfl) rfl (sv (EV.mv rfl) rfl (sk rfl (sk rfl (sk rfl (sv (EV.pf rfl rfl rfl) rfl (sv (EV.as rfl) rfl (re (pr [1, 6, 16] [] [] rfl rfl rfl rfl (gf rfl rfl (gs (rg (sv (EV.mv rfl) rfl (sv (EV.mv rfl) rfl (sv (EV.leq rfl rfl) rfl (sv (EV.as rfl) rfl (re (pr [30] [] [] rfl rfl rfl rfl ?_)))))))))))))))))))))
   revert H; refine ifsI ?_ ?_ <;> intro c10 H
   ·
    refine gt rfl (dT c10) (gs (rg (sv (EV.as rfl) rfl (re ?_))))
    cases H
    exact rt Try.func97 rfl (.tmp rfl .nil) rfl [] [] rfl rfl rfl rfl rfl ⟨rfl, rfl, rfl⟩
   ·
    refine gf rfl (dF c10) (gk (ge (gs (rg (sv (EV.as rfl) rfl (re ?_))))))
    cases H
    exact rt Try.func97 rfl (.tmp rfl .nil) rfl [] [] rfl rfl rfl rfl rfl ⟨rfl, rfl, rfl⟩
 ·
  obtain rfl := bF c2
  refine gt rfl rfl (gs (rg (sv (EV.as rfl) rfl (re (pr [4] [] [] rfl rfl rfl rfl ?_)))))
  cases H
  exact rt Try.func97 rfl (.tmp rfl .nil) rfl [] [] rfl rfl rfl rfl rfl ⟨rfl, rfl, rfl⟩
end Go.Proofs.Ytajjeemkdjfilaa.K
namespace Go.Proofs.Ytajjeemkdjfilaa.K
open Go Go.RowKit
set_option linter.unusedVariables false
set_option linter.unusedSimpArgs false
def impl_StepJoiner.j0 : Nat → (List S92) → Int → (List S44) → Int → Int → (List S44) → Int → Int → Int → (List S70) → (List S70) → (List Bool) → Int → Option ((List S44) × Int × Int × (List S92) × Int × Bool)
 | 0, _, _, _, _, _, _, _, _, _, _, _, _, _ => none
 | k + 1, x2_11, x2_13, x2_4_0, x2_4_1, x2_4_2, x2_8_0, x2_8_1, x2_8_2, x2_12_0, x2_12_1, x2_12_2, x2_12_3, x2_12_4 => (impl_UnmatchedRows.f k x2_12_0 x2_12_1 x2_12_2 x2_12_3 x2_12_4).bind fun t42 => (if x2_11.length + t42.length ≤ 2513169434916 then (some (x2_8_0, x2_8_1, x2_8_2, x2_11 ++ t42, x2_13, true)) else none)
def impl_StepJoiner.f (k : Nat) (l0_0 : List S44) (a0_1 : Int) (a0_2 : Int) (a1 : Int) : Option ((List S44) × Int × Int × (List S92) × Int × Bool) := (impl_cloneJoiner.f k l0_0 a0_1 a0_2).bind fun bt1 => ((impl_IsValidJoiner.f k l0_0 a0_1 a0_2).bind fun t2 => (if t2 = true then (if (l0_0.length : Int) = 0 then (some (bt1.1, bt1.2.1, bt1.2.2, [], 0, false)) else ((impl_isGrant.f a1).bind fun t5 => (if t5 = true then (if 0 < (bt1.1.length : Int) then ((impl_BuildSide.f k ((rd_T44 bt1.1 0).f0) ((rd_T44 bt1.1 0).f1) ((rd_T44 bt1.1 0).f2) ((rd_T44 bt1.1 0).f3) ((rd_T44 bt1.1 0).f4) a1).bind fun t11 => (if (((rd_T44 bt1.1 0).f1).length : Int) = 0 then (if 1 ≤ (bt1.1.length : Int) then ((impl_UnmatchedRows.f k ((rd_T44 bt1.1 0).f0) ((rd_T44 bt1.1 0).f1) ((rd_T44 bt1.1 0).f2) ((rd_T44 bt1.1 0).f3) ((rd_T44 bt1.1 0).f4)).bind fun t14 => (some (bt1.1.drop (1 : Int).toNat, bt1.2.1, bt1.2.2, t14, 0, true))) else none) else (if (((rd_T44 bt1.1 0).f2).length : Int) = 0 then (if 1 ≤ (bt1.1.length : Int) then ((impl_UnmatchedRows.f k ((rd_T44 bt1.1 0).f0) ((rd_T44 bt1.1 0).f1) ((rd_T44 bt1.1 0).f2) ((rd_T44 bt1.1 0).f3) ((rd_T44 bt1.1 0).f4)).bind fun t17 => (some (bt1.1.drop (1 : Int).toNat, bt1.2.1, bt1.2.2, t17, 0, true))) else none) else (if t11 = 0 then ((impl_NeedsNestedLoop.f k ((rd_T44 bt1.1 0).f0) ((rd_T44 bt1.1 0).f1) ((rd_T44 bt1.1 0).f2) ((rd_T44 bt1.1 0).f3) ((rd_T44 bt1.1 0).f4)).bind fun t19 => (if t19 = true then ((impl_NextChunk.f k ((rd_T44 bt1.1 0).f2) a1).bind fun bt21 => ((impl_JoinChunk.f k ((rd_T44 bt1.1 0).f0) ((rd_T44 bt1.1 0).f1) ((rd_T44 bt1.1 0).f2) ((rd_T44 bt1.1 0).f3) ((rd_T44 bt1.1 0).f4) bt21.1).bind fun bt22 => ((some (bt1.1.set (0 : Int).toNat (⟨bt22.2.1, bt22.2.2.1, bt21.2, bt22.2.2.2.2.1, bt22.2.2.2.2.2⟩ : S44))).bind fun s26 => ((impl_TotalCost.f k bt21.1).bind fun t27 => (some (s26, bt1.2.1, bt1.2.2, bt22.1, t27, true)))))) else ((impl_PartitionTask.f k ((rd_T44 bt1.1 0).f0) ((rd_T44 bt1.1 0).f1) ((rd_T44 bt1.1 0).f2) ((rd_T44 bt1.1 0).f3) ((rd_T44 bt1.1 0).f4)).bind fun bt28 => (if 1 ≤ (bt1.1.length : Int) then (if ([(⟨bt28.1, bt28.2.1, bt28.2.2.1, bt28.2.2.2.1, bt28.2.2.2.2.1⟩ : S44), (⟨bt28.2.2.2.2.2.1, bt28.2.2.2.2.2.2.1, bt28.2.2.2.2.2.2.2.1, bt28.2.2.2.2.2.2.2.2.1, bt28.2.2.2.2.2.2.2.2.2.1⟩ : S44)] : List S44).length + (bt1.1.drop (1 : Int).toNat).length ≤ 1599289640401 then ((impl_TaskCost.f k ((rd_T44 bt1.1 0).f0) ((rd_T44 bt1.1 0).f1) ((rd_T44 bt1.1 0).f2) ((rd_T44 bt1.1 0).f3) ((rd_T44 bt1.1 0).f4)).bind fun t33 => (some (([(⟨bt28.1, bt28.2.1, bt28.2.2.1, bt28.2.2.2.1, bt28.2.2.2.2.1⟩ : S44), (⟨bt28.2.2.2.2.2.1, bt28.2.2.2.2.2.2.1, bt28.2.2.2.2.2.2.2.1, bt28.2.2.2.2.2.2.2.2.1, bt28.2.2.2.2.2.2.2.2.2.1⟩ : S44)] : List S44) ++ (bt1.1.drop (1 : Int).toNat), wrap64 (bt1.2.1 + t33), wrap64 (bt1.2.2 + 1), [], 8, true))) else none) else none)))) else (if 1 ≤ (bt1.1.length : Int) then ((impl_JoinChunk.f k ((rd_T44 bt1.1 0).f0) ((rd_T44 bt1.1 0).f1) ((rd_T44 bt1.1 0).f2) ((rd_T44 bt1.1 0).f3) ((rd_T44 bt1.1 0).f4) ((rd_T44 bt1.1 0).f2)).bind fun bt39 => ((impl_TotalCost.f k ((rd_T44 bt1.1 0).f2)).bind fun t40 => (if t11 = 1 then ((impl_TotalCost.f k ((rd_T44 bt1.1 0).f1)).bind fun t46 => (impl_StepJoiner.j0 k bt39.1 t46 [] 0 0 (bt1.1.drop (1 : Int).toNat) bt1.2.1 bt1.2.2 bt39.2.1 bt39.2.2.1 bt39.2.2.2.1 bt39.2.2.2.2.1 bt39.2.2.2.2.2)) else (impl_StepJoiner.j0 k bt39.1 t40 [] 0 0 (bt1.1.drop (1 : Int).toNat) bt1.2.1 bt1.2.2 bt39.2.1 bt39.2.2.1 bt39.2.2.2.1 bt39.2.2.2.2.1 bt39.2.2.2.2.2)))) else none))))) else none) else (some (bt1.1, bt1.2.1, bt1.2.2, [], 0, false))))) else (some (bt1.1, bt1.2.1, bt1.2.2, [], 0, false))))
set_option maxHeartbeats 4000000 in
set_option maxRecDepth 100000 in
theorem impl_StepJoiner.ok (k : Nat) (l0_0 : List S44) (Al0_0 : Option Addr) (cl0_0 : Nat) (a0_1 : Int) (a0_2 : Int) (a1 : Int) (r0 : List S44) (r1 : Int) (r2 : Int) (r3 : List S92) (r4 : Int) (r5 : Bool) (H : impl_StepJoiner.f k l0_0 a0_1 a0_2 a1 = some (r0, r1, r2, r3, r4, r5)) : Fn Try.prog 54 [.agg #[.slice Al0_0 l0_0.length cl0_0, .int .i64 a0_1, .int .i64 a0_2], .int .i64 a1] [] [.sl 0 k44 Al0_0 cl0_0 l0_0 0 false] (fun v bx en => ∃ A0 c0 A3 c3, v = .tuple #[.agg #[.slice A0 r0.length c0, .int .i64 r1, .int .i64 r2], .slice A3 r3.length c3, .int .i64 r4, .bool r5] ∧ bx = [] ∧ en = [.sl 1 k44 A0 c0 r0 1 true, .sl 2 k92 A3 c3 r3 2 true]) := by
 refine fn_ 142 Try.func54 rfl rfl rfl (fun base T w0 => ?_)
 rw [impl_StepJoiner.f] at H
 refine gs (rg (so rfl (op_box (cs := [.slice Al0_0 l0_0.length cl0_0, .int .i64 a0_1, .int .i64 a0_2]) rfl rfl rfl fun b2 => (so rfl (op_alloc (cs := [.slice none 0 0, .int .i64 0, .int .i64 0]) (by kernel_rfl) rfl fun b4 => (sv (EV.as rfl) rfl (sv (EV.as rfl) rfl (sv (EV.as rfl) rfl (re (gs (rg (sv (EV.ld (v := .agg #[.slice Al0_0 l0_0.length cl0_0, .int .i64 a0_1, .int .i64 a0_2]) 0 (some 3) rfl rfl rfl) rfl ?_))))))))))))
 revert H; refine bdI ?_; rintro ⟨t1_0, t1_1, t1_2⟩ A1 H
 refine so rfl (op_call (impl_cloneJoiner.ok k l0_0 Al0_0 cl0_0 a0_1 a0_2 _ _ _ A1) [⟨0, 0, 0, false⟩] 1 rfl rfl rfl rfl rfl ?_)
 rintro _ _ _ ⟨At1_0, ct1_0, rfl, rfl, rfl⟩
 refine so rfl (op_alloc (cs := [.slice none 0 0, .int .i64 0, .int .i64 0]) (by kernel_rfl) rfl fun b8 => (so rfl (op_st (cs' := [.slice At1_0 t1_0.length ct1_0, .int .i64 t1_1, .int .i64 t1_2]) 2 rfl rfl rfl rfl rfl rfl (re (pr [1, 2, 4, 8] [0, 1, 2] [0, 1] rfl rfl rfl rfl (gs (gs (rg (sv (EV.ld (v := .agg #[.slice Al0_0 l0_0.length cl0_0, .int .i64 a0_1, .int .i64 a0_2]) 0 (some 3) rfl rfl rfl) rfl ?_)))))))))
 revert H; refine bdI ?_; rintro t2 A2 H
 refine so rfl (op_call (impl_IsValidJoiner.ok k l0_0 Al0_0 cl0_0 a0_1 a0_2 _ A2) [⟨0, 0, 0, false⟩] 3 rfl rfl rfl rfl rfl ?_)
 rintro _ _ _ ⟨rfl, rfl, rfl⟩
 refine sv (EV.nt rfl) rfl (sv (EV.mv rfl) rfl ?_)
 revert H; refine ifsI ?_ ?_ <;> intro c3 H
 ·
  subst c3
  refine ts 26 rfl rfl (sv (EV.fa 0 rfl) rfl (sv (EV.ld 0 none rfl rfl rfl) rfl (sv (EV.ln rfl) rfl (sv (EV.eql rfl rfl) rfl (sv (EV.pf rfl rfl rfl) rfl (sv (EV.mv rfl) rfl ?_))))))
  revert H; refine ifsI ?_ ?_ <;> intro c4 H
  ·
   refine ts 32 rfl (dT c4) (sk rfl (sk rfl (sk rfl (sv (EV.pt rfl rfl rfl) rfl (re (pr [1, 4, 8, 36] [1, 2] [1] rfl rfl rfl rfl (gt rfl rfl (gs (rg (sv (EV.ld (v := .agg #[.slice At1_0 t1_0.length ct1_0, .int .i64 t1_1, .int .i64 t1_2]) 1 (some 3) rfl rfl rfl) rfl (so rfl (op_st (cs' := [.slice At1_0 t1_0.length ct1_0, .int .i64 t1_1, .int .i64 t1_2]) 0 rfl rfl rfl rfl rfl rfl (sv (EV.as rfl) rfl (sv (EV.as rfl) rfl (sv (EV.as rfl) rfl (re (nil_ k92 3 dq ?_)))))))))))))))))
   cases H
   exact rt Try.func54 rfl (.cell 0 (some 3) rfl rfl rfl (.tmp rfl (.tmp rfl (.tmp rfl .nil)))) rfl [] [⟨0, 1, 1, true⟩, ⟨1, 2, 2, true⟩] rfl rfl rfl rfl rfl ⟨_, _, _, _, rfl, rfl, rfl⟩
  ·
   refine ts 32 rfl (dF c4) (sv (EV.mv rfl) rfl ?_)
   revert H; refine bdI ?_; rintro t5 A5 H
   refine so rfl (op_call (impl_isGrant.ok a1 _ A5) [] 3 rfl rfl rfl rfl rfl ?_)
   rintro _ _ _ ⟨rfl, rfl, rfl⟩
   refine sv (EV.nt rfl) rfl (sv (EV.pf rfl rfl rfl) rfl (re (pr [1, 4, 8, 36] [1, 2] [1] rfl rfl rfl rfl ?_)))
   revert H; refine ifsI ?_ ?_ <;> intro c6 H
   ·
    subst c6
    refine gf rfl rfl (gk (gs (rg (sv (EV.fa 0 rfl) rfl (sv (EV.ld 1 none rfl rfl rfl) rfl ?_)))))
    revert H; refine ggI ?_; intro g7 H
    refine sv (EV.ix 0 rfl rfl rfl dq g7 rfl) rfl (opn (i := 0) 0 z44 rfl dq g7 fun A_8 c_8 A_9 c_9 A_10 c_10 => (sv (EV.lc (v := .agg #[.int .i64 ((rd_T44 t1_0 0).f0), .slice A_8 ((rd_T44 t1_0 0).f1).length c_8, .slice A_9 ((rd_T44 t1_0 0).f2).length c_9, .slice A_10 ((rd_T44 t1_0 0).f3).length c_10, .int .i64 ((rd_T44 t1_0 0).f4)]) 0 (some 5) 1 rfl rfl rfl rfl) rfl (so rfl (op_alloc (cs := [.int .i64 0, .slice none 0 0, .slice none 0 0, .slice none 0 0, .int .i64 0]) (by kernel_rfl) rfl fun b9 => (so rfl (op_st (cs' := [.int .i64 ((rd_T44 t1_0 0).f0), .slice A_8 ((rd_T44 t1_0 0).f1).length c_8, .slice A_9 ((rd_T44 t1_0 0).f2).length c_9, .slice A_10 ((rd_T44 t1_0 0).f3).length c_10, .int .i64 ((rd_T44 t1_0 0).f4)]) 2 rfl rfl rfl rfl rfl rfl (re (gs (rg (sv (EV.ld (v := .agg #[.int .i64 ((rd_T44 t1_0 0).f0), .slice A_8 ((rd_T44 t1_0 0).f1).length c_8, .slice A_9 ((rd_T44 t1_0 0).f2).length c_9, .slice A_10 ((rd_T44 t1_0 0).f3).length c_10, .int .i64 ((rd_T44 t1_0 0).f4)]) 2 (some 5) rfl rfl rfl) rfl (sv (EV.mv rfl) rfl ?_)))))))))))
    revert H; refine bdI ?_; rintro t11 A11 H
    refine so rfl (op_call (impl_BuildSide.ok k ((rd_T44 t1_0 0).f0) ((rd_T44 t1_0 0).f1) A_8 c_8 ((rd_T44 t1_0 0).f2) A_9 c_9 ((rd_T44 t1_0 0).f3) A_10 c_10 ((rd_T44 t1_0 0).f4) a1 _ A11) [⟨2, 0, 0, false⟩, ⟨3, 0, 0, false⟩, ⟨4, 0, 0, false⟩] 3 rfl rfl rfl rfl rfl ?_)
    rintro _ _ _ ⟨rfl, rfl, rfl⟩
    refine sv (EV.as rfl) rfl (re (pr [1, 4, 8, 9, 10] [0, 1, 2] [0, 1, 2, 3, 4] rfl rfl rfl rfl (gs (gb (gs (rg (sv (EV.fa 1 rfl) rfl (sv (EV.ld 2 none rfl rfl rfl) rfl (sv (EV.ln rfl) rfl (sv (EV.eql rfl rfl) rfl (sv (EV.mv rfl) rfl ?_)))))))))))
    revert H; refine ifsI ?_ ?_ <;> intro c12 H
    ·
     refine ts 50 rfl (dT c12) (sk rfl (sk rfl (sk rfl (sk rfl (sv (EV.pt rfl rfl rfl) rfl (sv (EV.as rfl) rfl (re (pr [1, 4, 8, 9, 10, 45] [0, 1, 2] [0, 1, 2, 3, 4] rfl rfl rfl rfl (gt rfl rfl (gs (rg (sv (EV.fa 0 rfl) rfl (sv (EV.ld 1 none rfl rfl rfl) rfl ?_)))))))))))))
     revert H; refine ggI ?_; intro g13 H
     refine cutp (l' := t1_0.drop (1 : Int).toNat) 1 (t1_0.length : Int) 0 rfl dq g13 (Int.le_refl _) rfl 1 dq (.inl dq) ctl (sv (EV.ct 1 (t1_0.length : Int) 0 rfl rfl rfl rfl dq g13 (Int.le_refl _) rfl rfl ctnl) rfl (sv (EV.fa 0 rfl) rfl (so rfl (op_st (cs' := [.slice (cutA At1_0 ct1_0 (1 : Int).toNat 5) (t1_0.drop (1 : Int).toNat).length (ct1_0 - (1 : Int).toNat), .int .i64 t1_1, .int .i64 t1_2]) 1 rfl rfl rfl rfl rfl rfl (re (pr [4, 8, 9] [0, 1, 2] [2, 3, 4, 5] rfl rfl rfl rfl (gs (dr [1, 2] [0, 1, 2, 3] [4, 5, 6] 7 rfl rfl rfl rfl (xv 0 [1, 2] [0, 1, 2, 3] rfl (EV.ld (v := .agg #[.slice (cutA At1_0 ct1_0 (1 : Int).toNat 5) (t1_0.drop (1 : Int).toNat).length (ct1_0 - (1 : Int).toNat), .int .i64 t1_1, .int .i64 t1_2]) 0 (some 3) rfl rfl rfl) rfl rfl rfl rfl (xv 1 [1, 2] [0, 1, 2, 3] rfl (EV.ld (v := .agg #[.int .i64 ((rd_T44 t1_0 0).f0), .slice A_8 ((rd_T44 t1_0 0).f1).length c_8, .slice A_9 ((rd_T44 t1_0 0).f2).length c_9, .slice A_10 ((rd_T44 t1_0 0).f3).length c_10, .int .i64 ((rd_T44 t1_0 0).f4)]) 1 (some 5) rfl rfl rfl) rfl rfl rfl rfl (one1 2 rfl rfl ?_)))))))))))
     revert H; refine bdI ?_; rintro t14 A14 H
     refine op_call (impl_UnmatchedRows.ok k ((rd_T44 t1_0 0).f0) ((rd_T44 t1_0 0).f1) A_8 c_8 ((rd_T44 t1_0 0).f2) A_9 c_9 ((rd_T44 t1_0 0).f3) A_10 c_10 ((rd_T44 t1_0 0).f4) _ A14) [⟨0, 0, 0, false⟩, ⟨1, 0, 0, false⟩, ⟨2, 0, 0, false⟩] 3 rfl rfl rfl rfl rfl ?_
     rintro _ _ _ ⟨At14, ct14, rfl, rfl, rfl⟩
     refine xs [1, 2] [0, 1, 2, 3] rfl rfl rfl (one1 3 rfl rfl (op_st (cs' := [.slice (cutA At1_0 ct1_0 (1 : Int).toNat 5) (t1_0.drop (1 : Int).toNat).length (ct1_0 - (1 : Int).toNat), .int .i64 t1_1, .int .i64 t1_2]) 0 rfl rfl rfl rfl rfl rfl (xs [1, 2] [0, 1, 2, 3] rfl rfl rfl (one1 4 rfl rfl (ov (EV.as rfl) rfl (xn rfl (one1 5 rfl rfl (ov (EV.as rfl) rfl (xn rfl (one1 6 rfl rfl (ov (EV.as rfl) rfl (xn rfl (xd ?_)))))))))))))
     cases H
     exact rt Try.func54 rfl (.cell 0 (some 3) rfl rfl rfl (.tmp rfl (.tmp rfl (.tmp rfl .nil)))) rfl [] [⟨3, 1, 1, true⟩, ⟨4, 2, 2, true⟩] rfl rfl rfl rfl rfl ⟨_, _, _, _, rfl, rfl, rfl⟩
    ·
     refine ts 50 rfl (dF c12) (sv (EV.fa 2 rfl) rfl (sv (EV.ld 2 none rfl rfl rfl) rfl (sv (EV.ln rfl) rfl (sv (EV.eql rfl rfl) rfl (sv (EV.pf rfl rfl rfl) rfl (sv (EV.as rfl) rfl (re (pr [1, 4, 8, 9, 10, 45] [0, 1, 2] [0, 1, 2, 3, 4] rfl rfl rfl rfl ?_))))))))
     revert H; refine ifsI ?_ ?_ <;> intro c15 H
     ·
      refine gt rfl (dT c15) (gs (rg (sv (EV.fa 0 rfl) rfl (sv (EV.ld 1 none rfl rfl rfl) rfl ?_))))
      revert H; refine ggI ?_; intro g16 H
      refine cutp (l' := t1_0.drop (1 : Int).toNat) 1 (t1_0.length : Int) 0 rfl dq g16 (Int.le_refl _) rfl 1 dq (.inl dq) ctl (sv (EV.ct 1 (t1_0.length : Int) 0 rfl rfl rfl rfl dq g16 (Int.le_refl _) rfl rfl ctnl) rfl (sv (EV.fa 0 rfl) rfl (so rfl (op_st (cs' := [.slice (cutA At1_0 ct1_0 (1 : Int).toNat 5) (t1_0.drop (1 : Int).toNat).length (ct1_0 - (1 : Int).toNat), .int .i64 t1_1, .int .i64 t1_2]) 1 rfl rfl rfl rfl rfl rfl (re (pr [4, 8, 9] [0, 1, 2] [2, 3, 4, 5] rfl rfl rfl rfl (gs (dr [1, 2] [0, 1, 2, 3] [4, 5, 6] 7 rfl rfl rfl rfl (xv 0 [1, 2] [0, 1, 2, 3] rfl (EV.ld (v := .agg #[.slice (cutA At1_0 ct1_0 (1 : Int).toNat 5) (t1_0.drop (1 : Int).toNat).length (ct1_0 - (1 : Int).toNat), .int .i64 t1_1, .int .i64 t1_2]) 0 (some 3) rfl rfl rfl) rfl rfl rfl rfl (xv 1 [1, 2] [0, 1, 2, 3] rfl (EV.ld (v := .agg #[.int .i64 ((rd_T44 t1_0 0).f0), .slice A_8 ((rd_T44 t1_0 0).f1).length c_8, .slice A_9 ((rd_T44 t1_0 0).f2).length c_9, .slice A_10 ((rd_T44 t1_0 0).f3).length c_10, .int .i64 ((rd_T44 t1_0 0).f4)]) 1 (some 5) rfl rfl rfl) rfl rfl rfl rfl (one1 2 rfl rfl ?_)))))))))))
      revert H; refine bdI ?_; rintro t17 A17 H
      refine op_call (impl_UnmatchedRows.ok k ((rd_T44 t1_0 0).f0) ((rd_T44 t1_0 0).f1) A_8 c_8 ((rd_T44 t1_0 0).f2) A_9 c_9 ((rd_T44 t1_0 0).f3) A_10 c_10 ((rd_T44 t1_0 0).f4) _ A17) [⟨0, 0, 0, false⟩, ⟨1, 0, 0, false⟩, ⟨2, 0, 0, false⟩] 3 rfl rfl rfl rfl rfl ?_
      rintro _ _ _ ⟨At17, ct17, rfl, rfl, rfl⟩
      refine xs [1, 2] [0, 1, 2, 3] rfl rfl rfl (one1 3 rfl rfl (op_st (cs' := [.slice (cutA At1_0 ct1_0 (1 : Int).toNat 5) (t1_0.drop (1 : Int).toNat).length (ct1_0 - (1 : Int).toNat), .int .i64 t1_1, .int .i64 t1_2]) 0 rfl rfl rfl rfl rfl rfl (xs [1, 2] [0, 1, 2, 3] rfl rfl rfl (one1 4 rfl rfl (ov (EV.as rfl) rfl (xn rfl (one1 5 rfl rfl (ov (EV.as rfl) rfl (xn rfl (one1 6 rfl rfl (ov (EV.as rfl) rfl (xn rfl (xd ?_)))))))))))))
      cases H
      exact rt Try.func54 rfl (.cell 0 (some 3) rfl rfl rfl (.tmp rfl (.tmp rfl (.tmp rfl .nil)))) rfl [] [⟨3, 1, 1, true⟩, ⟨4, 2, 2, true⟩] rfl rfl rfl rfl rfl ⟨_, _, _, _, rfl, rfl, rfl⟩
     ·
      refine gf rfl (dF c15) (gs (rg (sv (EV.mv rfl) rfl (sv (EV.neq rfl rfl) rfl (sv (EV.as rfl) rfl (re ?_))))))
      revert H; refine ifsI ?_ ?_ <;> intro c18 H
      ·
       refine gf rfl (nF c18) (gs (rg (sv (EV.ld (v := .agg #[.int .i64 ((rd_T44 t1_0 0).f0), .slice A_8 ((rd_T44 t1_0 0).f1).length c_8, .slice A_9 ((rd_T44 t1_0 0).f2).length c_9, .slice A_10 ((rd_T44 t1_0 0).f3).length c_10, .int .i64 ((rd_T44 t1_0 0).f4)]) 2 (some 5) rfl rfl rfl) rfl ?_)))
       revert H; refine bdI ?_; rintro t19 A19 H
       refine so rfl (op_call (impl_NeedsNestedLoop.ok k ((rd_T44 t1_0 0).f0) ((rd_T44 t1_0 0).f1) A_8 c_8 ((rd_T44 t1_0 0).f2) A_9 c_9 ((rd_T44 t1_0 0).f3) A_10 c_10 ((rd_T44 t1_0 0).f4) _ A19) [⟨2, 0, 0, false⟩, ⟨3, 0, 0, false⟩, ⟨4, 0, 0, false⟩] 3 rfl rfl rfl rfl rfl ?_)
       rintro _ _ _ ⟨rfl, rfl, rfl⟩
       refine sv (EV.as rfl) rfl (re (pr [1, 4, 8, 9, 91] [0, 1, 2] [0, 1, 2, 3, 4] rfl rfl rfl rfl ?_))
       revert H; refine ifsI ?_ ?_ <;> intro c20 H
       ·
        subst c20
        refine gt rfl rfl (gs (rg (sv (EV.fa 2 rfl) rfl (sv (EV.ld 2 none rfl rfl rfl) rfl (sv (EV.mv rfl) rfl ?_)))))
        revert H; refine bdI ?_; rintro ⟨t21_0, t21_1⟩ A21 H
        refine so rfl (op_call (impl_NextChunk.ok k ((rd_T44 t1_0 0).f2) A_9 c_9 a1 _ _ A21) [⟨3, 0, 0, false⟩] 3 rfl rfl rfl rfl rfl ?_)
        rintro _ _ _ ⟨At21_0, ct21_0, At21_1, ct21_1, rfl, rfl, rfl⟩
        refine sv (EV.mv rfl) rfl (sv (EV.ex rfl rfl) rfl (sv (EV.ex rfl rfl) rfl (sv (EV.as rfl) rfl (sv (EV.as rfl) rfl (re (pr [4, 8, 9, 14, 15] [0, 1, 2] [0, 1, 2, 3, 4, 5, 6] rfl rfl rfl rfl (gs (rg (sv (EV.ld (v := .agg #[.int .i64 ((rd_T44 t1_0 0).f0), .slice A_8 ((rd_T44 t1_0 0).f1).length c_8, .slice A_9 ((rd_T44 t1_0 0).f2).length c_9, .slice A_10 ((rd_T44 t1_0 0).f3).length c_10, .int .i64 ((rd_T44 t1_0 0).f4)]) 2 (some 5) rfl rfl rfl) rfl (sv (EV.mv rfl) rfl ?_))))))))))
        revert H; refine bdI ?_; rintro ⟨t22_0, t22_1, t22_2, t22_3, t22_4, t22_5⟩ A22 H
        refine so rfl (op_call (impl_JoinChunk.ok k ((rd_T44 t1_0 0).f0) ((rd_T44 t1_0 0).f1) A_8 c_8 ((rd_T44 t1_0 0).f2) A_9 c_9 ((rd_T44 t1_0 0).f3) A_10 c_10 ((rd_T44 t1_0 0).f4) t21_0 At21_0 ct21_0 _ _ _ _ _ _ A22) [⟨2, 0, 0, false⟩, ⟨3, 0, 0, false⟩, ⟨4, 0, 0, false⟩, ⟨5, 0, 0, false⟩] 6 rfl rfl rfl rfl rfl ?_)
        rintro _ _ _ ⟨At22_0, ct22_0, At22_2, ct22_2, At22_3, ct22_3, At22_4, ct22_4, rfl, rfl, rfl⟩
        refine sv (EV.mv rfl) rfl (sv (EV.ex rfl rfl) rfl (sv (EV.ex rfl rfl) rfl (so rfl (op_alloc (cs := [.int .i64 0, .slice none 0 0, .slice none 0 0, .slice none 0 0, .int .i64 0]) (by kernel_rfl) rfl fun b17 => (sv (EV.as rfl) rfl (so rfl (op_st (cs' := [.int .i64 t22_1, .slice At22_2 t22_2.length ct22_2, .slice At22_3 t22_3.length ct22_3, .slice At22_4 t22_4.length ct22_4, .int .i64 t22_5]) 3 rfl rfl rfl rfl rfl rfl (re (pr [4, 8, 14, 15, 16, 17] [0, 1, 3] [0, 5, 6, 7, 8, 9, 10] rfl rfl rfl rfl (gs (rg (sv (EV.mv rfl) rfl (sv (EV.fa 2 rfl) rfl (so rfl (op_st (cs' := [.int .i64 t22_1, .slice At22_2 t22_2.length ct22_2, .slice At21_1 t21_1.length ct21_1, .slice At22_4 t22_4.length ct22_4, .int .i64 t22_5]) 2 rfl rfl rfl rfl rfl rfl (re (gs (rg (sv (EV.fa 0 rfl) rfl (sv (EV.ld 1 none rfl rfl rfl) rfl (sv (EV.ld (v := .agg #[.int .i64 t22_1, .slice At22_2 t22_2.length ct22_2, .slice At21_1 t21_1.length ct21_1, .slice At22_4 t22_4.length ct22_4, .int .i64 t22_5]) 2 (some 5) rfl rfl rfl) rfl (sv (EV.ix 0 rfl rfl rfl dq g7 rfl) rfl (opn (i := 0) 0 z44 rfl dq g7 fun A_23 c_23 A_24 c_24 A_25 c_25 => (opnH (i := 0) (s := 5) (cls' := 2) [(A_23, c_23), (A_24, c_24), (A_25, c_25)] 0 7 11 z44 rfl rfl (by kernel_rfl) dq g7 dq rfl rfl (nmE (en := [.sl 2 k70 At21_0 ct21_0 t21_0 4 true, .sl 2 k70 At21_1 ct21_1 t21_1 5 true, .sl 2 k92 At22_0 ct22_0 t22_0 7 true, .sl 2 k70 At22_2 ct22_2 t22_2 8 true, .sl 2 k70 At22_3 ct22_3 t22_3 9 true, .sl 2 .bool At22_4 ct22_4 t22_4 10 true, holE k44 2 At1_0 ct1_0 t1_0 (0 : Int).toNat [.int .i64 ((rd_T44 t1_0 0).f0), .slice A_23 ((rd_T44 t1_0 0).f1).length c_23, .slice A_24 ((rd_T44 t1_0 0).f2).length c_24, .slice A_25 ((rd_T44 t1_0 0).f3).length c_25, .int .i64 ((rd_T44 t1_0 0).f4)] 11, .sl 1 k70 A_23 c_23 ((rd_T44 t1_0 0).f1) 12 true, .sl 1 k70 A_24 c_24 ((rd_T44 t1_0 0).f2) 13 true, .sl 1 .bool A_25 c_25 ((rd_T44 t1_0 0).f3) 14 true]) (by kernel_rfl) (so rfl (op_sth (cs' := [.int .i64 t22_1, .slice At22_2 t22_2.length ct22_2, .slice At21_1 t21_1.length ct21_1, .slice At22_4 t22_4.length ct22_4, .int .i64 t22_5]) 0 6 rfl rfl rfl rfl rfl (by kernel_rfl) rfl rfl (nmE (en := [.sl 2 k70 At21_0 ct21_0 t21_0 4 true, .sl 2 k70 At21_1 ct21_1 t21_1 5 true, .sl 2 k92 At22_0 ct22_0 t22_0 7 true, .sl 2 k70 At22_2 ct22_2 t22_2 8 true, .sl 2 k70 At22_3 ct22_3 t22_3 9 true, .sl 2 .bool At22_4 ct22_4 t22_4 10 true, .sl 1 k70 A_23 c_23 ((rd_T44 t1_0 0).f1) 12 true, .sl 1 k70 A_24 c_24 ((rd_T44 t1_0 0).f2) 13 true, .sl 1 .bool A_25 c_25 ((rd_T44 t1_0 0).f3) 14 true, holE k44 2 At1_0 ct1_0 t1_0 (0 : Int).toNat [.int .i64 t22_1, .slice At22_2 t22_2.length ct22_2, .slice At21_1 t21_1.length ct21_1, .slice At22_4 t22_4.length ct22_4, .int .i64 t22_5] 11]) (by kernel_rfl) ?_))))))))))))))))))))))))))))
        revert H; refine bdI ?_; intro s26 A26 H; have q26 := stl (Option.some.inj A26)
        refine hcl 9 (⟨t22_1, t22_2, t21_1, t22_4, t22_5⟩ : S44) [(At22_2, ct22_2), (At21_1, ct21_1), (At22_4, ct22_4)] [3, 1, 5] (Option.some.inj A26) rfl (by kernel_rfl) rfl (by kernel_rfl) (by kernel_rfl) (by kernel_rfl) (nmE (en := [.sl 2 k70 At21_0 ct21_0 t21_0 4 true, .sl 2 k70 At21_1 ct21_1 t21_1 11 true, .sl 2 k92 At22_0 ct22_0 t22_0 7 true, .sl 2 k70 At22_2 ct22_2 t22_2 11 true, .sl 2 k70 At22_3 ct22_3 t22_3 9 true, .sl 2 .bool At22_4 ct22_4 t22_4 11 true, .sl 1 k70 A_23 c_23 ((rd_T44 t1_0 0).f1) 12 true, .sl 1 k70 A_24 c_24 ((rd_T44 t1_0 0).f2) 13 true, .sl 1 .bool A_25 c_25 ((rd_T44 t1_0 0).f3) 14 true, .sl 2 k44 At1_0 ct1_0 s26 11 true]) (by kernel_rfl) (rlT 110 (v' := .slice At1_0 s26.length ct1_0) rfl (slq _ _ q26) (rlB 1 (cs' := [.slice At1_0 s26.length ct1_0, .int .i64 t1_1, .int .i64 t1_2]) rfl (by simp only [q26]) (re (pr [4, 8, 14, 16] [0, 1] [0, 2, 9] rfl rfl rfl rfl (gs (dr [1] [0, 1, 2] [6, 7] 8 rfl rfl rfl rfl (xv 0 [1] [0, 1, 2] rfl (EV.ld (v := .agg #[.slice At1_0 s26.length ct1_0, .int .i64 t1_1, .int .i64 t1_2]) 0 (some 3) rfl rfl rfl) rfl rfl rfl rfl (xv 1 [1] [0, 1, 2] rfl (EV.mv rfl) rfl rfl rfl rfl (xv 2 [1] [0, 1, 2] rfl (EV.mv rfl) rfl rfl rfl rfl (one1 3 rfl rfl ?_)))))))))))
        revert H; refine bdI ?_; rintro t27 A27 H
        refine op_call (impl_TotalCost.ok k t21_0 At21_0 ct21_0 _ A27) [⟨0, 0, 0, false⟩] 12 rfl rfl rfl rfl rfl ?_
        rintro _ _ _ ⟨rfl, rfl, rfl⟩
        refine xs [1] [0, 1, 2] rfl rfl rfl (one1 4 rfl rfl (op_st (cs' := [.slice At1_0 s26.length ct1_0, .int .i64 t1_1, .int .i64 t1_2]) 0 rfl rfl rfl rfl rfl rfl (xs [1] [0, 1, 2] rfl rfl rfl (one1 5 rfl rfl (ov (EV.as rfl) rfl (xs [1] [0, 1, 2] rfl rfl rfl (one1 6 rfl rfl (ov (EV.as rfl) rfl (xn rfl (one1 7 rfl rfl (ov (EV.as rfl) rfl (xn rfl (xd (pr [4, 5, 6, 7] [0] [1, 2] rfl rfl rfl rfl ?_))))))))))))))
        cases H
        exact rt Try.func54 rfl (.cell 0 (some 3) rfl rfl rfl (.tmp rfl (.tmp rfl (.tmp rfl .nil)))) rfl [] [⟨1, 1, 1, true⟩, ⟨0, 2, 2, true⟩] rfl rfl rfl rfl rfl ⟨_, _, _, _, rfl, rfl, rfl⟩
       ·
        obtain rfl := bF c20
        refine gf rfl rfl (gk (ge (gs (rg (sv (EV.ld (v := .agg #[.int .i64 ((rd_T44 t1_0 0).f0), .slice A_8 ((rd_T44 t1_0 0).f1).length c_8, .slice A_9 ((rd_T44 t1_0 0).f2).length c_9, .slice A_10 ((rd_T44 t1_0 0).f3).length c_10, .int .i64 ((rd_T44 t1_0 0).f4)]) 2 (some 5) rfl rfl rfl) rfl ?_)))))
        revert H; refine bdI ?_; rintro ⟨t28_0, t28_1, t28_2, t28_3, t28_4, t28_5, t28_6, t28_7, t28_8, t28_9, t28_10⟩ A28 H
        refine so rfl (op_call (impl_PartitionTask.ok k ((rd_T44 t1_0 0).f0) ((rd_T44 t1_0 0).f1) A_8 c_8 ((rd_T44 t1_0 0).f2) A_9 c_9 ((rd_T44 t1_0 0).f3) A_10 c_10 ((rd_T44 t1_0 0).f4) _ _ _ _ _ _ _ _ _ _ _ A28) [⟨2, 0, 0, false⟩, ⟨3, 0, 0, false⟩, ⟨4, 0, 0, false⟩] 3 rfl rfl rfl rfl rfl ?_)
        rintro _ _ _ ⟨At28_1, ct28_1, At28_2, ct28_2, At28_3, ct28_3, At28_6, ct28_6, At28_7, ct28_7, At28_8, ct28_8, rfl, rfl, rfl⟩
        refine sv (EV.mv rfl) rfl (sv (EV.ex rfl rfl) rfl (sv (EV.ex rfl rfl) rfl (sv (EV.ex rfl rfl) rfl (so rfl (op_alloc (cs := [.int .i64 0, .slice none 0 0, .slice none 0 0, .slice none 0 0, .int .i64 0]) (by kernel_rfl) rfl fun b18 => (so rfl (op_alloc (cs := [.int .i64 0, .slice none 0 0, .slice none 0 0, .slice none 0 0, .int .i64 0]) (by kernel_rfl) rfl fun b19 => (so rfl (op_st (cs' := [.int .i64 t28_0, .slice At28_1 t28_1.length ct28_1, .slice At28_2 t28_2.length ct28_2, .slice At28_3 t28_3.length ct28_3, .int .i64 t28_4]) 3 rfl rfl rfl rfl rfl rfl (so rfl (op_st (cs' := [.int .i64 t28_5, .slice At28_6 t28_6.length ct28_6, .slice At28_7 t28_7.length ct28_7, .slice At28_8 t28_8.length ct28_8, .int .i64 t28_9]) 4 rfl rfl rfl rfl rfl rfl (sv (EV.as rfl) rfl (re (pr [4, 8, 9, 18, 19] [0, 1, 2, 3, 4] [0, 1, 2, 3, 4, 5, 6, 7, 8, 9, 10] rfl rfl rfl rfl (gs ?_)))))))))))))))
        revert H; refine ggI ?_; intro g29 H
        refine dr [0, 1, 2, 3, 4] [] [7, 8] 9 rfl rfl rfl rfl (xv 0 [0, 1, 2, 3, 4] [] rfl (EV.ld (v := .agg #[.int .i64 t28_0, .slice At28_1 t28_1.length ct28_1, .slice At28_2 t28_2.length ct28_2, .slice At28_3 t28_3.length ct28_3, .int .i64 t28_4]) 3 (some 5) rfl rfl rfl) rfl rfl rfl rfl (xv 1 [0, 1, 2, 3, 4] [] rfl (EV.ld (v := .agg #[.int .i64 t28_5, .slice At28_6 t28_6.length ct28_6, .slice At28_7 t28_7.length ct28_7, .slice At28_8 t28_8.length ct28_8, .int .i64 t28_9]) 4 (some 5) rfl rfl rfl) rfl rfl rfl rfl (xv 3 [0, 1, 2, 3, 4] [] rfl (EV.fa 0 rfl) rfl rfl rfl rfl (xv 4 [0, 1, 2, 3, 4] [] rfl (EV.ld 1 none rfl rfl rfl) rfl rfl rfl rfl ?_))))
        refine one2 2 5 rfl rfl rfl rfl ?_ ?_
        ·
         refine op_lit (s := 5) (by_ := 88) k44 ([(⟨t28_0, t28_1, t28_2, t28_3, t28_4⟩ : S44), (⟨t28_5, t28_6, t28_7, t28_8, t28_9⟩ : S44)] : List S44) [[(At28_1, ct28_1), (At28_2, ct28_2), (At28_3, ct28_3)], [(At28_6, ct28_6), (At28_7, ct28_7), (At28_8, ct28_8)]] [5, 6, 7, 8, 9, 10] 10 [.tmp 123, .tmp 124] rfl rfl rfl rfl rfl rfl rfl rfl rfl rfl rfl rfl rfl dq rfl fun A125_30 c125_30 => (nmE (en := [.sl 2 k44 At1_0 ct1_0 t1_0 2 true, celE At1_0 ((0 : Int).toNat * 5) [.int .i64 ((rd_T44 t1_0 0).f0), .slice A_8 ((rd_T44 t1_0 0).f1).length c_8, .slice A_9 ((rd_T44 t1_0 0).f2).length c_9, .slice A_10 ((rd_T44 t1_0 0).f3).length c_10, .int .i64 ((rd_T44 t1_0 0).f4)] 2, .sl 1 k70 A_8 c_8 ((rd_T44 t1_0 0).f1) 2 true, .sl 1 k70 A_9 c_9 ((rd_T44 t1_0 0).f2) 2 true, .sl 1 .bool A_10 c_10 ((rd_T44 t1_0 0).f3) 2 true, .sl 2 k70 At28_1 ct28_1 t28_1 10 true, .sl 2 k70 At28_2 ct28_2 t28_2 10 true, .sl 2 .bool At28_3 ct28_3 t28_3 10 true, .sl 2 k70 At28_6 ct28_6 t28_6 10 true, .sl 2 k70 At28_7 ct28_7 t28_7 10 true, .sl 2 .bool At28_8 ct28_8 t28_8 10 true, .sl 2 k44 A125_30 c125_30 ([(⟨t28_0, t28_1, t28_2, t28_3, t28_4⟩ : S44), (⟨t28_5, t28_6, t28_7, t28_8, t28_9⟩ : S44)] : List S44) 10 true]) (by kernel_rfl) (xs [0, 1, 2, 3, 4] [] rfl rfl rfl (one1 5 rfl rfl (cutp (l' := t1_0.drop (1 : Int).toNat) 1 (t1_0.length : Int) 0 rfl dq g29 (Int.le_refl _) rfl 1 dq (.inl dq) ctl (ov (EV.ct 1 (t1_0.length : Int) 0 rfl rfl rfl rfl dq g29 (Int.le_refl _) rfl rfl ctnl) rfl (xs [0, 1, 2, 3, 4] [] rfl rfl rfl (one1 6 rfl rfl ?_)))))))
         revert H; refine ggI ?_; intro g31 H
         refine op_app (k := k44) (s := 5) (by_ := 88) 11 12 rfl rfl rfl rfl (ap2 g31 dq) (ap2n g31 dq) (.inr ⟨dq, dq, rfl, dq⟩) true (fun _ => .inr ⟨rfl, rfl, dq⟩) rfl rfl fun A129_32 c129_32 => (nmE (en := [.sl 2 k44 At1_0 ct1_0 t1_0 10 true, celE At1_0 ((0 : Int).toNat * 5) [.int .i64 ((rd_T44 t1_0 0).f0), .slice A_8 ((rd_T44 t1_0 0).f1).length c_8, .slice A_9 ((rd_T44 t1_0 0).f2).length c_9, .slice A_10 ((rd_T44 t1_0 0).f3).length c_10, .int .i64 ((rd_T44 t1_0 0).f4)] 10, .sl 1 k70 A_8 c_8 ((rd_T44 t1_0 0).f1) 10 true, .sl 1 k70 A_9 c_9 ((rd_T44 t1_0 0).f2) 10 true, .sl 1 .bool A_10 c_10 ((rd_T44 t1_0 0).f3) 10 true, .sl 1 k44 (cutA At1_0 ct1_0 (1 : Int).toNat 5) (ct1_0 - (1 : Int).toNat) (t1_0.drop (1 : Int).toNat) 10 true, .sl 2 k44 A129_32 c129_32 (([(⟨t28_0, t28_1, t28_2, t28_3, t28_4⟩ : S44), (⟨t28_5, t28_6, t28_7, t28_8, t28_9⟩ : S44)] : List S44) ++ (t1_0.drop (1 : Int).toNat)) 10 true]) (by kernel_rfl) (xs [0, 1, 2, 3, 4] [] rfl rfl rfl (one1 7 rfl rfl (ov (EV.fa 0 rfl) rfl (xn rfl (one1 8 rfl rfl (op_st (cs' := [.slice A129_32 (([(⟨t28_0, t28_1, t28_2, t28_3, t28_4⟩ : S44), (⟨t28_5, t28_6, t28_7, t28_8, t28_9⟩ : S44)] : List S44) ++ (t1_0.drop (1 : Int).toNat)).length c129_32, .int .i64 t1_1, .int .i64 t1_2]) 1 rfl rfl rfl rfl rfl rfl (xn rfl (xd (pr [4, 8, 9] [0, 1, 2] [2, 3, 4, 6] rfl rfl rfl rfl (gs (dr [0, 1, 2] [0, 1, 2, 3] [6] 7 rfl rfl rfl rfl (xv 0 [0, 1, 2] [0, 1, 2, 3] rfl (EV.fa 1 rfl) rfl rfl rfl rfl (xv 1 [0, 1, 2] [0, 1, 2, 3] rfl (EV.ld 1 none rfl rfl rfl) rfl rfl rfl rfl (xv 2 [0, 1, 2] [0, 1, 2, 3] rfl (EV.ld (v := .agg #[.int .i64 ((rd_T44 t1_0 0).f0), .slice A_8 ((rd_T44 t1_0 0).f1).length c_8, .slice A_9 ((rd_T44 t1_0 0).f2).length c_9, .slice A_10 ((rd_T44 t1_0 0).f3).length c_10, .int .i64 ((rd_T44 t1_0 0).f4)]) 2 (some 5) rfl rfl rfl) rfl rfl rfl rfl (one1 3 rfl rfl ?_))))))))))))))))
         revert H; refine bdI ?_; rintro t33 A33 H
         refine op_call (impl_TaskCost.ok k ((rd_T44 t1_0 0).f0) ((rd_T44 t1_0 0).f1) A_8 c_8 ((rd_T44 t1_0 0).f2) A_9 c_9 ((rd_T44 t1_0 0).f3) A_10 c_10 ((rd_T44 t1_0 0).f4) _ A33) [⟨0, 0, 0, false⟩, ⟨1, 0, 0, false⟩, ⟨2, 0, 0, false⟩] 11 rfl rfl rfl rfl rfl ?_
         rintro _ _ _ ⟨rfl, rfl, rfl⟩
         refine xs [0, 1, 2] [0, 1, 2, 3] rfl rfl rfl (xv 4 [0, 1, 2] [0, 1, 2, 3] rfl (EV.add rfl rfl) rfl rfl rfl rfl (xv 5 [0, 1, 2] [0, 1, 2, 3] rfl (EV.fa 1 rfl) rfl rfl rfl rfl (one1 6 rfl rfl (op_st (cs' := [.slice A129_32 (([(⟨t28_0, t28_1, t28_2, t28_3, t28_4⟩ : S44), (⟨t28_5, t28_6, t28_7, t28_8, t28_9⟩ : S44)] : List S44) ++ (t1_0.drop (1 : Int).toNat)).length c129_32, .int .i64 (wrap64 (t1_1 + t33)), .int .i64 t1_2]) 1 rfl rfl rfl rfl rfl rfl (xn rfl (xd (pr [4, 8] [0, 1] [3] rfl rfl rfl rfl (gs (rg (sv (EV.fa 2 rfl) rfl (sv (EV.ld 1 none rfl rfl rfl) rfl (sv (EV.add rfl rfl) rfl (sv (EV.fa 2 rfl) rfl (so rfl (op_st (cs' := [.slice A129_32 (([(⟨t28_0, t28_1, t28_2, t28_3, t28_4⟩ : S44), (⟨t28_5, t28_6, t28_7, t28_8, t28_9⟩ : S44)] : List S44) ++ (t1_0.drop (1 : Int).toNat)).length c129_32, .int .i64 (wrap64 (t1_1 + t33)), .int .i64 (wrap64 (t1_2 + 1))]) 1 rfl rfl rfl rfl rfl rfl (re (gs (rg (sv (EV.ld (v := .agg #[.slice A129_32 (([(⟨t28_0, t28_1, t28_2, t28_3, t28_4⟩ : S44), (⟨t28_5, t28_6, t28_7, t28_8, t28_9⟩ : S44)] : List S44) ++ (t1_0.drop (1 : Int).toNat)).length c129_32, .int .i64 (wrap64 (t1_1 + t33)), .int .i64 (wrap64 (t1_2 + 1))]) 1 (some 3) rfl rfl rfl) rfl (so rfl (op_st (cs' := [.slice A129_32 (([(⟨t28_0, t28_1, t28_2, t28_3, t28_4⟩ : S44), (⟨t28_5, t28_6, t28_7, t28_8, t28_9⟩ : S44)] : List S44) ++ (t1_0.drop (1 : Int).toNat)).length c129_32, .int .i64 (wrap64 (t1_1 + t33)), .int .i64 (wrap64 (t1_2 + 1))]) 0 rfl rfl rfl rfl rfl rfl (sv (EV.as rfl) rfl (sv (EV.as rfl) rfl (sv (EV.as rfl) rfl (re (pr [4, 5, 6, 7] [0] [0] rfl rfl rfl rfl (nil_ k92 11 dq ?_)))))))))))))))))))))))))))
         cases H
         exact rt Try.func54 rfl (.cell 0 (some 3) rfl rfl rfl (.tmp rfl (.tmp rfl (.tmp rfl .nil)))) rfl [] [⟨0, 1, 1, true⟩, ⟨1, 2, 2, true⟩] rfl rfl rfl rfl rfl ⟨_, _, _, _, rfl, rfl, rfl⟩
        ·
         refine cutp (l' := t1_0.drop (1 : Int).toNat) 1 (t1_0.length : Int) 0 rfl dq g29 (Int.le_refl _) rfl 1 dq (.inl dq) ctl (ov (EV.ct 1 (t1_0.length : Int) 0 rfl rfl rfl rfl dq g29 (Int.le_refl _) rfl rfl ctnl) rfl (xs [0, 1, 2, 3, 4] [] rfl rfl rfl (one1 2 rfl rfl (op_lit (s := 5) (by_ := 88) k44 ([(⟨t28_0, t28_1, t28_2, t28_3, t28_4⟩ : S44), (⟨t28_5, t28_6, t28_7, t28_8, t28_9⟩ : S44)] : List S44) [[(At28_1, ct28_1), (At28_2, ct28_2), (At28_3, ct28_3)], [(At28_6, ct28_6), (At28_7, ct28_7), (At28_8, ct28_8)]] [5, 6, 7, 8, 9, 10] 10 [.tmp 123, .tmp 124] rfl rfl rfl rfl rfl rfl rfl rfl rfl rfl rfl rfl rfl dq rfl fun A125_34 c125_34 => (nmE (en := [.sl 2 k44 At1_0 ct1_0 t1_0 2 true, celE At1_0 ((0 : Int).toNat * 5) [.int .i64 ((rd_T44 t1_0 0).f0), .slice A_8 ((rd_T44 t1_0 0).f1).length c_8, .slice A_9 ((rd_T44 t1_0 0).f2).length c_9, .slice A_10 ((rd_T44 t1_0 0).f3).length c_10, .int .i64 ((rd_T44 t1_0 0).f4)] 2, .sl 1 k70 A_8 c_8 ((rd_T44 t1_0 0).f1) 2 true, .sl 1 k70 A_9 c_9 ((rd_T44 t1_0 0).f2) 2 true, .sl 1 .bool A_10 c_10 ((rd_T44 t1_0 0).f3) 2 true, .sl 2 k70 At28_1 ct28_1 t28_1 10 true, .sl 2 k70 At28_2 ct28_2 t28_2 10 true, .sl 2 .bool At28_3 ct28_3 t28_3 10 true, .sl 2 k70 At28_6 ct28_6 t28_6 10 true, .sl 2 k70 At28_7 ct28_7 t28_7 10 true, .sl 2 .bool At28_8 ct28_8 t28_8 10 true, .sl 1 k44 (cutA At1_0 ct1_0 (1 : Int).toNat 5) (ct1_0 - (1 : Int).toNat) (t1_0.drop (1 : Int).toNat) 2 true, .sl 2 k44 A125_34 c125_34 ([(⟨t28_0, t28_1, t28_2, t28_3, t28_4⟩ : S44), (⟨t28_5, t28_6, t28_7, t28_8, t28_9⟩ : S44)] : List S44) 10 true]) (by kernel_rfl) (xs [0, 1, 2, 3, 4] [] rfl rfl rfl (one1 6 rfl rfl ?_)))))))
         revert H; refine ggI ?_; intro g35 H
         refine op_app (k := k44) (s := 5) (by_ := 88) 12 11 rfl rfl rfl rfl (ap2 g35 dq) (ap2n g35 dq) (.inr ⟨dq, dq, rfl, dq⟩) true (fun _ => .inr ⟨rfl, rfl, dq⟩) rfl rfl fun A129_36 c129_36 => (nmE (en := [.sl 2 k44 At1_0 ct1_0 t1_0 10 true, celE At1_0 ((0 : Int).toNat * 5) [.int .i64 ((rd_T44 t1_0 0).f0), .slice A_8 ((rd_T44 t1_0 0).f1).length c_8, .slice A_9 ((rd_T44 t1_0 0).f2).length c_9, .slice A_10 ((rd_T44 t1_0 0).f3).length c_10, .int .i64 ((rd_T44 t1_0 0).f4)] 10, .sl 1 k70 A_8 c_8 ((rd_T44 t1_0 0).f1) 10 true, .sl 1 k70 A_9 c_9 ((rd_T44 t1_0 0).f2) 10 true, .sl 1 .bool A_10 c_10 ((rd_T44 t1_0 0).f3) 10 true, .sl 1 k44 (cutA At1_0 ct1_0 (1 : Int).toNat 5) (ct1_0 - (1 : Int).toNat) (t1_0.drop (1 : Int).toNat) 10 true, .sl 2 k44 A129_36 c129_36 (([(⟨t28_0, t28_1, t28_2, t28_3, t28_4⟩ : S44), (⟨t28_5, t28_6, t28_7, t28_8, t28_9⟩ : S44)] : List S44) ++ (t1_0.drop (1 : Int).toNat)) 10 true]) (by kernel_rfl) (xs [0, 1, 2, 3, 4] [] rfl rfl rfl (one1 7 rfl rfl (ov (EV.fa 0 rfl) rfl (xn rfl (one1 8 rfl rfl (op_st (cs' := [.slice A129_36 (([(⟨t28_0, t28_1, t28_2, t28_3, t28_4⟩ : S44), (⟨t28_5, t28_6, t28_7, t28_8, t28_9⟩ : S44)] : List S44) ++ (t1_0.drop (1 : Int).toNat)).length c129_36, .int .i64 t1_1, .int .i64 t1_2]) 1 rfl rfl rfl rfl rfl rfl (xn rfl (xd (pr [4, 8, 9] [0, 1, 2] [2, 3, 4, 6] rfl rfl rfl rfl (gs (dr [0, 1, 2] [0, 1, 2, 3] [6] 7 rfl rfl rfl rfl (xv 0 [0, 1, 2] [0, 1, 2, 3] rfl (EV.fa 1 rfl) rfl rfl rfl rfl (xv 1 [0, 1, 2] [0, 1, 2, 3] rfl (EV.ld 1 none rfl rfl rfl) rfl rfl rfl rfl (xv 2 [0, 1, 2] [0, 1, 2, 3] rfl (EV.ld (v := .agg #[.int .i64 ((rd_T44 t1_0 0).f0), .slice A_8 ((rd_T44 t1_0 0).f1).length c_8, .slice A_9 ((rd_T44 t1_0 0).f2).length c_9, .slice A_10 ((rd_T44 t1_0 0).f3).length c_10, .int .i64 ((rd_T44 t1_0 0).f4)]) 2 (some 5) rfl rfl rfl) rfl rfl rfl rfl (one1 3 rfl rfl ?_))))))))))))))))
         revert H; refine bdI ?_; rintro t37 A37 H
         refine op_call (impl_TaskCost.ok k ((rd_T44 t1_0 0).f0) ((rd_T44 t1_0 0).f1) A_8 c_8 ((rd_T44 t1_0 0).f2) A_9 c_9 ((rd_T44 t1_0 0).f3) A_10 c_10 ((rd_T44 t1_0 0).f4) _ A37) [⟨0, 0, 0, false⟩, ⟨1, 0, 0, false⟩, ⟨2, 0, 0, false⟩] 11 rfl rfl rfl rfl rfl ?_
         rintro _ _ _ ⟨rfl, rfl, rfl⟩
         refine xs [0, 1, 2] [0, 1, 2, 3] rfl rfl rfl (xv 4 [0, 1, 2] [0, 1, 2, 3] rfl (EV.add rfl rfl) rfl rfl rfl rfl (xv 5 [0, 1, 2] [0, 1, 2, 3] rfl (EV.fa 1 rfl) rfl rfl rfl rfl (one1 6 rfl rfl (op_st (cs' := [.slice A129_36 (([(⟨t28_0, t28_1, t28_2, t28_3, t28_4⟩ : S44), (⟨t28_5, t28_6, t28_7, t28_8, t28_9⟩ : S44)] : List S44) ++ (t1_0.drop (1 : Int).toNat)).length c129_36, .int .i64 (wrap64 (t1_1 + t37)), .int .i64 t1_2]) 1 rfl rfl rfl rfl rfl rfl (xn rfl (xd (pr [4, 8] [0, 1] [3] rfl rfl rfl rfl (gs (rg (sv (EV.fa 2 rfl) rfl (sv (EV.ld 1 none rfl rfl rfl) rfl (sv (EV.add rfl rfl) rfl (sv (EV.fa 2 rfl) rfl (so rfl (op_st (cs' := [.slice A129_36 (([(⟨t28_0, t28_1, t28_2, t28_3, t28_4⟩ : S44), (⟨t28_5, t28_6, t28_7, t28_8, t28_9⟩ : S44)] : List S44) ++ (t1_0.drop (1 : Int).toNat)).length c129_36, .int .i64 (wrap64 (t1_1 + t37)), .int .i64 (wrap64 (t1_2 + 1))]) 1 rfl rfl rfl rfl rfl rfl (re (gs (rg (sv (EV.ld (v := .agg #[.slice A129_36 (([(⟨t28_0, t28_1, t28_2, t28_3, t28_4⟩ : S44), (⟨t28_5, t28_6, t28_7, t28_8, t28_9⟩ : S44)] : List S44) ++ (t1_0.drop (1 : Int).toNat)).length c129_36, .int .i64 (wrap64 (t1_1 + t37)), .int .i64 (wrap64 (t1_2 + 1))]) 1 (some 3) rfl rfl rfl) rfl (so rfl (op_st (cs' := [.slice A129_36 (([(⟨t28_0, t28_1, t28_2, t28_3, t28_4⟩ : S44), (⟨t28_5, t28_6, t28_7, t28_8, t28_9⟩ : S44)] : List S44) ++ (t1_0.drop (1 : Int).toNat)).length c129_36, .int .i64 (wrap64 (t1_1 + t37)), .int .i64 (wrap64 (t1_2 + 1))]) 0 rfl rfl rfl rfl rfl rfl (sv (EV.as rfl) rfl (sv (EV.as rfl) rfl (sv (EV.as rfl) rfl (re (pr [4, 5, 6, 7] [0] [0] rfl rfl rfl rfl (nil_ k92 11 dq ?_)))))))))))))))))))))))))))
         cases H
         exact rt Try.func54 rfl (.cell 0 (some 3) rfl rfl rfl (.tmp rfl (.tmp rfl (.tmp rfl .nil)))) rfl [] [⟨0, 1, 1, true⟩, ⟨1, 2, 2, true⟩] rfl rfl rfl rfl rfl ⟨_, _, _, _, rfl, rfl, rfl⟩
      ·
       refine gt rfl (nT c18) (gs (rg (sv (EV.fa 0 rfl) rfl (sv (EV.ld 1 none rfl rfl rfl) rfl ?_))))
       revert H; refine ggI ?_; intro g38 H
       refine cutp (l' := t1_0.drop (1 : Int).toNat) 1 (t1_0.length : Int) 0 rfl dq g38 (Int.le_refl _) rfl 1 dq (.inl dq) ctl (sv (EV.ct 1 (t1_0.length : Int) 0 rfl rfl rfl rfl dq g38 (Int.le_refl _) rfl rfl ctnl) rfl (sv (EV.fa 0 rfl) rfl (so rfl (op_st (cs' := [.slice (cutA At1_0 ct1_0 (1 : Int).toNat 5) (t1_0.drop (1 : Int).toNat).length (ct1_0 - (1 : Int).toNat), .int .i64 t1_1, .int .i64 t1_2]) 1 rfl rfl rfl rfl rfl rfl (re (pr [4, 8, 9, 10] [0, 1, 2] [2, 3, 4, 5] rfl rfl rfl rfl (gs (rg (sv (EV.ld (v := .agg #[.int .i64 ((rd_T44 t1_0 0).f0), .slice A_8 ((rd_T44 t1_0 0).f1).length c_8, .slice A_9 ((rd_T44 t1_0 0).f2).length c_9, .slice A_10 ((rd_T44 t1_0 0).f3).length c_10, .int .i64 ((rd_T44 t1_0 0).f4)]) 2 (some 5) rfl rfl rfl) rfl (sv (EV.fa 2 rfl) rfl (sv (EV.ld 2 none rfl rfl rfl) rfl ?_)))))))))))
       revert H; refine bdI ?_; rintro ⟨t39_0, t39_1, t39_2, t39_3, t39_4, t39_5⟩ A39 H
       refine so rfl (op_call (impl_JoinChunk.ok k ((rd_T44 t1_0 0).f0) ((rd_T44 t1_0 0).f1) A_8 c_8 ((rd_T44 t1_0 0).f2) A_9 c_9 ((rd_T44 t1_0 0).f3) A_10 c_10 ((rd_T44 t1_0 0).f4) ((rd_T44 t1_0 0).f2) A_9 c_9 _ _ _ _ _ _ A39) [⟨0, 0, 0, false⟩, ⟨1, 0, 0, false⟩, ⟨2, 0, 0, false⟩, ⟨1, 0, 0, false⟩] 3 rfl rfl rfl rfl rfl ?_)
       rintro _ _ _ ⟨At39_0, ct39_0, At39_2, ct39_2, At39_3, ct39_3, At39_4, ct39_4, rfl, rfl, rfl⟩
       refine sv (EV.mv rfl) rfl (sv (EV.ex rfl rfl) rfl (sv (EV.ex rfl rfl) rfl (so rfl (op_alloc (cs := [.int .i64 0, .slice none 0 0, .slice none 0 0, .slice none 0 0, .int .i64 0]) (by kernel_rfl) rfl fun b12 => (sv (EV.as rfl) rfl (so rfl (op_st (cs' := [.int .i64 t39_1, .slice At39_2 t39_2.length ct39_2, .slice At39_3 t39_3.length ct39_3, .slice At39_4 t39_4.length ct39_4, .int .i64 t39_5]) 3 rfl rfl rfl rfl rfl rfl (re (pr [4, 8, 9, 10, 11, 12] [0, 1, 2, 3] [0, 1, 2, 3, 4, 5, 6, 7] rfl rfl rfl rfl (gs (rg (sv (EV.fa 2 rfl) rfl (sv (EV.ld 2 none rfl rfl rfl) rfl ?_)))))))))))))
       revert H; refine bdI ?_; rintro t40 A40 H
       refine so rfl (op_call (impl_TotalCost.ok k ((rd_T44 t1_0 0).f2) A_9 c_9 _ A40) [⟨1, 0, 0, false⟩] 8 rfl rfl rfl rfl rfl ?_)
       rintro _ _ _ ⟨rfl, rfl, rfl⟩
       refine sv (EV.as rfl) rfl (re ?_)
       refine jo (fun S => ∃ (m : Nat) (x2_11 : List S92) (Ax2_11 : Option Addr) (cx2_11 : Nat) (x2_13 : Int) (x2_4_0 : List S44) (Ax2_4_0 : Option Addr) (cx2_4_0 : Nat) (x2_4_1 : Int) (x2_4_2 : Int) (x2_8_0 : List S44) (Ax2_8_0 : Option Addr) (cx2_8_0 : Nat) (x2_8_1 : Int) (x2_8_2 : Int) (x2_12_0 : Int) (x2_12_1 : List S70) (Ax2_12_1 : Option Addr) (cx2_12_1 : Nat) (x2_12_2 : List S70) (Ax2_12_2 : Option Addr) (cx2_12_2 : Nat) (x2_12_3 : List Bool) (Ax2_12_3 : Option Addr) (cx2_12_3 : Nat) (x2_12_4 : Int), impl_StepJoiner.j0 m x2_11 x2_13 x2_4_0 x2_4_1 x2_4_2 x2_8_0 x2_8_1 x2_8_2 x2_12_0 x2_12_1 x2_12_2 x2_12_3 x2_12_4 = some (r0, r1, r2, r3, r4, r5) ∧ S = ⟨[(4, .pointer (some ⟨b4, 0, none⟩)), (8, .pointer (some ⟨b8, 0, none⟩)), (11, .slice Ax2_11 x2_11.length cx2_11), (12, .pointer (some ⟨b12, 0, none⟩)), (13, .int .i64 x2_13)], [⟨b4, 73, [.slice Ax2_4_0 x2_4_0.length cx2_4_0, .int .i64 x2_4_1, .int .i64 x2_4_2]⟩, ⟨b8, 73, [.slice Ax2_8_0 x2_8_0.length cx2_8_0, .int .i64 x2_8_1, .int .i64 x2_8_2]⟩, ⟨b12, 44, [.int .i64 x2_12_0, .slice Ax2_12_1 x2_12_1.length cx2_12_1, .slice Ax2_12_2 x2_12_2.length cx2_12_2, .slice Ax2_12_3 x2_12_3.length cx2_12_3, .int .i64 x2_12_4]⟩], [.sl 2 k92 Ax2_11 cx2_11 x2_11 1 true, .sl 2 k44 Ax2_4_0 cx2_4_0 x2_4_0 2 true, .sl 1 k44 Ax2_8_0 cx2_8_0 x2_8_0 3 true, .sl 2 k70 Ax2_12_1 cx2_12_1 x2_12_1 4 true, .sl 2 k70 Ax2_12_2 cx2_12_2 x2_12_2 5 true, .sl 2 .bool Ax2_12_3 cx2_12_3 x2_12_3 6 true]⟩) (fun S hS => ?_) (fun jh0 => ?_)
       ·
        clear H
        obtain ⟨m41, x2_11, Ax2_11, cx2_11, x2_13, x2_4_0, Ax2_4_0, cx2_4_0, x2_4_1, x2_4_2, x2_8_0, Ax2_8_0, cx2_8_0, x2_8_1, x2_8_2, x2_12_0, x2_12_1, Ax2_12_1, cx2_12_1, x2_12_2, Ax2_12_2, cx2_12_2, x2_12_3, Ax2_12_3, cx2_12_3, x2_12_4, H, rfl⟩ := hS
        rcases m41 with _ | m41
        · rw [impl_StepJoiner.j0] at H; cases H
        rw [impl_StepJoiner.j0] at H
        refine gs (dr [1, 2] [1, 2, 3, 4, 5] [8, 9] 10 rfl rfl rfl rfl (xv 0 [1, 2] [1, 2, 3, 4, 5] rfl (EV.ld (v := .agg #[.slice Ax2_8_0 x2_8_0.length cx2_8_0, .int .i64 x2_8_1, .int .i64 x2_8_2]) 0 (some 3) rfl rfl rfl) rfl rfl rfl rfl (xv 1 [1, 2] [1, 2, 3, 4, 5] rfl (EV.mv rfl) rfl rfl rfl rfl (xv 2 [1, 2] [1, 2, 3, 4, 5] rfl (EV.ld (v := .agg #[.int .i64 x2_12_0, .slice Ax2_12_1 x2_12_1.length cx2_12_1, .slice Ax2_12_2 x2_12_2.length cx2_12_2, .slice Ax2_12_3 x2_12_3.length cx2_12_3, .int .i64 x2_12_4]) 1 (some 5) rfl rfl rfl) rfl rfl rfl rfl (xv 5 [1, 2] [1, 2, 3, 4, 5] rfl (EV.mv rfl) rfl rfl rfl rfl (one1 3 rfl rfl ?_))))))
        revert H; refine bdI ?_; rintro t42 A42 H
        refine op_call (impl_UnmatchedRows.ok m41 x2_12_0 x2_12_1 Ax2_12_1 cx2_12_1 x2_12_2 Ax2_12_2 cx2_12_2 x2_12_3 Ax2_12_3 cx2_12_3 x2_12_4 _ A42) [⟨3, 0, 0, false⟩, ⟨4, 0, 0, false⟩, ⟨5, 0, 0, false⟩] 7 rfl rfl rfl rfl rfl ?_
        rintro _ _ _ ⟨At42, ct42, rfl, rfl, rfl⟩
        refine xs [1, 2] [1, 2, 3, 4, 5] rfl rfl rfl (one1 4 rfl rfl ?_)
        revert H; refine ggI ?_; intro g43 H
        refine op_app (k := k92) (s := 7) (by_ := 56) 0 6 rfl rfl rfl rfl (ap2 g43 dq) (ap2n g43 dq) (.inl rfl) true (fun _ => .inl rfl) rfl rfl fun A89_44 c89_44 => (nmE (en := [.sl 2 k44 Ax2_4_0 cx2_4_0 x2_4_0 2 true, .sl 1 k44 Ax2_8_0 cx2_8_0 x2_8_0 3 true, .sl 2 k70 Ax2_12_1 cx2_12_1 x2_12_1 4 true, .sl 2 k70 Ax2_12_2 cx2_12_2 x2_12_2 5 true, .sl 2 .bool Ax2_12_3 cx2_12_3 x2_12_3 6 true, .sl 2 k92 At42 ct42 t42 8 true, .sl 2 k92 A89_44 c89_44 (x2_11 ++ t42) 1 true]) (by kernel_rfl) (xs [1, 2] [0, 1, 2, 3, 4] rfl rfl rfl (one1 6 rfl rfl (op_st (cs' := [.slice Ax2_8_0 x2_8_0.length cx2_8_0, .int .i64 x2_8_1, .int .i64 x2_8_2]) 0 rfl rfl rfl rfl rfl rfl (xs [1, 2] [0, 1, 2, 3, 4] rfl rfl rfl (one1 7 rfl rfl (ov (EV.as rfl) rfl (xs [1, 2] [0, 1, 2, 3, 4] rfl rfl rfl (one1 8 rfl rfl (ov (EV.as rfl) rfl (xn rfl (one1 9 rfl rfl (ov (EV.as rfl) rfl (xn rfl (xd (pr [4, 5, 6, 7] [0] [1, 6] rfl rfl rfl rfl ?_))))))))))))))))
        cases H
        exact rt Try.func54 rfl (.cell 0 (some 3) rfl rfl rfl (.tmp rfl (.tmp rfl (.tmp rfl .nil)))) rfl [] [⟨0, 1, 1, true⟩, ⟨1, 2, 2, true⟩] rfl rfl rfl rfl rfl ⟨_, _, _, _, rfl, rfl, rfl⟩
       ·
        refine gs (rg (sv (EV.mv rfl) rfl (sv (EV.eql rfl rfl) rfl (re ?_))))
        revert H; refine ifsI ?_ ?_ <;> intro c45 H
        ·
         refine gt rfl (dT c45) (rg (sv (EV.fa 1 rfl) rfl (sv (EV.ld 2 none rfl rfl rfl) rfl ?_)))
         revert H; refine bdI ?_; rintro t46 A46 H
         refine so rfl (op_call (impl_TotalCost.ok k ((rd_T44 t1_0 0).f1) A_8 c_8 _ A46) [⟨0, 0, 0, false⟩] 8 rfl rfl rfl rfl rfl ?_)
         rintro _ _ _ ⟨rfl, rfl, rfl⟩
         exact sv (EV.as rfl) rfl (re (pr [4, 8, 11, 12, 13] [0, 1, 3] [3, 4, 5, 6, 7] rfl rfl rfl rfl (nil_ k44 8 dq (wk [4, 8, 11, 12, 13] [0, 1, 2] [⟨1, 2, 1, true⟩, ⟨5, 2, 2, true⟩, ⟨0, 1, 3, true⟩, ⟨2, 2, 4, true⟩, ⟨3, 2, 5, true⟩, ⟨4, 2, 6, true⟩] (jh0 _ ⟨_, t39_0, At39_0, ct39_0, t46, [], none, 0, 0, 0, t1_0.drop (1 : Int).toNat, (cutA At1_0 ct1_0 (1 : Int).toNat 5), (ct1_0 - (1 : Int).toNat), t1_1, t1_2, t39_1, t39_2, At39_2, ct39_2, t39_3, At39_3, ct39_3, t39_4, At39_4, ct39_4, t39_5, H, rfl⟩)))))
        ·
         exact gf rfl (dF c45) (gk (nil_ k44 8 dq (wk [4, 8, 11, 12, 13] [0, 1, 3] [⟨4, 2, 1, true⟩, ⟨8, 2, 2, true⟩, ⟨3, 1, 3, true⟩, ⟨5, 2, 4, true⟩, ⟨6, 2, 5, true⟩, ⟨7, 2, 6, true⟩] (jh0 _ ⟨_, t39_0, At39_0, ct39_0, t40, [], none, 0, 0, 0, t1_0.drop (1 : Int).toNat, (cutA At1_0 ct1_0 (1 : Int).toNat 5), (ct1_0 - (1 : Int).toNat), t1_1, t1_2, t39_1, t39_2, At39_2, ct39_2, t39_3, At39_3, ct39_3, t39_4, At39_4, ct39_4, t39_5, H, rfl⟩))))
   ·
    obtain rfl := bF c6
    refine gt rfl rfl (gs (rg (sv (EV.ld (v := .agg #[.slice At1_0 t1_0.length ct1_0, .int .i64 t1_1, .int .i64 t1_2]) 1 (some 3) rfl rfl rfl) rfl (so rfl (op_st (cs' := [.slice At1_0 t1_0.length ct1_0, .int .i64 t1_1, .int .i64 t1_2]) 0 rfl rfl rfl rfl rfl rfl (sv (EV.as rfl) rfl (sv (EV.as rfl) rfl (sv (EV.as rfl) rfl (re (nil_ k92 3 dq ?_))))))))))
    cases H
    exact rt Try.func54 rfl (.cell 0 (some 3) rfl rfl rfl (.tmp rfl (.tmp rfl (.tmp rfl .nil)))) rfl [] [⟨0, 1, 1, true⟩, ⟨1, 2, 2, true⟩] rfl rfl rfl rfl rfl ⟨_, _, _, _, rfl, rfl, rfl⟩
 ·
  obtain rfl := bF c3
  refine ts 26 rfl rfl (sk rfl (sk rfl (sk rfl (sk rfl (sv (EV.pt rfl rfl rfl) rfl (sv (EV.mv rfl) rfl (sk rfl (sk rfl (sk rfl (sv (EV.pt rfl rfl rfl) rfl (re (pr [1, 4, 8, 36] [1, 2] [1] rfl rfl rfl rfl (gt rfl rfl (gs (rg (sv (EV.ld (v := .agg #[.slice At1_0 t1_0.length ct1_0, .int .i64 t1_1, .int .i64 t1_2]) 1 (some 3) rfl rfl rfl) rfl (so rfl (op_st (cs' := [.slice At1_0 t1_0.length ct1_0, .int .i64 t1_1, .int .i64 t1_2]) 0 rfl rfl rfl rfl rfl rfl (sv (EV.as rfl) rfl (sv (EV.as rfl) rfl (sv (EV.as rfl) rfl (re (nil_ k92 3 dq ?_)))))))))))))))))))))))
  cases H
  exact rt Try.func54 rfl (.cell 0 (some 3) rfl rfl rfl (.tmp rfl (.tmp rfl (.tmp rfl .nil)))) rfl [] [⟨0, 1, 1, true⟩, ⟨1, 2, 2, true⟩] rfl rfl rfl rfl rfl ⟨_, _, _, _, rfl, rfl, rfl⟩
end Go.Proofs.Ytajjeemkdjfilaa.K
namespace Go.Proofs.Ytajjeemkdjfilaa.K
open Go Go.RowKit
set_option linter.unusedVariables false
set_option linter.unusedSimpArgs false
def spec_l6Rows.l0 : Nat → Int → (List S70) → (List S70) → Option (Bool)
 | 0, _, _, _ => none
 | k + 1, x2_5, l0, l1 => if x2_5 < (l0.length : Int) then (if 0 ≤ x2_5 then (if x2_5 < (l1.length : Int) then (if (((rd_T70 l0 x2_5).f0) == ((rd_T70 l1 x2_5).f0) && (((rd_T70 l0 x2_5).f1) == ((rd_T70 l1 x2_5).f1) && (((rd_T70 l0 x2_5).f2) == ((rd_T70 l1 x2_5).f2)))) = true then (spec_l6Rows.l0 k (wrap64 (x2_5 + 1)) l0 l1) else (some false)) else none) else none) else (some true)
def spec_l6Rows.f (k : Nat) (l0 : List S70) (l1 : List S70) : Option (Bool) := if (l0.length : Int) = (l1.length : Int) then (spec_l6Rows.l0 k 0 l0 l1) else (some false)
set_option maxHeartbeats 4000000 in
set_option maxRecDepth 100000 in
theorem spec_l6Rows.ok (k : Nat) (l0 : List S70) (Al0 : Option Addr) (cl0 : Nat) (l1 : List S70) (Al1 : Option Addr) (cl1 : Nat) (r0 : Bool) (H : spec_l6Rows.f k l0 l1 = some r0) : Fn Try.prog 82 [.slice Al0 l0.length cl0, .slice Al1 l1.length cl1] [] [.sl 0 k70 Al0 cl0 l0 0 false, .sl 0 k70 Al1 cl1 l1 0 false] (fun v bx en => v = .bool r0 ∧ bx = [] ∧ en = []) := by
 refine fn_ 26 Try.func82 rfl rfl rfl (fun base T w0 => ?_)
 rw [spec_l6Rows.f] at H
 refine gs (rg (sv (EV.as rfl) rfl (re (gs (gs (rg (sv (EV.mv rfl) rfl (sv (EV.ln rfl) rfl (sv (EV.mv rfl) rfl (sv (EV.ln rfl) rfl (sv (EV.neq rfl rfl) rfl (re ?_))))))))))))
 revert H; refine ifsI ?_ ?_ <;> intro c1 H
 ·
  refine gf rfl (nF c1) (gk (gs (gs (rg (sv (EV.as rfl) rfl (re (pr [0, 1, 5] [] [0, 1] rfl rfl rfl rfl (gb ?_))))))))
  refine lo (fun kk S => ∃ (x2_5 : Int), spec_l6Rows.l0 kk x2_5 l0 l1 = some r0 ∧ S = ⟨[(0, .slice Al0 l0.length cl0), (1, .slice Al1 l1.length cl1), (5, .int .i64 x2_5)], [], [.sl 0 k70 Al0 cl0 l0 0 false, .sl 0 k70 Al1 cl1 l1 0 false]⟩) (fun S hS => ?_) (fun n0 ih0 S hS => ?_) ⟨0, H, rfl⟩ (fun h => wk [0, 1, 5] [] [⟨0, 0, 0, false⟩, ⟨1, 0, 0, false⟩] h)
  · clear H; obtain ⟨_, H, _⟩ := hS; rw [spec_l6Rows.l0] at H; cases H
  clear H
  obtain ⟨x2_5, H, rfl⟩ := hS
  rw [spec_l6Rows.l0] at H
  refine gs (gs (rg (sv (EV.mv rfl) rfl (sv (EV.mv rfl) rfl (sv (EV.ln rfl) rfl (sv (EV.lss rfl rfl) rfl (re ?_)))))))
  revert H; refine ifsI ?_ ?_ <;> intro c2 H
  ·
   refine gt rfl (dT c2) (gk (gs (gb (gs ?_))))
   revert H; refine ggI ?_; intro g3 H
   revert H; refine ggI ?_; intro g4 H
   refine dr [] [0, 1] [] 9 rfl rfl rfl rfl (xv 0 [] [0, 1] rfl (EV.mv rfl) rfl rfl rfl rfl (xv 1 [] [0, 1] rfl (EV.mv rfl) rfl rfl rfl rfl (xv 2 [] [0, 1] rfl (EV.ix 0 rfl rfl rfl g3 c2 rfl) rfl rfl rfl rfl (xv 3 [] [0, 1] rfl (EV.le (v := .agg #[.int .i64 ((rd_T70 l0 x2_5).f0), .int .i64 ((rd_T70 l0 x2_5).f1), .int .i64 ((rd_T70 l0 x2_5).f2)]) x2_5 0 (some 3) 0 z70 rfl rfl rfl g3 c2 rfl rfl rfl) rfl rfl rfl rfl (xv 4 [] [0, 1] rfl (EV.mv rfl) rfl rfl rfl rfl (xv 5 [] [0, 1] rfl (EV.mv rfl) rfl rfl rfl rfl (xv 6 [] [0, 1] rfl (EV.ix 1 rfl rfl rfl g3 g4 rfl) rfl rfl rfl rfl (xv 7 [] [0, 1] rfl (EV.le (v := .agg #[.int .i64 ((rd_T70 l1 x2_5).f0), .int .i64 ((rd_T70 l1 x2_5).f1), .int .i64 ((rd_T70 l1 x2_5).f2)]) x2_5 0 (some 3) 1 z70 rfl rfl rfl g3 g4 rfl rfl rfl) rfl rfl rfl rfl (xv 8 [] [0, 1] rfl (EV.neS rfl rfl (fun d w => eq70 d w ((rd_T70 l0 x2_5).f0) ((rd_T70 l1 x2_5).f0) ((rd_T70 l0 x2_5).f1) ((rd_T70 l1 x2_5).f1) ((rd_T70 l0 x2_5).f2) ((rd_T70 l1 x2_5).f2))) rfl rfl rfl rfl (xd (pr [0, 1, 5, 25] [] [0, 1] rfl rfl rfl rfl ?_)))))))))))
   revert H; refine ifsI ?_ ?_ <;> intro c5 H
   ·
    exact gf rfl (bN c5) (gk (ge (rg (sv (EV.mv rfl) rfl (sv (EV.add rfl rfl) rfl (sv (EV.as rfl) rfl (re (wk [0, 1, 5] [] [⟨0, 0, 0, false⟩, ⟨1, 0, 0, false⟩] (ih0 _ (by omega) _ ⟨wrap64 (x2_5 + 1), H, rfl⟩)))))))))
   ·
    refine gt rfl (bM c5) (gs (rg (sv (EV.as rfl) rfl (re ?_))))
    cases H
    exact rt Try.func82 rfl (.tmp rfl .nil) rfl [] [] rfl rfl rfl rfl rfl ⟨rfl, rfl, rfl⟩
  ·
   refine gf rfl (dF c2) (gx rfl (gs (rg (sv (EV.as rfl) rfl (re (pr [4] [] [] rfl rfl rfl rfl ?_))))))
   cases H
   exact rt Try.func82 rfl (.tmp rfl .nil) rfl [] [] rfl rfl rfl rfl rfl ⟨rfl, rfl, rfl⟩
 ·
  refine gt rfl (nT c1) (gs (rg (sv (EV.as rfl) rfl (re (pr [4] [] [] rfl rfl rfl rfl ?_)))))
  cases H
  exact rt Try.func82 rfl (.tmp rfl .nil) rfl [] [] rfl rfl rfl rfl rfl ⟨rfl, rfl, rfl⟩
end Go.Proofs.Ytajjeemkdjfilaa.K
namespace Go.Proofs.Ytajjeemkdjfilaa.K
open Go Go.RowKit
set_option linter.unusedVariables false
set_option linter.unusedSimpArgs false
def spec_EqualTasks.l0 : Nat → Int → Int → Int → Int → Int → (List S70) → (List S70) → (List Bool) → (List S70) → (List S70) → (List Bool) → Option (Bool)
 | 0, _, _, _, _, _, _, _, _, _, _, _ => none
 | k + 1, x2_5, x2_2_0, x2_2_4, x2_3_0, x2_3_4, l0_1, l0_2, l0_3, l1_1, l1_2, l1_3 => if x2_5 < (l0_3.length : Int) then (if 0 ≤ x2_5 then (if x2_5 < (l1_3.length : Int) then (if ((rdOf false l0_3 x2_5) == (rdOf false l1_3 x2_5)) = true then (spec_EqualTasks.l0 k (wrap64 (x2_5 + 1)) x2_2_0 x2_2_4 x2_3_0 x2_3_4 l0_1 l0_2 l0_3 l1_1 l1_2 l1_3) else (some false)) else none) else none) else (some true)
def spec_EqualTasks.f (k : Nat) (a0_0 : Int) (l0_1 : List S70) (l0_2 : List S70) (l0_3 : List Bool) (a0_4 : Int) (a1_0 : Int) (l1_1 : List S70) (l1_2 : List S70) (l1_3 : List Bool) (a1_4 : Int) : Option (Bool) := if a0_0 = a1_0 then ((spec_l6Rows.f k l0_1 l1_1).bind fun t2 => (if t2 = true then ((spec_l6Rows.f k l0_2 l1_2).bind fun t4 => (if t4 = true then (if a0_4 = a1_4 then (if (l0_3.length : Int) = (l1_3.length : Int) then (spec_EqualTasks.l0 k 0 a0_0 a0_4 a1_0 a1_4 l0_1 l0_2 l0_3 l1_1 l1_2 l1_3) else (some false)) else (some false)) else (some false))) else (some false))) else (some false)
set_option maxHeartbeats 4000000 in
set_option maxRecDepth 100000 in
theorem spec_EqualTasks.ok (k : Nat) (a0_0 : Int) (l0_1 : List S70) (Al0_1 : Option Addr) (cl0_1 : Nat) (l0_2 : List S70) (Al0_2 : Option Addr) (cl0_2 : Nat) (l0_3 : List Bool) (Al0_3 : Option Addr) (cl0_3 : Nat) (a0_4 : Int) (a1_0 : Int) (l1_1 : List S70) (Al1_1 : Option Addr) (cl1_1 : Nat) (l1_2 : List S70) (Al1_2 : Option Addr) (cl1_2 : Nat) (l1_3 : List Bool) (Al1_3 : Option Addr) (cl1_3 : Nat) (a1_4 : Int) (r0 : Bool) (H : spec_EqualTasks.f k a0_0 l0_1 l0_2 l0_3 a0_4 a1_0 l1_1 l1_2 l1_3 a1_4 = some r0) : Fn Try.prog 28 [.agg #[.int .i64 a0_0, .slice Al0_1 l0_1.length cl0_1, .slice Al0_2 l0_2.length cl0_2, .slice Al0_3 l0_3.length cl0_3, .int .i64 a0_4], .agg #[.int .i64 a1_0, .slice Al1_1 l1_1.length cl1_1, .slice Al1_2 l1_2.length cl1_2, .slice Al1_3 l1_3.length cl1_3, .int .i64 a1_4]] [] [.sl 0 k70 Al0_1 cl0_1 l0_1 0 false, .sl 0 k70 Al0_2 cl0_2 l0_2 0 false, .sl 0 .bool Al0_3 cl0_3 l0_3 0 false, .sl 0 k70 Al1_1 cl1_1 l1_1 0 false, .sl 0 k70 Al1_2 cl1_2 l1_2 0 false, .sl 0 .bool Al1_3 cl1_3 l1_3 0 false] (fun v bx en => v = .bool r0 ∧ bx = [] ∧ en = []) := by
 refine fn_ 61 Try.func28 rfl rfl rfl (fun base T w0 => ?_)
 rw [spec_EqualTasks.f] at H
 refine gs (rg (so rfl (op_box (cs := [.int .i64 a0_0, .slice Al0_1 l0_1.length cl0_1, .slice Al0_2 l0_2.length cl0_2, .slice Al0_3 l0_3.length cl0_3, .int .i64 a0_4]) rfl rfl rfl fun b2 => (so rfl (op_box (cs := [.int .i64 a1_0, .slice Al1_1 l1_1.length cl1_1, .slice Al1_2 l1_2.length cl1_2, .slice Al1_3 l1_3.length cl1_3, .int .i64 a1_4]) rfl rfl rfl fun b3 => (sv (EV.as rfl) rfl (re (gs (gs (rg (sv (EV.fa 0 rfl) rfl (sv (EV.ld 0 none rfl rfl rfl) rfl (sv (EV.fa 0 rfl) rfl (sv (EV.ld 1 none rfl rfl rfl) rfl (sv (EV.neq rfl rfl) rfl (sv (EV.mv rfl) rfl ?_))))))))))))))))
 revert H; refine ifsI ?_ ?_ <;> intro c1 H
 ·
  refine ts 11 rfl (nF c1) (sv (EV.fa 1 rfl) rfl (sv (EV.ld 0 none rfl rfl rfl) rfl (sv (EV.fa 1 rfl) rfl (sv (EV.ld 1 none rfl rfl rfl) rfl ?_))))
  revert H; refine bdI ?_; rintro t2 A2 H
  refine so rfl (op_call (spec_l6Rows.ok k l0_1 Al0_1 cl0_1 l1_1 Al1_1 cl1_1 _ A2) [⟨0, 0, 0, false⟩, ⟨3, 0, 0, false⟩] 1 rfl rfl rfl rfl rfl ?_)
  rintro _ _ _ ⟨rfl, rfl, rfl⟩
  refine sv (EV.nt rfl) rfl (sv (EV.pf rfl rfl rfl) rfl (sv (EV.mv rfl) rfl ?_))
  revert H; refine ifsI ?_ ?_ <;> intro c3 H
  ·
   subst c3
   refine ts 19 rfl rfl (sv (EV.fa 2 rfl) rfl (sv (EV.ld 0 none rfl rfl rfl) rfl (sv (EV.fa 2 rfl) rfl (sv (EV.ld 1 none rfl rfl rfl) rfl ?_))))
   revert H; refine bdI ?_; rintro t4 A4 H
   refine so rfl (op_call (spec_l6Rows.ok k l0_2 Al0_2 cl0_2 l1_2 Al1_2 cl1_2 _ A4) [⟨1, 0, 0, false⟩, ⟨4, 0, 0, false⟩] 1 rfl rfl rfl rfl rfl ?_)
   rintro _ _ _ ⟨rfl, rfl, rfl⟩
   refine sv (EV.nt rfl) rfl (sv (EV.pf rfl rfl rfl) rfl (sv (EV.mv rfl) rfl ?_))
   revert H; refine ifsI ?_ ?_ <;> intro c5 H
   ·
    subst c5
    refine ts 27 rfl rfl (sv (EV.fa 4 rfl) rfl (sv (EV.ld 0 none rfl rfl rfl) rfl (sv (EV.fa 4 rfl) rfl (sv (EV.ld 1 none rfl rfl rfl) rfl (sv (EV.neq rfl rfl) rfl (sv (EV.pf rfl rfl rfl) rfl (sv (EV.mv rfl) rfl ?_)))))))
    revert H; refine ifsI ?_ ?_ <;> intro c6 H
    ·
     refine ts 34 rfl (nF c6) (sv (EV.fa 3 rfl) rfl (sv (EV.ld 0 none rfl rfl rfl) rfl (sv (EV.ln rfl) rfl (sv (EV.fa 3 rfl) rfl (sv (EV.ld 1 none rfl rfl rfl) rfl (sv (EV.ln rfl) rfl (sv (EV.neq rfl rfl) rfl (sv (EV.pf rfl rfl rfl) rfl (re (pr [2, 3, 42] [0, 1] [0, 1, 2, 3, 4, 5] rfl rfl rfl rfl ?_))))))))))
     revert H; refine ifsI ?_ ?_ <;> intro c7 H
     ·
      refine gf rfl (nF c7) (gk (gs (gs (rg (sv (EV.as rfl) rfl (re (gb ?_)))))))
      refine lo (fun kk S => ∃ (x2_5 : Int) (x2_2_0 : Int) (x2_2_4 : Int) (x2_3_0 : Int) (x2_3_4 : Int), spec_EqualTasks.l0 kk x2_5 x2_2_0 x2_2_4 x2_3_0 x2_3_4 l0_1 l0_2 l0_3 l1_1 l1_2 l1_3 = some r0 ∧ S = ⟨[(2, .pointer (some ⟨b2, 0, none⟩)), (3, .pointer (some ⟨b3, 0, none⟩)), (5, .int .i64 x2_5)], [⟨b2, 44, [.int .i64 x2_2_0, .slice Al0_1 l0_1.length cl0_1, .slice Al0_2 l0_2.length cl0_2, .slice Al0_3 l0_3.length cl0_3, .int .i64 x2_2_4]⟩, ⟨b3, 44, [.int .i64 x2_3_0, .slice Al1_1 l1_1.length cl1_1, .slice Al1_2 l1_2.length cl1_2, .slice Al1_3 l1_3.length cl1_3, .int .i64 x2_3_4]⟩], [.sl 0 k70 Al0_1 cl0_1 l0_1 0 false, .sl 0 k70 Al0_2 cl0_2 l0_2 0 false, .sl 0 .bool Al0_3 cl0_3 l0_3 0 false, .sl 0 k70 Al1_1 cl1_1 l1_1 0 false, .sl 0 k70 Al1_2 cl1_2 l1_2 0 false, .sl 0 .bool Al1_3 cl1_3 l1_3 0 false]⟩) (fun S hS => ?_) (fun n0 ih0 S hS => ?_) ⟨0, a0_0, a0_4, a1_0, a1_4, H, rfl⟩ (fun h => wk [2, 3, 5] [0, 1] [⟨0, 0, 0, false⟩, ⟨1, 0, 0, false⟩, ⟨2, 0, 0, false⟩, ⟨3, 0, 0, false⟩, ⟨4, 0, 0, false⟩, ⟨5, 0, 0, false⟩] h)
      · clear H; obtain ⟨_, _, _, _, _, H, _⟩ := hS; rw [spec_EqualTasks.l0] at H; cases H
      clear H
      obtain ⟨x2_5, x2_2_0, x2_2_4, x2_3_0, x2_3_4, H, rfl⟩ := hS
      rw [spec_EqualTasks.l0] at H
      refine gs (gs (rg (sv (EV.mv rfl) rfl (sv (EV.fa 3 rfl) rfl (sv (EV.ld 0 none rfl rfl rfl) rfl (sv (EV.ln rfl) rfl (sv (EV.lss rfl rfl) rfl (re ?_))))))))
      revert H; refine ifsI ?_ ?_ <;> intro c8 H
      ·
       refine gt rfl (dT c8) (gk (gs (gb (gs ?_))))
       revert H; refine ggI ?_; intro g9 H
       revert H; refine ggI ?_; intro g10 H
       refine dr [0, 1] [0, 1, 2, 3, 4, 5] [] 11 rfl rfl rfl rfl (xv 0 [0, 1] [0, 1, 2, 3, 4, 5] rfl (EV.fa 3 rfl) rfl rfl rfl rfl (xv 1 [0, 1] [0, 1, 2, 3, 4, 5] rfl (EV.ld 0 none rfl rfl rfl) rfl rfl rfl rfl (xv 2 [0, 1] [0, 1, 2, 3, 4, 5] rfl (EV.mv rfl) rfl rfl rfl rfl (xv 3 [0, 1] [0, 1, 2, 3, 4, 5] rfl (EV.ix 2 rfl rfl rfl g9 c8 rfl) rfl rfl rfl rfl (xv 4 [0, 1] [0, 1, 2, 3, 4, 5] rfl (EV.le (v := .bool (rdOf false l0_3 x2_5)) x2_5 0 none 2 false rfl rfl rfl g9 c8 rfl rfl rfl) rfl rfl rfl rfl (xv 5 [0, 1] [0, 1, 2, 3, 4, 5] rfl (EV.fa 3 rfl) rfl rfl rfl rfl (xv 6 [0, 1] [0, 1, 2, 3, 4, 5] rfl (EV.ld 1 none rfl rfl rfl) rfl rfl rfl rfl (xv 7 [0, 1] [0, 1, 2, 3, 4, 5] rfl (EV.mv rfl) rfl rfl rfl rfl (xv 8 [0, 1] [0, 1, 2, 3, 4, 5] rfl (EV.ix 5 rfl rfl rfl g9 g10 rfl) rfl rfl rfl rfl (xv 9 [0, 1] [0, 1, 2, 3, 4, 5] rfl (EV.le (v := .bool (rdOf false l1_3 x2_5)) x2_5 0 none 5 false rfl rfl rfl g9 g10 rfl rfl rfl) rfl rfl rfl rfl (xv 10 [0, 1] [0, 1, 2, 3, 4, 5] rfl (EV.neb rfl rfl) rfl rfl rfl rfl (xd (pr [2, 3, 5, 60] [0, 1] [0, 1, 2, 3, 4, 5] rfl rfl rfl rfl ?_)))))))))))))
       revert H; refine ifsI ?_ ?_ <;> intro c11 H
       ·
        exact gf rfl (bN c11) (gk (ge (rg (sv (EV.mv rfl) rfl (sv (EV.add rfl rfl) rfl (sv (EV.as rfl) rfl (re (wk [2, 3, 5] [0, 1] [⟨0, 0, 0, false⟩, ⟨1, 0, 0, false⟩, ⟨2, 0, 0, false⟩, ⟨3, 0, 0, false⟩, ⟨4, 0, 0, false⟩, ⟨5, 0, 0, false⟩] (ih0 _ (by omega) _ ⟨wrap64 (x2_5 + 1), x2_2_0, x2_2_4, x2_3_0, x2_3_4, H, rfl⟩)))))))))
       ·
        refine gt rfl (bM c11) (gs (rg (sv (EV.as rfl) rfl (re ?_))))
        cases H
        exact rt Try.func28 rfl (.tmp rfl .nil) rfl [] [] rfl rfl rfl rfl rfl ⟨rfl, rfl, rfl⟩
      ·
       refine gf rfl (dF c8) (gx rfl (gs (rg (sv (EV.as rfl) rfl (re (pr [4] [] [] rfl rfl rfl rfl ?_))))))
       cases H
       exact rt Try.func28 rfl (.tmp rfl .nil) rfl [] [] rfl rfl rfl rfl rfl ⟨rfl, rfl, rfl⟩
     ·
      refine gt rfl (nT c7) (gs (rg (sv (EV.as rfl) rfl (re ?_))))
      cases H
      exact rt Try.func28 rfl (.tmp rfl .nil) rfl [] [] rfl rfl rfl rfl rfl ⟨rfl, rfl, rfl⟩
    ·
     refine ts 34 rfl (nT c6) (sk rfl (sk rfl (sk rfl (sk rfl (sk rfl (sk rfl (sk rfl (sv (EV.pt rfl rfl rfl) rfl (re (pr [2, 3, 42] [0, 1] [0, 1, 2, 3, 4, 5] rfl rfl rfl rfl (gt rfl rfl (gs (rg (sv (EV.as rfl) rfl (re ?_)))))))))))))))
     cases H
     exact rt Try.func28 rfl (.tmp rfl .nil) rfl [] [] rfl rfl rfl rfl rfl ⟨rfl, rfl, rfl⟩
   ·
    obtain rfl := bF c5
    refine ts 27 rfl rfl (sk rfl (sk rfl (sk rfl (sk rfl (sk rfl (sv (EV.pt rfl rfl rfl) rfl (sv (EV.mv rfl) rfl (sk rfl (sk rfl (sk rfl (sk rfl (sk rfl (sk rfl (sk rfl (sv (EV.pt rfl rfl rfl) rfl (re (pr [2, 3, 42] [0, 1] [0, 1, 2, 3, 4, 5] rfl rfl rfl rfl (gt rfl rfl (gs (rg (sv (EV.as rfl) rfl (re ?_))))))))))))))))))))))
    cases H
    exact rt Try.func28 rfl (.tmp rfl .nil) rfl [] [] rfl rfl rfl rfl rfl ⟨rfl, rfl, rfl⟩
  ·
   obtain rfl := bF c3
   refine ts 19 rfl rfl (sk rfl (sk rfl (sk rfl (sk rfl (sk rfl (sk rfl (sv (EV.pt rfl rfl rfl) rfl (sv (EV.mv rfl) rfl (sk rfl (sk rfl (sk rfl (sk rfl (sk rfl (sv (EV.pt rfl rfl rfl) rfl (sv (EV.mv rfl) rfl (sk rfl (sk rfl (sk rfl (sk rfl (sk rfl (sk rfl (sk rfl (sv (EV.pt rfl rfl rfl) rfl (re (pr [2, 3, 42] [0, 1] [0, 1, 2, 3, 4, 5] rfl rfl rfl rfl (gt rfl rfl (gs (rg (sv (EV.as rfl) rfl ?_)))))))))))))))))))))))))))))
   refine re ?_
   cases H
   exact rt Try.func28 rfl (.tmp rfl .nil) rfl [] [] rfl rfl rfl rfl rfl ⟨rfl, rfl, rfl⟩
 ·
  refine ts 11 rfl (nT c1) (sk rfl (sk rfl (sk rfl (sk rfl (sk rfl (sk rfl (sv (EV.pt rfl rfl rfl) rfl (sv (EV.mv rfl) rfl (sk rfl (sk rfl (sk rfl (sk rfl (sk rfl (sk rfl (sv (EV.pt rfl rfl rfl) rfl (sv (EV.mv rfl) rfl (sk rfl (sk rfl (sk rfl (sk rfl (sk rfl (sv (EV.pt rfl rfl rfl) rfl (sv (EV.mv rfl) rfl (sk rfl (sk rfl (sk rfl (sk rfl (sk rfl (sk rfl ?_)))))))))))))))))))))))))))))
  refine sk rfl (sv (EV.pt rfl rfl rfl) rfl (re (pr [2, 3, 42] [0, 1] [0, 1, 2, 3, 4, 5] rfl rfl rfl rfl (gt rfl rfl (gs (rg (sv (EV.as rfl) rfl (re ?_))))))))
  cases H
  exact rt Try.func28 rfl (.tmp rfl .nil) rfl [] [] rfl rfl rfl rfl rfl ⟨rfl, rfl, rfl⟩
end Go.Proofs.Ytajjeemkdjfilaa.K
namespace Go.Proofs.Ytajjeemkdjfilaa.K
open Go Go.RowKit
set_option linter.unusedVariables false
set_option linter.unusedSimpArgs false
def spec_EqualJoiners.l0 : Nat → Int → Int → Int → Int → Int → (List S44) → (List S44) → Option (Bool)
 | 0, _, _, _, _, _, _, _ => none
 | k + 1, x2_5, x2_2_1, x2_2_2, x2_3_1, x2_3_2, l0_0, l1_0 => if x2_5 < (l0_0.length : Int) then (if 0 ≤ x2_5 then (if x2_5 < (l1_0.length : Int) then ((spec_EqualTasks.f k ((rd_T44 l0_0 x2_5).f0) ((rd_T44 l0_0 x2_5).f1) ((rd_T44 l0_0 x2_5).f2) ((rd_T44 l0_0 x2_5).f3) ((rd_T44 l0_0 x2_5).f4) ((rd_T44 l1_0 x2_5).f0) ((rd_T44 l1_0 x2_5).f1) ((rd_T44 l1_0 x2_5).f2) ((rd_T44 l1_0 x2_5).f3) ((rd_T44 l1_0 x2_5).f4)).bind fun t13 => (if t13 = true then (spec_EqualJoiners.l0 k (wrap64 (x2_5 + 1)) x2_2_1 x2_2_2 x2_3_1 x2_3_2 l0_0 l1_0) else (some false))) else none) else none) else (some true)
def spec_EqualJoiners.f (k : Nat) (l0_0 : List S44) (a0_1 : Int) (a0_2 : Int) (l1_0 : List S44) (a1_1 : Int) (a1_2 : Int) : Option (Bool) := if a0_1 = a1_1 then (if a0_2 = a1_2 then (if (l0_0.length : Int) = (l1_0.length : Int) then (spec_EqualJoiners.l0 k 0 a0_1 a0_2 a1_1 a1_2 l0_0 l1_0) else (some false)) else (some false)) else (some false)
set_option maxHeartbeats 4000000 in
set_option maxRecDepth 100000 in
theorem spec_EqualJoiners.ok (k : Nat) (l0_0 : List S44) (Al0_0 : Option Addr) (cl0_0 : Nat) (a0_1 : Int) (a0_2 : Int) (l1_0 : List S44) (Al1_0 : Option Addr) (cl1_0 : Nat) (a1_1 : Int) (a1_2 : Int) (r0 : Bool) (H : spec_EqualJoiners.f k l0_0 a0_1 a0_2 l1_0 a1_1 a1_2 = some r0) : Fn Try.prog 56 [.agg #[.slice Al0_0 l0_0.length cl0_0, .int .i64 a0_1, .int .i64 a0_2], .agg #[.slice Al1_0 l1_0.length cl1_0, .int .i64 a1_1, .int .i64 a1_2]] [] [.sl 0 k44 Al0_0 cl0_0 l0_0 0 false, .sl 0 k44 Al1_0 cl1_0 l1_0 0 false] (fun v bx en => v = .bool r0 ∧ bx = [] ∧ en = []) := by
 refine fn_ 46 Try.func56 rfl rfl rfl (fun base T w0 => ?_)
 rw [spec_EqualJoiners.f] at H
 refine gs (rg (so rfl (op_box (cs := [.slice Al0_0 l0_0.length cl0_0, .int .i64 a0_1, .int .i64 a0_2]) rfl rfl rfl fun b2 => (so rfl (op_box (cs := [.slice Al1_0 l1_0.length cl1_0, .int .i64 a1_1, .int .i64 a1_2]) rfl rfl rfl fun b3 => (sv (EV.as rfl) rfl (re (gs (gs (rg (sv (EV.fa 1 rfl) rfl (sv (EV.ld 0 none rfl rfl rfl) rfl (sv (EV.fa 1 rfl) rfl (sv (EV.ld 1 none rfl rfl rfl) rfl (sv (EV.neq rfl rfl) rfl (sv (EV.mv rfl) rfl ?_))))))))))))))))
 revert H; refine ifsI ?_ ?_ <;> intro c1 H
 ·
  refine ts 11 rfl (nF c1) (sv (EV.fa 2 rfl) rfl (sv (EV.ld 0 none rfl rfl rfl) rfl (sv (EV.fa 2 rfl) rfl (sv (EV.ld 1 none rfl rfl rfl) rfl (sv (EV.neq rfl rfl) rfl (sv (EV.pf rfl rfl rfl) rfl (sv (EV.mv rfl) rfl ?_)))))))
  revert H; refine ifsI ?_ ?_ <;> intro c2 H
  ·
   refine ts 18 rfl (nF c2) (sv (EV.fa 0 rfl) rfl (sv (EV.ld 0 none rfl rfl rfl) rfl (sv (EV.ln rfl) rfl (sv (EV.fa 0 rfl) rfl (sv (EV.ld 1 none rfl rfl rfl) rfl (sv (EV.ln rfl) rfl (sv (EV.neq rfl rfl) rfl (sv (EV.pf rfl rfl rfl) rfl (re (pr [2, 3, 26] [0, 1] [0, 1] rfl rfl rfl rfl ?_))))))))))
   revert H; refine ifsI ?_ ?_ <;> intro c3 H
   ·
    refine gf rfl (nF c3) (gk (gs (gs (rg (sv (EV.as rfl) rfl (re (gb ?_)))))))
    refine lo (fun kk S => ∃ (x2_5 : Int) (x2_2_1 : Int) (x2_2_2 : Int) (x2_3_1 : Int) (x2_3_2 : Int), spec_EqualJoiners.l0 kk x2_5 x2_2_1 x2_2_2 x2_3_1 x2_3_2 l0_0 l1_0 = some r0 ∧ S = ⟨[(2, .pointer (some ⟨b2, 0, none⟩)), (3, .pointer (some ⟨b3, 0, none⟩)), (5, .int .i64 x2_5)], [⟨b2, 73, [.slice Al0_0 l0_0.length cl0_0, .int .i64 x2_2_1, .int .i64 x2_2_2]⟩, ⟨b3, 73, [.slice Al1_0 l1_0.length cl1_0, .int .i64 x2_3_1, .int .i64 x2_3_2]⟩], [.sl 0 k44 Al0_0 cl0_0 l0_0 0 false, .sl 0 k44 Al1_0 cl1_0 l1_0 0 false]⟩) (fun S hS => ?_) (fun n0 ih0 S hS => ?_) ⟨0, a0_1, a0_2, a1_1, a1_2, H, rfl⟩ (fun h => wk [2, 3, 5] [0, 1] [⟨0, 0, 0, false⟩, ⟨1, 0, 0, false⟩] h)
    · clear H; obtain ⟨_, _, _, _, _, H, _⟩ := hS; rw [spec_EqualJoiners.l0] at H; cases H
    clear H
    obtain ⟨x2_5, x2_2_1, x2_2_2, x2_3_1, x2_3_2, H, rfl⟩ := hS
    rw [spec_EqualJoiners.l0] at H
    refine gs (gs (rg (sv (EV.mv rfl) rfl (sv (EV.fa 0 rfl) rfl (sv (EV.ld 0 none rfl rfl rfl) rfl (sv (EV.ln rfl) rfl (sv (EV.lss rfl rfl) rfl (re ?_))))))))
    revert H; refine ifsI ?_ ?_ <;> intro c4 H
    ·
     refine gt rfl (dT c4) (gk (gs (gb (gs ?_))))
     revert H; refine ggI ?_; intro g5 H
     refine opn (i := x2_5) 0 z44 rfl g5 c4 fun A_6 c_6 A_7 c_7 A_8 c_8 => ?_
     revert H; refine ggI ?_; intro g9 H
     refine opn (i := x2_5) 1 z44 rfl g5 g9 fun A_10 c_10 A_11 c_11 A_12 c_12 => (dr [0, 1] [0, 1, 2, 3, 4, 5, 6, 7, 8, 9] [] 12 rfl rfl rfl rfl (xv 0 [0, 1] [0, 1, 2, 3, 4, 5, 6, 7, 8, 9] rfl (EV.fa 0 rfl) rfl rfl rfl rfl (xv 1 [0, 1] [0, 1, 2, 3, 4, 5, 6, 7, 8, 9] rfl (EV.ld 0 none rfl rfl rfl) rfl rfl rfl rfl (xv 2 [0, 1] [0, 1, 2, 3, 4, 5, 6, 7, 8, 9] rfl (EV.mv rfl) rfl rfl rfl rfl (xv 3 [0, 1] [0, 1, 2, 3, 4, 5, 6, 7, 8, 9] rfl (EV.ix 0 rfl rfl rfl g5 c4 rfl) rfl rfl rfl rfl (xv 4 [0, 1] [0, 1, 2, 3, 4, 5, 6, 7, 8, 9] rfl (EV.lc (v := .agg #[.int .i64 ((rd_T44 l0_0 x2_5).f0), .slice A_6 ((rd_T44 l0_0 x2_5).f1).length c_6, .slice A_7 ((rd_T44 l0_0 x2_5).f2).length c_7, .slice A_8 ((rd_T44 l0_0 x2_5).f3).length c_8, .int .i64 ((rd_T44 l0_0 x2_5).f4)]) 0 (some 5) 2 rfl rfl rfl rfl) rfl rfl rfl rfl (xv 5 [0, 1] [0, 1, 2, 3, 4, 5, 6, 7, 8, 9] rfl (EV.fa 0 rfl) rfl rfl rfl rfl (xv 6 [0, 1] [0, 1, 2, 3, 4, 5, 6, 7, 8, 9] rfl (EV.ld 1 none rfl rfl rfl) rfl rfl rfl rfl (xv 7 [0, 1] [0, 1, 2, 3, 4, 5, 6, 7, 8, 9] rfl (EV.mv rfl) rfl rfl rfl rfl (xv 8 [0, 1] [0, 1, 2, 3, 4, 5, 6, 7, 8, 9] rfl (EV.ix 1 rfl rfl rfl g5 g9 rfl) rfl rfl rfl rfl (xv 9 [0, 1] [0, 1, 2, 3, 4, 5, 6, 7, 8, 9] rfl (EV.lc (v := .agg #[.int .i64 ((rd_T44 l1_0 x2_5).f0), .slice A_10 ((rd_T44 l1_0 x2_5).f1).length c_10, .slice A_11 ((rd_T44 l1_0 x2_5).f2).length c_11, .slice A_12 ((rd_T44 l1_0 x2_5).f3).length c_12, .int .i64 ((rd_T44 l1_0 x2_5).f4)]) 0 (some 5) 6 rfl rfl rfl rfl) rfl rfl rfl rfl (one1 10 rfl rfl ?_))))))))))))
     revert H; refine bdI ?_; rintro t13 A13 H
     refine op_call (spec_EqualTasks.ok n0 ((rd_T44 l0_0 x2_5).f0) ((rd_T44 l0_0 x2_5).f1) A_6 c_6 ((rd_T44 l0_0 x2_5).f2) A_7 c_7 ((rd_T44 l0_0 x2_5).f3) A_8 c_8 ((rd_T44 l0_0 x2_5).f4) ((rd_T44 l1_0 x2_5).f0) ((rd_T44 l1_0 x2_5).f1) A_10 c_10 ((rd_T44 l1_0 x2_5).f2) A_11 c_11 ((rd_T44 l1_0 x2_5).f3) A_12 c_12 ((rd_T44 l1_0 x2_5).f4) _ A13) [⟨3, 0, 0, false⟩, ⟨4, 0, 0, false⟩, ⟨5, 0, 0, false⟩, ⟨7, 0, 0, false⟩, ⟨8, 0, 0, false⟩, ⟨9, 0, 0, false⟩] 1 rfl rfl rfl rfl rfl ?_
     rintro _ _ _ ⟨rfl, rfl, rfl⟩
     refine xs [0, 1] [0, 1, 2, 3, 4, 5, 6, 7, 8, 9] rfl rfl rfl (xv 11 [0, 1] [0, 1, 2, 3, 4, 5, 6, 7, 8, 9] rfl (EV.nt rfl) rfl rfl rfl rfl (xd (pr [2, 3, 5, 45] [0, 1] [0, 1] rfl rfl rfl rfl ?_)))
     revert H; refine ifsI ?_ ?_ <;> intro c14 H
     ·
      subst c14
      exact gf rfl rfl (gk (ge (rg (sv (EV.mv rfl) rfl (sv (EV.add rfl rfl) rfl (sv (EV.as rfl) rfl (re (wk [2, 3, 5] [0, 1] [⟨0, 0, 0, false⟩, ⟨1, 0, 0, false⟩] (ih0 _ (by omega) _ ⟨wrap64 (x2_5 + 1), x2_2_1, x2_2_2, x2_3_1, x2_3_2, H, rfl⟩)))))))))
     ·
      obtain rfl := bF c14
      refine gt rfl rfl (gs (rg (sv (EV.as rfl) rfl (re ?_))))
      cases H
      exact rt Try.func56 rfl (.tmp rfl .nil) rfl [] [] rfl rfl rfl rfl rfl ⟨rfl, rfl, rfl⟩
    ·
     refine gf rfl (dF c4) (gx rfl (gs (rg (sv (EV.as rfl) rfl (re (pr [4] [] [] rfl rfl rfl rfl ?_))))))
     cases H
     exact rt Try.func56 rfl (.tmp rfl .nil) rfl [] [] rfl rfl rfl rfl rfl ⟨rfl, rfl, rfl⟩
   ·
    refine gt rfl (nT c3) (gs (rg (sv (EV.as rfl) rfl (re ?_))))
    cases H
    exact rt Try.func56 rfl (.tmp rfl .nil) rfl [] [] rfl rfl rfl rfl rfl ⟨rfl, rfl, rfl⟩
  ·
   refine ts 18 rfl (nT c2) (sk rfl (sk rfl (sk rfl (sk rfl (sk rfl (sk rfl (sk rfl (sv (EV.pt rfl rfl rfl) rfl (re (pr [2, 3, 26] [0, 1] [0, 1] rfl rfl rfl rfl (gt rfl rfl (gs (rg (sv (EV.as rfl) rfl (re ?_)))))))))))))))
   cases H
   exact rt Try.func56 rfl (.tmp rfl .nil) rfl [] [] rfl rfl rfl rfl rfl ⟨rfl, rfl, rfl⟩
 ·
  refine ts 11 rfl (nT c1) (sk rfl (sk rfl (sk rfl (sk rfl (sk rfl (sv (EV.pt rfl rfl rfl) rfl (sv (EV.mv rfl) rfl (sk rfl (sk rfl (sk rfl (sk rfl (sk rfl (sk rfl (sk rfl (sv (EV.pt rfl rfl rfl) rfl (re (pr [2, 3, 26] [0, 1] [0, 1] rfl rfl rfl rfl (gt rfl rfl (gs (rg (sv (EV.as rfl) rfl (re ?_))))))))))))))))))))))
  cases H
  exact rt Try.func56 rfl (.tmp rfl .nil) rfl [] [] rfl rfl rfl rfl rfl ⟨rfl, rfl, rfl⟩
end Go.Proofs.Ytajjeemkdjfilaa.K
namespace Go.Proofs.Ytajjeemkdjfilaa.K
open Go Go.RowKit
set_option linter.unusedVariables false
set_option linter.unusedSimpArgs false
def impl_PendingRows.l0 : Nat → Int → Int → Int → (List S44) → Option (Int)
 | 0, _, _, _, _ => none
 | k + 1, x2_3, x2_8, x2_9, l0_0 => if x2_9 < x2_8 then (if 0 ≤ x2_9 then (if x2_9 < (l0_0.length : Int) then (impl_PendingRows.l0 k (wrap64 (x2_3 + (wrap64 ((((rd_T44 l0_0 x2_9).f1).length : Int) + (((rd_T44 l0_0 x2_9).f2).length : Int))))) x2_8 (wrap64 (x2_9 + 1)) l0_0) else none) else none) else (some x2_3)
def impl_PendingRows.f (k : Nat) (l0_0 : List S44) (a0_1 : Int) (a0_2 : Int) : Option (Int) := impl_PendingRows.l0 k 0 (l0_0.length : Int) 0 l0_0
set_option maxHeartbeats 4000000 in
set_option maxRecDepth 100000 in
theorem impl_PendingRows.ok (k : Nat) (l0_0 : List S44) (Al0_0 : Option Addr) (cl0_0 : Nat) (a0_1 : Int) (a0_2 : Int) (r0 : Int) (H : impl_PendingRows.f k l0_0 a0_1 a0_2 = some r0) : Fn Try.prog 59 [.agg #[.slice Al0_0 l0_0.length cl0_0, .int .i64 a0_1, .int .i64 a0_2]] [] [.sl 0 k44 Al0_0 cl0_0 l0_0 0 false] (fun v bx en => v = .int .i64 r0 ∧ bx = [] ∧ en = []) := by
 refine fn_ 24 Try.func59 rfl rfl rfl (fun base T w0 => ?_)
 rw [impl_PendingRows.f] at H
 refine gs (rg (so rfl (op_box (cs := [.slice Al0_0 l0_0.length cl0_0, .int .i64 a0_1, .int .i64 a0_2]) rfl rfl rfl fun b1 => (sv (EV.as rfl) rfl (re (gs (rg (sv (EV.as rfl) rfl (re (gs (gs (rg (sv (EV.fa 0 rfl) rfl (sv (EV.ld 0 none rfl rfl rfl) rfl (sv (EV.ln rfl) rfl (sv (EV.mv rfl) rfl (re (gb ?_))))))))))))))))))
 refine lo (fun kk S => ∃ (x2_3 : Int) (x2_8 : Int) (x2_9 : Int), impl_PendingRows.l0 kk x2_3 x2_8 x2_9 l0_0 = some r0 ∧ S = ⟨[(3, .int .i64 x2_3), (7, .slice Al0_0 l0_0.length cl0_0), (8, .int .i64 x2_8), (9, .int .i64 x2_9)], [], [.sl 0 k44 Al0_0 cl0_0 l0_0 0 false]⟩) (fun S hS => ?_) (fun n0 ih0 S hS => ?_) ⟨0, (l0_0.length : Int), 0, H, rfl⟩ (fun h => wk [3, 7, 8, 9] [] [⟨0, 0, 0, false⟩] h)
 · clear H; obtain ⟨_, _, _, H, _⟩ := hS; rw [impl_PendingRows.l0] at H; cases H
 clear H
 obtain ⟨x2_3, x2_8, x2_9, H, rfl⟩ := hS
 rw [impl_PendingRows.l0] at H
 refine gs (rg (sv (EV.lss rfl rfl) rfl (re (gs ?_))))
 revert H; refine ifsI ?_ ?_ <;> intro c1 H
 ·
  refine gt rfl (dT c1) (gk (gs (gb (gs (rg ?_)))))
  revert H; refine ggI ?_; intro g2 H
  revert H; refine ggI ?_; intro g3 H
  exact sv (EV.ix 0 rfl rfl rfl g2 g3 rfl) rfl (opn (i := x2_9) 0 z44 rfl g2 g3 fun A_4 c_4 A_5 c_5 A_6 c_6 => (sv (EV.lc (v := .agg #[.int .i64 ((rd_T44 l0_0 x2_9).f0), .slice A_4 ((rd_T44 l0_0 x2_9).f1).length c_4, .slice A_5 ((rd_T44 l0_0 x2_9).f2).length c_5, .slice A_6 ((rd_T44 l0_0 x2_9).f3).length c_6, .int .i64 ((rd_T44 l0_0 x2_9).f4)]) 0 (some 5) 1 rfl rfl rfl rfl) rfl (so rfl (op_alloc (cs := [.int .i64 0, .slice none 0 0, .slice none 0 0, .slice none 0 0, .int .i64 0]) (by kernel_rfl) rfl fun b5 => (so rfl (op_st (cs' := [.int .i64 ((rd_T44 l0_0 x2_9).f0), .slice A_4 ((rd_T44 l0_0 x2_9).f1).length c_4, .slice A_5 ((rd_T44 l0_0 x2_9).f2).length c_5, .slice A_6 ((rd_T44 l0_0 x2_9).f3).length c_6, .int .i64 ((rd_T44 l0_0 x2_9).f4)]) 0 rfl rfl rfl rfl rfl rfl (re (rg (sv (EV.mv rfl) rfl (sv (EV.fa 1 rfl) rfl (sv (EV.ld 0 none rfl rfl rfl) rfl (sv (EV.ln rfl) rfl (sv (EV.fa 2 rfl) rfl (sv (EV.ld 0 none rfl rfl rfl) rfl (sv (EV.ln rfl) rfl (sv (EV.add rfl rfl) rfl (sv (EV.add rfl rfl) rfl (sv (EV.as rfl) rfl (re (pr [3, 7, 8, 9] [] [0] rfl rfl rfl rfl (ge (rg (sv (EV.add rfl rfl) rfl (sv (EV.mv rfl) rfl (re (wk [3, 7, 8, 9] [] [⟨0, 0, 0, false⟩] (ih0 _ (by omega) _ ⟨wrap64 (x2_3 + (wrap64 ((((rd_T44 l0_0 x2_9).f1).length : Int) + (((rd_T44 l0_0 x2_9).f2).length : Int)))), x2_8, wrap64 (x2_9 + 1), H, rfl⟩)))))))))))))))))))))))))))
 ·
  refine gf rfl (dF c1) (gx rfl (gs (rg (sv (EV.mv rfl) rfl (sv (EV.as rfl) rfl (re (pr [2] [] [] rfl rfl rfl rfl ?_)))))))
  cases H
  exact rt Try.func59 rfl (.tmp rfl .nil) rfl [] [] rfl rfl rfl rfl rfl ⟨rfl, rfl, rfl⟩
end Go.Proofs.Ytajjeemkdjfilaa.K
namespace Go.Proofs.Ytajjeemkdjfilaa.K
open Go Go.RowKit
set_option linter.unusedVariables false
set_option linter.unusedSimpArgs false
def spec_PendingRows.l0 : Nat → Int → Int → Int → Int → (List S44) → Option (Int)
 | 0, _, _, _, _, _ => none
 | k + 1, x2_3, x2_4, x2_1_1, x2_1_2, l0_0 => if x2_4 < (l0_0.length : Int) then (if 0 ≤ x2_4 then (spec_PendingRows.l0 k (wrap64 ((wrap64 (x2_3 + (((rd_T44 l0_0 x2_4).f1).length : Int))) + (((rd_T44 l0_0 x2_4).f2).length : Int))) (wrap64 (x2_4 + 1)) x2_1_1 x2_1_2 l0_0) else none) else (some x2_3)
def spec_PendingRows.f (k : Nat) (l0_0 : List S44) (a0_1 : Int) (a0_2 : Int) : Option (Int) := spec_PendingRows.l0 k 0 0 a0_1 a0_2 l0_0
set_option maxHeartbeats 4000000 in
set_option maxRecDepth 100000 in
theorem spec_PendingRows.ok (k : Nat) (l0_0 : List S44) (Al0_0 : Option Addr) (cl0_0 : Nat) (a0_1 : Int) (a0_2 : Int) (r0 : Int) (H : spec_PendingRows.f k l0_0 a0_1 a0_2 = some r0) : Fn Try.prog 60 [.agg #[.slice Al0_0 l0_0.length cl0_0, .int .i64 a0_1, .int .i64 a0_2]] [] [.sl 0 k44 Al0_0 cl0_0 l0_0 0 false] (fun v bx en => v = .int .i64 r0 ∧ bx = [] ∧ en = []) := by
 refine fn_ 30 Try.func60 rfl rfl rfl (fun base T w0 => ?_)
 rw [spec_PendingRows.f] at H
 refine gs (rg (so rfl (op_box (cs := [.slice Al0_0 l0_0.length cl0_0, .int .i64 a0_1, .int .i64 a0_2]) rfl rfl rfl fun b1 => (sv (EV.as rfl) rfl (re (gs (rg (sv (EV.as rfl) rfl (re (gs (gs (rg (sv (EV.as rfl) rfl (re (gb ?_)))))))))))))))
 refine lo (fun kk S => ∃ (x2_3 : Int) (x2_4 : Int) (x2_1_1 : Int) (x2_1_2 : Int), spec_PendingRows.l0 kk x2_3 x2_4 x2_1_1 x2_1_2 l0_0 = some r0 ∧ S = ⟨[(1, .pointer (some ⟨b1, 0, none⟩)), (3, .int .i64 x2_3), (4, .int .i64 x2_4)], [⟨b1, 73, [.slice Al0_0 l0_0.length cl0_0, .int .i64 x2_1_1, .int .i64 x2_1_2]⟩], [.sl 0 k44 Al0_0 cl0_0 l0_0 0 false]⟩) (fun S hS => ?_) (fun n0 ih0 S hS => ?_) ⟨0, 0, a0_1, a0_2, H, rfl⟩ (fun h => wk [1, 3, 4] [0] [⟨0, 0, 0, false⟩] h)
 · clear H; obtain ⟨_, _, _, _, H, _⟩ := hS; rw [spec_PendingRows.l0] at H; cases H
 clear H
 obtain ⟨x2_3, x2_4, x2_1_1, x2_1_2, H, rfl⟩ := hS
 rw [spec_PendingRows.l0] at H
 refine gs (gs (rg (sv (EV.mv rfl) rfl (sv (EV.fa 0 rfl) rfl (sv (EV.ld 0 none rfl rfl rfl) rfl (sv (EV.ln rfl) rfl (sv (EV.lss rfl rfl) rfl (re ?_))))))))
 revert H; refine ifsI ?_ ?_ <;> intro c1 H
 ·
  refine gt rfl (dT c1) (gk (gs (gb ?_)))
  revert H; refine ggI ?_; intro g2 H
  exact opn (i := x2_4) 0 z44 rfl g2 c1 fun A_3 c_3 A_4 c_4 A_5 c_5 => (dr [0] [0, 1, 2, 3, 4] [] 18 rfl rfl rfl rfl (xv 0 [0] [0, 1, 2, 3, 4] rfl (EV.mv rfl) rfl rfl rfl rfl (xv 1 [0] [0, 1, 2, 3, 4] rfl (EV.fa 0 rfl) rfl rfl rfl rfl (xv 2 [0] [0, 1, 2, 3, 4] rfl (EV.ld 0 none rfl rfl rfl) rfl rfl rfl rfl (xv 3 [0] [0, 1, 2, 3, 4] rfl (EV.mv rfl) rfl rfl rfl rfl (xv 4 [0] [0, 1, 2, 3, 4] rfl (EV.ix 0 rfl rfl rfl g2 c1 rfl) rfl rfl rfl rfl (xv 5 [0] [0, 1, 2, 3, 4] rfl (EV.fa 1 rfl) rfl rfl rfl rfl (xv 6 [0] [0, 1, 2, 3, 4] rfl (EV.lc (v := .slice A_3 ((rd_T44 l0_0 x2_4).f1).length c_3) 1 none 1 rfl rfl rfl rfl) rfl rfl rfl rfl (xv 7 [0] [0, 1, 2, 3, 4] rfl (EV.ln rfl) rfl rfl rfl rfl (xv 8 [0] [0, 1, 2, 3, 4] rfl (EV.add rfl rfl) rfl rfl rfl rfl (xv 9 [0] [0, 1, 2, 3, 4] rfl (EV.fa 0 rfl) rfl rfl rfl rfl (xv 10 [0] [0, 1, 2, 3, 4] rfl (EV.ld 0 none rfl rfl rfl) rfl rfl rfl rfl (xv 11 [0] [0, 1, 2, 3, 4] rfl (EV.mv rfl) rfl rfl rfl rfl (xv 12 [0] [0, 1, 2, 3, 4] rfl (EV.ix 0 rfl rfl rfl g2 c1 rfl) rfl rfl rfl rfl (xv 13 [0] [0, 1, 2, 3, 4] rfl (EV.fa 2 rfl) rfl rfl rfl rfl (xv 14 [0] [0, 1, 2, 3, 4] rfl (EV.lc (v := .slice A_4 ((rd_T44 l0_0 x2_4).f2).length c_4) 2 none 1 rfl rfl rfl rfl) rfl rfl rfl rfl (xv 15 [0] [0, 1, 2, 3, 4] rfl (EV.ln rfl) rfl rfl rfl rfl (xv 16 [0] [0, 1, 2, 3, 4] rfl (EV.add rfl rfl) rfl rfl rfl rfl (xv 17 [0] [0, 1, 2, 3, 4] rfl (EV.as rfl) rfl rfl rfl rfl (xd (pr [1, 3, 4] [0] [0] rfl rfl rfl rfl (ge (rg (sv (EV.mv rfl) rfl (sv (EV.add rfl rfl) rfl (sv (EV.as rfl) rfl (re (wk [1, 3, 4] [0] [⟨0, 0, 0, false⟩] (ih0 _ (by omega) _ ⟨wrap64 ((wrap64 (x2_3 + (((rd_T44 l0_0 x2_4).f1).length : Int))) + (((rd_T44 l0_0 x2_4).f2).length : Int)), wrap64 (x2_4 + 1), x2_1_1, x2_1_2, H, rfl⟩)))))))))))))))))))))))))))))
 ·
  refine gf rfl (dF c1) (gx rfl (gs (rg (sv (EV.mv rfl) rfl (sv (EV.as rfl) rfl (re (pr [2] [] [] rfl rfl rfl rfl ?_)))))))
  cases H
  exact rt Try.func60 rfl (.tmp rfl .nil) rfl [] [] rfl rfl rfl rfl rfl ⟨rfl, rfl, rfl⟩
end Go.Proofs.Ytajjeemkdjfilaa.K
namespace Go.Proofs.Ytajjeemkdjfilaa.K
open Go Go.RowKit
set_option linter.unusedVariables false
set_option linter.unusedSimpArgs false
def laws_big.f (l0 : List Int) : Option (Bool) := some (decide ((l0.length : Int) > 1048576))
set_option maxHeartbeats 4000000 in
set_option maxRecDepth 100000 in
theorem laws_big.ok (l0 : List Int) (Al0 : Option Addr) (cl0 : Nat) (r0 : Bool) (H : laws_big.f l0 = some r0) : Fn Try.prog 9 [.slice Al0 l0.length cl0] [] [.sl 0 (.int .u8) Al0 cl0 l0 0 false] (fun v bx en => v = .bool r0 ∧ bx = [] ∧ en = []) := by
 refine fn_ 6 Try.func9 rfl rfl rfl (fun base T w0 => ?_)
 rw [laws_big.f] at H
 refine gs (rg (sv (EV.as rfl) rfl (re (gs (rg (sv (EV.mv rfl) rfl (sv (EV.ln rfl) rfl (sv (EV.gtr rfl rfl) rfl (sv (EV.as rfl) rfl (re ?_))))))))))
 cases H
 exact rt Try.func9 rfl (.tmp rfl .nil) rfl [] [] rfl rfl rfl rfl rfl ⟨rfl, rfl, rfl⟩
end Go.Proofs.Ytajjeemkdjfilaa.K
namespace Go.Proofs.Ytajjeemkdjfilaa.K
open Go Go.RowKit
set_option linter.unusedVariables false
set_option linter.unusedSimpArgs false
def laws_FnJoinerMemory.f (k : Nat) (l0 : List Int) : Option (Bool) := (laws_big.f l0).bind fun t1 => (if t1 = true then (some true) else ((spec_DrawStepJoiner.f k l0).bind fun bt3 => ((impl_StepJoiner.f k bt3.1 bt3.2.1 bt3.2.2.1 bt3.2.2.2).bind fun bt4 => ((spec_StepJoiner.f k bt3.1 bt3.2.1 bt3.2.2.1 bt3.2.2.2).bind fun bt5 => (if (bt4.2.2.2.2.2 == bt5.2.2.2.2.2) = true then (if bt4.2.2.2.2.1 = bt5.2.2.2.2.1 then ((spec_EqualJoiners.f k bt4.1 bt4.2.1 bt4.2.2.1 bt5.1 bt5.2.1 bt5.2.2.1).bind fun t8 => (if t8 = true then ((spec_EqualPairBags.f k bt4.2.2.2.1 bt5.2.2.2.1).bind fun t10 => (if t10 = true then ((impl_IsValidJoiner.f k bt3.1 bt3.2.1 bt3.2.2.1).bind fun t12 => ((spec_IsValidJoiner.f k bt3.1 bt3.2.1 bt3.2.2.1).bind fun t13 => (if (t12 == t13) = true then (if bt4.2.2.2.2.2 = true then (if bt4.2.2.2.2.1 ≤ bt3.2.2.2 then ((impl_PendingRows.f k bt4.1 bt4.2.1 bt4.2.2.1).bind fun t17 => ((impl_PendingRows.f k bt3.1 bt3.2.1 bt3.2.2.1).bind fun t18 => (if t17 ≤ t18 then (if bt4.2.1 ≥ bt3.2.1 then (if bt4.2.2.1 ≥ bt3.2.2.1 then ((impl_PendingRows.f k bt4.1 bt4.2.1 bt4.2.2.1).bind fun t22 => ((spec_PendingRows.f k bt5.1 bt5.2.1 bt5.2.2.1).bind fun t23 => (some (decide (t22 = t23))))) else (some false)) else (some false)) else (some false)))) else (some false)) else ((spec_EqualJoiners.f k bt4.1 bt4.2.1 bt4.2.2.1 bt3.1 bt3.2.1 bt3.2.2.1).bind fun t24 => (if t24 = true then (if (bt4.2.2.2.1.length : Int) = 0 then (some (decide (bt4.2.2.2.2.1 = 0))) else (some false)) else (some false)))) else (some false)))) else (some false))) else (some false))) else (some false)) else (some false))))))
set_option maxHeartbeats 4000000 in
set_option maxRecDepth 100000 in
theorem laws_FnJoinerMemory.ok (k : Nat) (l0 : List Int) (Al0 : Option Addr) (cl0 : Nat) (r0 : Bool) (H : laws_FnJoinerMemory.f k l0 = some r0) : Fn Try.prog 8 [.slice Al0 l0.length cl0] [] [.sl 0 (.int .u8) Al0 cl0 l0 0 false] (fun v bx en => v = .bool r0 ∧ bx = [] ∧ en = []) := by
 refine fn_ 108 Try.func8 rfl rfl rfl (fun base T w0 => ?_)
 rw [laws_FnJoinerMemory.f] at H
 refine gs (rg (sv (EV.as rfl) rfl (re (gs (gs (rg (sv (EV.mv rfl) rfl ?_)))))))
 revert H; refine bdI ?_; rintro t1 A1 H
 refine so rfl (op_call (laws_big.ok l0 Al0 cl0 _ A1) [⟨0, 0, 0, false⟩] 1 rfl rfl rfl rfl rfl ?_)
 rintro _ _ _ ⟨rfl, rfl, rfl⟩
 refine re ?_
 revert H; refine ifsI ?_ ?_ <;> intro c2 H
 ·
  subst c2
  refine gt rfl rfl (gs (rg (sv (EV.as rfl) rfl (re ?_))))
  cases H
  exact rt Try.func8 rfl (.tmp rfl .nil) rfl [] [] rfl rfl rfl rfl rfl ⟨rfl, rfl, rfl⟩
 ·
  obtain rfl := bF c2
  refine gf rfl rfl (gk (gs (rg (sv (EV.mv rfl) rfl ?_))))
  revert H; refine bdI ?_; rintro ⟨t3_0, t3_1, t3_2, t3_3⟩ A3 H
  refine so rfl (op_call (spec_DrawStepJoiner.ok k l0 Al0 cl0 _ _ _ _ A3) [⟨0, 0, 0, false⟩] 1 rfl rfl rfl rfl rfl ?_)
  rintro _ _ _ ⟨At3_0, ct3_0, rfl, rfl, rfl⟩
  refine sv (EV.mv rfl) rfl (sv (EV.ex rfl rfl) rfl (sv (EV.ex rfl rfl) rfl (so rfl (op_alloc (cs := [.slice none 0 0, .int .i64 0, .int .i64 0]) (by kernel_rfl) rfl fun b3 => (so rfl (op_st (cs' := [.slice At3_0 t3_0.length ct3_0, .int .i64 t3_1, .int .i64 t3_2]) 0 rfl rfl rfl rfl rfl rfl (sv (EV.as rfl) rfl (re (pr [3, 4] [0] [1] rfl rfl rfl rfl (gs (rg (sv (EV.ld (v := .agg #[.slice At3_0 t3_0.length ct3_0, .int .i64 t3_1, .int .i64 t3_2]) 0 (some 3) rfl rfl rfl) rfl (sv (EV.mv rfl) rfl ?_)))))))))))))
  revert H; refine bdI ?_; rintro ⟨t4_0, t4_1, t4_2, t4_3, t4_4, t4_5⟩ A4 H
  refine so rfl (op_call (impl_StepJoiner.ok k t3_0 At3_0 ct3_0 t3_1 t3_2 t3_3 _ _ _ _ _ _ A4) [⟨0, 0, 0, false⟩] 3 rfl rfl rfl rfl rfl ?_)
  rintro _ _ _ ⟨At4_0, ct4_0, At4_3, ct4_3, rfl, rfl, rfl⟩
  refine sv (EV.mv rfl) rfl (sv (EV.ex rfl rfl) rfl (sv (EV.ex rfl rfl) rfl (sv (EV.ex rfl rfl) rfl (sv (EV.ex rfl rfl) rfl (so rfl (op_alloc (cs := [.slice none 0 0, .int .i64 0, .int .i64 0]) (by kernel_rfl) rfl fun b5 => (so rfl (op_st (cs' := [.slice At4_0 t4_0.length ct4_0, .int .i64 t4_1, .int .i64 t4_2]) 1 rfl rfl rfl rfl rfl rfl (sv (EV.as rfl) rfl (sv (EV.as rfl) rfl (sv (EV.as rfl) rfl (re (pr [3, 4, 5, 6, 7, 8] [0, 1] [0, 1, 2] rfl rfl rfl rfl (gs (rg (sv (EV.ld (v := .agg #[.slice At3_0 t3_0.length ct3_0, .int .i64 t3_1, .int .i64 t3_2]) 0 (some 3) rfl rfl rfl) rfl (sv (EV.mv rfl) rfl ?_)))))))))))))))))
  revert H; refine bdI ?_; rintro ⟨t5_0, t5_1, t5_2, t5_3, t5_4, t5_5⟩ A5 H
  refine so rfl (op_call (spec_StepJoiner.ok k t3_0 At3_0 ct3_0 t3_1 t3_2 t3_3 _ _ _ _ _ _ A5) [⟨0, 0, 0, false⟩] 6 rfl rfl rfl rfl rfl ?_)
  rintro _ _ _ ⟨At5_0, ct5_0, At5_3, ct5_3, rfl, rfl, rfl⟩
  refine sv (EV.mv rfl) rfl (sv (EV.ex rfl rfl) rfl (sv (EV.ex rfl rfl) rfl (sv (EV.ex rfl rfl) rfl (sv (EV.ex rfl rfl) rfl (so rfl (op_alloc (cs := [.slice none 0 0, .int .i64 0, .int .i64 0]) (by kernel_rfl) rfl fun b9 => (so rfl (op_st (cs' := [.slice At5_0 t5_0.length ct5_0, .int .i64 t5_1, .int .i64 t5_2]) 2 rfl rfl rfl rfl rfl rfl (sv (EV.as rfl) rfl (sv (EV.as rfl) rfl (sv (EV.as rfl) rfl (re (pr [3, 4, 5, 6, 7, 8, 9, 10, 11, 12] [0, 1, 2] [0, 1, 2, 3, 4] rfl rfl rfl rfl (gs (gs (dr [0, 1, 2] [0, 1, 2, 3, 4] [] 27 rfl rfl rfl rfl (xv 0 [0, 1, 2] [0, 1, 2, 3, 4] rfl (EV.mv rfl) rfl rfl rfl rfl (xv 1 [0, 1, 2] [0, 1, 2, 3, 4] rfl (EV.mv rfl) rfl rfl rfl rfl (xv 2 [0, 1, 2] [0, 1, 2, 3, 4] rfl (EV.neb rfl rfl) rfl rfl rfl rfl (xv 3 [0, 1, 2] [0, 1, 2, 3, 4] rfl (EV.mv rfl) rfl rfl rfl rfl ?_))))))))))))))))))))
  revert H; refine ifsI ?_ ?_ <;> intro c6 H
  ·
   refine ts 39 rfl (bN c6) (xv 4 [0, 1, 2] [0, 1, 2, 3, 4] rfl (EV.mv rfl) rfl rfl rfl rfl (xv 5 [0, 1, 2] [0, 1, 2, 3, 4] rfl (EV.mv rfl) rfl rfl rfl rfl (xv 6 [0, 1, 2] [0, 1, 2, 3, 4] rfl (EV.neq rfl rfl) rfl rfl rfl rfl (xv 7 [0, 1, 2] [0, 1, 2, 3, 4] rfl (EV.pf rfl rfl rfl) rfl rfl rfl rfl (xv 8 [0, 1, 2] [0, 1, 2, 3, 4] rfl (EV.mv rfl) rfl rfl rfl rfl ?_)))))
   revert H; refine ifsI ?_ ?_ <;> intro c7 H
   ·
    refine ts 44 rfl (nF c7) (xv 9 [0, 1, 2] [0, 1, 2, 3, 4] rfl (EV.ld (v := .agg #[.slice At4_0 t4_0.length ct4_0, .int .i64 t4_1, .int .i64 t4_2]) 1 (some 3) rfl rfl rfl) rfl rfl rfl rfl (xv 10 [0, 1, 2] [0, 1, 2, 3, 4] rfl (EV.ld (v := .agg #[.slice At5_0 t5_0.length ct5_0, .int .i64 t5_1, .int .i64 t5_2]) 2 (some 3) rfl rfl rfl) rfl rfl rfl rfl (one1 11 rfl rfl ?_)))
    revert H; refine bdI ?_; rintro t8 A8 H
    refine op_call (spec_EqualJoiners.ok k t4_0 At4_0 ct4_0 t4_1 t4_2 t5_0 At5_0 ct5_0 t5_1 t5_2 _ A8) [⟨1, 0, 0, false⟩, ⟨3, 0, 0, false⟩] 9 rfl rfl rfl rfl rfl ?_
    rintro _ _ _ ⟨rfl, rfl, rfl⟩
    refine xs [0, 1, 2] [0, 1, 2, 3, 4] rfl rfl rfl (xv 12 [0, 1, 2] [0, 1, 2, 3, 4] rfl (EV.nt rfl) rfl rfl rfl rfl (xv 13 [0, 1, 2] [0, 1, 2, 3, 4] rfl (EV.pf rfl rfl rfl) rfl rfl rfl rfl (xv 14 [0, 1, 2] [0, 1, 2, 3, 4] rfl (EV.mv rfl) rfl rfl rfl rfl ?_)))
    revert H; refine ifsI ?_ ?_ <;> intro c9 H
    ·
     subst c9
     refine ts 50 rfl rfl (xv 15 [0, 1, 2] [0, 1, 2, 3, 4] rfl (EV.mv rfl) rfl rfl rfl rfl (xv 16 [0, 1, 2] [0, 1, 2, 3, 4] rfl (EV.mv rfl) rfl rfl rfl rfl (one1 17 rfl rfl ?_)))
     revert H; refine bdI ?_; rintro t10 A10 H
     refine op_call (spec_EqualPairBags.ok k t4_3 At4_3 ct4_3 t5_3 At5_3 ct5_3 _ A10) [⟨2, 0, 0, false⟩, ⟨4, 0, 0, false⟩] 9 rfl rfl rfl rfl rfl ?_
     rintro _ _ _ ⟨rfl, rfl, rfl⟩
     refine xs [0, 1, 2] [0, 1, 2, 3, 4] rfl rfl rfl (xv 18 [0, 1, 2] [0, 1, 2, 3, 4] rfl (EV.nt rfl) rfl rfl rfl rfl (xv 19 [0, 1, 2] [0, 1, 2, 3, 4] rfl (EV.pf rfl rfl rfl) rfl rfl rfl rfl (xv 20 [0, 1, 2] [0, 1, 2, 3, 4] rfl (EV.mv rfl) rfl rfl rfl rfl ?_)))
     revert H; refine ifsI ?_ ?_ <;> intro c11 H
     ·
      subst c11
      refine ts 56 rfl rfl (xv 21 [0, 1, 2] [0, 1, 2, 3, 4] rfl (EV.ld (v := .agg #[.slice At3_0 t3_0.length ct3_0, .int .i64 t3_1, .int .i64 t3_2]) 0 (some 3) rfl rfl rfl) rfl rfl rfl rfl (xv 23 [0, 1, 2] [0, 1, 2, 3, 4] rfl (EV.ld (v := .agg #[.slice At3_0 t3_0.length ct3_0, .int .i64 t3_1, .int .i64 t3_2]) 0 (some 3) rfl rfl rfl) rfl rfl rfl rfl (one1 22 rfl rfl ?_)))
      revert H; refine bdI ?_; rintro t12 A12 H
      refine op_call (impl_IsValidJoiner.ok k t3_0 At3_0 ct3_0 t3_1 t3_2 _ A12) [⟨0, 0, 0, false⟩] 9 rfl rfl rfl rfl rfl ?_
      rintro _ _ _ ⟨rfl, rfl, rfl⟩
      refine xs [0, 1, 2] [0, 1, 2, 3, 4] rfl rfl rfl (one1 24 rfl rfl ?_)
      revert H; refine bdI ?_; rintro t13 A13 H
      refine op_call (spec_IsValidJoiner.ok k t3_0 At3_0 ct3_0 t3_1 t3_2 _ A13) [⟨0, 0, 0, false⟩] 9 rfl rfl rfl rfl rfl ?_
      rintro _ _ _ ⟨rfl, rfl, rfl⟩
      refine xs [0, 1, 2] [0, 1, 2, 3, 4] rfl rfl rfl (xv 25 [0, 1, 2] [0, 1, 2, 3, 4] rfl (EV.neb rfl rfl) rfl rfl rfl rfl (xv 26 [0, 1, 2] [0, 1, 2, 3, 4] rfl (EV.pf rfl rfl rfl) rfl rfl rfl rfl (xd (pr [3, 4, 5, 6, 7, 8, 9, 62] [0, 1, 2] [0, 1, 2, 3] rfl rfl rfl rfl ?_))))
      revert H; refine ifsI ?_ ?_ <;> intro c14 H
      ·
       refine gf rfl (bN c14) (gk (gs (gs (rg (sv (EV.mv rfl) rfl (sv (EV.nt rfl) rfl (re ?_)))))))
       revert H; refine ifsI ?_ ?_ <;> intro c15 H
       ·
        subst c15
        refine gf rfl rfl (gk (gs (dr [0, 1, 2] [0, 1, 2, 3] [] 32 rfl rfl rfl rfl (xv 0 [0, 1, 2] [0, 1, 2, 3] rfl (EV.mv rfl) rfl rfl rfl rfl (xv 1 [0, 1, 2] [0, 1, 2, 3] rfl (EV.mv rfl) rfl rfl rfl rfl (xv 2 [0, 1, 2] [0, 1, 2, 3] rfl (EV.leq rfl rfl) rfl rfl rfl rfl (xv 3 [0, 1, 2] [0, 1, 2, 3] rfl (EV.mv rfl) rfl rfl rfl rfl ?_)))))))
        revert H; refine ifsI ?_ ?_ <;> intro c16 H
        ·
         refine ts 80 rfl (dT c16) (xv 4 [0, 1, 2] [0, 1, 2, 3] rfl (EV.ld (v := .agg #[.slice At4_0 t4_0.length ct4_0, .int .i64 t4_1, .int .i64 t4_2]) 1 (some 3) rfl rfl rfl) rfl rfl rfl rfl (xv 6 [0, 1, 2] [0, 1, 2, 3] rfl (EV.ld (v := .agg #[.slice At3_0 t3_0.length ct3_0, .int .i64 t3_1, .int .i64 t3_2]) 0 (some 3) rfl rfl rfl) rfl rfl rfl rfl (one1 5 rfl rfl ?_)))
         revert H; refine bdI ?_; rintro t17 A17 H
         refine op_call (impl_PendingRows.ok k t4_0 At4_0 ct4_0 t4_1 t4_2 _ A17) [⟨1, 0, 0, false⟩] 8 rfl rfl rfl rfl rfl ?_
         rintro _ _ _ ⟨rfl, rfl, rfl⟩
         refine xs [0, 1, 2] [0, 1, 2, 3] rfl rfl rfl (one1 7 rfl rfl ?_)
         revert H; refine bdI ?_; rintro t18 A18 H
         refine op_call (impl_PendingRows.ok k t3_0 At3_0 ct3_0 t3_1 t3_2 _ A18) [⟨0, 0, 0, false⟩] 8 rfl rfl rfl rfl rfl ?_
         rintro _ _ _ ⟨rfl, rfl, rfl⟩
         refine xs [0, 1, 2] [0, 1, 2, 3] rfl rfl rfl (xv 8 [0, 1, 2] [0, 1, 2, 3] rfl (EV.leq rfl rfl) rfl rfl rfl rfl (xv 9 [0, 1, 2] [0, 1, 2, 3] rfl (EV.pt rfl rfl rfl) rfl rfl rfl rfl (xv 10 [0, 1, 2] [0, 1, 2, 3] rfl (EV.mv rfl) rfl rfl rfl rfl ?_)))
         revert H; refine ifsI ?_ ?_ <;> intro c19 H
         ·
          refine ts 87 rfl (dT c19) (xv 11 [0, 1, 2] [0, 1, 2, 3] rfl (EV.fa 1 rfl) rfl rfl rfl rfl (xv 12 [0, 1, 2] [0, 1, 2, 3] rfl (EV.ld 1 none rfl rfl rfl) rfl rfl rfl rfl (xv 13 [0, 1, 2] [0, 1, 2, 3] rfl (EV.fa 1 rfl) rfl rfl rfl rfl (xv 14 [0, 1, 2] [0, 1, 2, 3] rfl (EV.ld 0 none rfl rfl rfl) rfl rfl rfl rfl (xv 15 [0, 1, 2] [0, 1, 2, 3] rfl (EV.geq rfl rfl) rfl rfl rfl rfl (xv 16 [0, 1, 2] [0, 1, 2, 3] rfl (EV.pt rfl rfl rfl) rfl rfl rfl rfl (xv 17 [0, 1, 2] [0, 1, 2, 3] rfl (EV.mv rfl) rfl rfl rfl rfl ?_)))))))
          revert H; refine ifsI ?_ ?_ <;> intro c20 H
          ·
           refine ts 94 rfl (dT c20) (xv 18 [0, 1, 2] [0, 1, 2, 3] rfl (EV.fa 2 rfl) rfl rfl rfl rfl (xv 19 [0, 1, 2] [0, 1, 2, 3] rfl (EV.ld 1 none rfl rfl rfl) rfl rfl rfl rfl (xv 20 [0, 1, 2] [0, 1, 2, 3] rfl (EV.fa 2 rfl) rfl rfl rfl rfl (xv 21 [0, 1, 2] [0, 1, 2, 3] rfl (EV.ld 0 none rfl rfl rfl) rfl rfl rfl rfl (xv 22 [0, 1, 2] [0, 1, 2, 3] rfl (EV.geq rfl rfl) rfl rfl rfl rfl (xv 23 [0, 1, 2] [0, 1, 2, 3] rfl (EV.pt rfl rfl rfl) rfl rfl rfl rfl (xv 24 [0, 1, 2] [0, 1, 2, 3] rfl (EV.mv rfl) rfl rfl rfl rfl ?_)))))))
           revert H; refine ifsI ?_ ?_ <;> intro c21 H
           ·
            refine ts 101 rfl (dT c21) (xv 25 [0, 1, 2] [0, 1, 2, 3] rfl (EV.ld (v := .agg #[.slice At4_0 t4_0.length ct4_0, .int .i64 t4_1, .int .i64 t4_2]) 1 (some 3) rfl rfl rfl) rfl rfl rfl rfl (xv 27 [0, 1, 2] [0, 1, 2, 3] rfl (EV.ld (v := .agg #[.slice At5_0 t5_0.length ct5_0, .int .i64 t5_1, .int .i64 t5_2]) 2 (some 3) rfl rfl rfl) rfl rfl rfl rfl (one1 26 rfl rfl ?_)))
            revert H; refine bdI ?_; rintro t22 A22 H
            refine op_call (impl_PendingRows.ok k t4_0 At4_0 ct4_0 t4_1 t4_2 _ A22) [⟨1, 0, 0, false⟩] 8 rfl rfl rfl rfl rfl ?_
            rintro _ _ _ ⟨rfl, rfl, rfl⟩
            refine xs [0, 1, 2] [0, 1, 2, 3] rfl rfl rfl (one1 28 rfl rfl ?_)
            revert H; refine bdI ?_; rintro t23 A23 H
            refine op_call (spec_PendingRows.ok k t5_0 At5_0 ct5_0 t5_1 t5_2 _ A23) [⟨3, 0, 0, false⟩] 8 rfl rfl rfl rfl rfl ?_
            rintro _ _ _ ⟨rfl, rfl, rfl⟩
            refine xs [0, 1, 2] [0, 1, 2, 3] rfl rfl rfl (xv 29 [0, 1, 2] [0, 1, 2, 3] rfl (EV.eql rfl rfl) rfl rfl rfl rfl (xv 30 [0, 1, 2] [0, 1, 2, 3] rfl (EV.pt rfl rfl rfl) rfl rfl rfl rfl (xv 31 [0, 1, 2] [0, 1, 2, 3] rfl (EV.as rfl) rfl rfl rfl rfl (xd (pr [2] [] [] rfl rfl rfl rfl ?_)))))
            cases H
            exact rt Try.func8 rfl (.tmp rfl .nil) rfl [] [] rfl rfl rfl rfl rfl ⟨rfl, rfl, rfl⟩
           ·
            refine ts 101 rfl (dF c21) (xk 25 [0, 1, 2] [0, 1, 2, 3] rfl rfl rfl rfl rfl (xk 27 [0, 1, 2] [0, 1, 2, 3] rfl rfl rfl rfl rfl (xk 26 [0, 1, 2] [0, 1, 2, 3] rfl rfl rfl rfl rfl (xk 28 [0, 1, 2] [0, 1, 2, 3] rfl rfl rfl rfl rfl (xk 29 [0, 1, 2] [0, 1, 2, 3] rfl rfl rfl rfl rfl (xv 30 [0, 1, 2] [0, 1, 2, 3] rfl (EV.pf rfl rfl rfl) rfl rfl rfl rfl (xv 31 [0, 1, 2] [0, 1, 2, 3] rfl (EV.as rfl) rfl rfl rfl rfl (xd (pr [2] [] [] rfl rfl rfl rfl ?_)))))))))
            cases H
            exact rt Try.func8 rfl (.tmp rfl .nil) rfl [] [] rfl rfl rfl rfl rfl ⟨rfl, rfl, rfl⟩
          ·
           refine ts 94 rfl (dF c20) (xk 18 [0, 1, 2] [0, 1, 2, 3] rfl rfl rfl rfl rfl (xk 19 [0, 1, 2] [0, 1, 2, 3] rfl rfl rfl rfl rfl (xk 20 [0, 1, 2] [0, 1, 2, 3] rfl rfl rfl rfl rfl (xk 21 [0, 1, 2] [0, 1, 2, 3] rfl rfl rfl rfl rfl (xk 22 [0, 1, 2] [0, 1, 2, 3] rfl rfl rfl rfl rfl (xv 23 [0, 1, 2] [0, 1, 2, 3] rfl (EV.pf rfl rfl rfl) rfl rfl rfl rfl (xv 24 [0, 1, 2] [0, 1, 2, 3] rfl (EV.mv rfl) rfl rfl rfl rfl (xk 25 [0, 1, 2] [0, 1, 2, 3] rfl rfl rfl rfl rfl (xk 27 [0, 1, 2] [0, 1, 2, 3] rfl rfl rfl rfl rfl (xk 26 [0, 1, 2] [0, 1, 2, 3] rfl rfl rfl rfl rfl (xk 28 [0, 1, 2] [0, 1, 2, 3] rfl rfl rfl rfl rfl (xk 29 [0, 1, 2] [0, 1, 2, 3] rfl rfl rfl rfl rfl (xv 30 [0, 1, 2] [0, 1, 2, 3] rfl (EV.pf rfl rfl rfl) rfl rfl rfl rfl (xv 31 [0, 1, 2] [0, 1, 2, 3] rfl (EV.as rfl) rfl rfl rfl rfl (xd (pr [2] [] [] rfl rfl rfl rfl ?_))))))))))))))))
           cases H
           exact rt Try.func8 rfl (.tmp rfl .nil) rfl [] [] rfl rfl rfl rfl rfl ⟨rfl, rfl, rfl⟩
         ·
          refine ts 87 rfl (dF c19) (xk 11 [0, 1, 2] [0, 1, 2, 3] rfl rfl rfl rfl rfl (xk 12 [0, 1, 2] [0, 1, 2, 3] rfl rfl rfl rfl rfl (xk 13 [0, 1, 2] [0, 1, 2, 3] rfl rfl rfl rfl rfl (xk 14 [0, 1, 2] [0, 1, 2, 3] rfl rfl rfl rfl rfl (xk 15 [0, 1, 2] [0, 1, 2, 3] rfl rfl rfl rfl rfl (xv 16 [0, 1, 2] [0, 1, 2, 3] rfl (EV.pf rfl rfl rfl) rfl rfl rfl rfl (xv 17 [0, 1, 2] [0, 1, 2, 3] rfl (EV.mv rfl) rfl rfl rfl rfl (xk 18 [0, 1, 2] [0, 1, 2, 3] rfl rfl rfl rfl rfl (xk 19 [0, 1, 2] [0, 1, 2, 3] rfl rfl rfl rfl rfl (xk 20 [0, 1, 2] [0, 1, 2, 3] rfl rfl rfl rfl rfl (xk 21 [0, 1, 2] [0, 1, 2, 3] rfl rfl rfl rfl rfl (xk 22 [0, 1, 2] [0, 1, 2, 3] rfl rfl rfl rfl rfl (xv 23 [0, 1, 2] [0, 1, 2, 3] rfl (EV.pf rfl rfl rfl) rfl rfl rfl rfl (xv 24 [0, 1, 2] [0, 1, 2, 3] rfl (EV.mv rfl) rfl rfl rfl rfl (xk 25 [0, 1, 2] [0, 1, 2, 3] rfl rfl rfl rfl rfl (xk 27 [0, 1, 2] [0, 1, 2, 3] rfl rfl rfl rfl rfl (xk 26 [0, 1, 2] [0, 1, 2, 3] rfl rfl rfl rfl rfl (xk 28 [0, 1, 2] [0, 1, 2, 3] rfl rfl rfl rfl rfl (xk 29 [0, 1, 2] [0, 1, 2, 3] rfl rfl rfl rfl rfl (xv 30 [0, 1, 2] [0, 1, 2, 3] rfl (EV.pf rfl rfl rfl) rfl rfl rfl rfl (xv 31 [0, 1, 2] [0, 1, 2, 3] rfl (EV.as rfl) rfl rfl rfl rfl (xd (pr [2] [] [] rfl rfl rfl rfl ?_)))))))))))))))))))))))
          cases H
          exact rt Try.func8 rfl (.tmp rfl .nil) rfl [] [] rfl rfl rfl rfl rfl ⟨rfl, rfl, rfl⟩
        ·
         refine ts 80 rfl (dF c16) (xk 4 [0, 1, 2] [0, 1, 2, 3] rfl rfl rfl rfl rfl (xk 6 [0, 1, 2] [0, 1, 2, 3] rfl rfl rfl rfl rfl (xk 5 [0, 1, 2] [0, 1, 2, 3] rfl rfl rfl rfl rfl (xk 7 [0, 1, 2] [0, 1, 2, 3] rfl rfl rfl rfl rfl (xk 8 [0, 1, 2] [0, 1, 2, 3] rfl rfl rfl rfl rfl (xv 9 [0, 1, 2] [0, 1, 2, 3] rfl (EV.pf rfl rfl rfl) rfl rfl rfl rfl (xv 10 [0, 1, 2] [0, 1, 2, 3] rfl (EV.mv rfl) rfl rfl rfl rfl (xk 11 [0, 1, 2] [0, 1, 2, 3] rfl rfl rfl rfl rfl (xk 12 [0, 1, 2] [0, 1, 2, 3] rfl rfl rfl rfl rfl (xk 13 [0, 1, 2] [0, 1, 2, 3] rfl rfl rfl rfl rfl (xk 14 [0, 1, 2] [0, 1, 2, 3] rfl rfl rfl rfl rfl (xk 15 [0, 1, 2] [0, 1, 2, 3] rfl rfl rfl rfl rfl (xv 16 [0, 1, 2] [0, 1, 2, 3] rfl (EV.pf rfl rfl rfl) rfl rfl rfl rfl (xv 17 [0, 1, 2] [0, 1, 2, 3] rfl (EV.mv rfl) rfl rfl rfl rfl (xk 18 [0, 1, 2] [0, 1, 2, 3] rfl rfl rfl rfl rfl (xk 19 [0, 1, 2] [0, 1, 2, 3] rfl rfl rfl rfl rfl (xk 20 [0, 1, 2] [0, 1, 2, 3] rfl rfl rfl rfl rfl (xk 21 [0, 1, 2] [0, 1, 2, 3] rfl rfl rfl rfl rfl (xk 22 [0, 1, 2] [0, 1, 2, 3] rfl rfl rfl rfl rfl (xv 23 [0, 1, 2] [0, 1, 2, 3] rfl (EV.pf rfl rfl rfl) rfl rfl rfl rfl (xv 24 [0, 1, 2] [0, 1, 2, 3] rfl (EV.mv rfl) rfl rfl rfl rfl (xk 25 [0, 1, 2] [0, 1, 2, 3] rfl rfl rfl rfl rfl (xk 27 [0, 1, 2] [0, 1, 2, 3] rfl rfl rfl rfl rfl (xk 26 [0, 1, 2] [0, 1, 2, 3] rfl rfl rfl rfl rfl (xk 28 [0, 1, 2] [0, 1, 2, 3] rfl rfl rfl rfl rfl (xk 29 [0, 1, 2] [0, 1, 2, 3] rfl rfl rfl rfl rfl (xv 30 [0, 1, 2] [0, 1, 2, 3] rfl (EV.pf rfl rfl rfl) rfl rfl rfl rfl (xv 31 [0, 1, 2] [0, 1, 2, 3] rfl (EV.as rfl) rfl rfl rfl rfl (xd ?_)))))))))))))))))))))))))))))
         refine pr [2] [] [] rfl rfl rfl rfl ?_
         cases H
         exact rt Try.func8 rfl (.tmp rfl .nil) rfl [] [] rfl rfl rfl rfl rfl ⟨rfl, rfl, rfl⟩
       ·
        obtain rfl := bF c15
        refine gt rfl rfl (gs (rg (sv (EV.ld (v := .agg #[.slice At4_0 t4_0.length ct4_0, .int .i64 t4_1, .int .i64 t4_2]) 1 (some 3) rfl rfl rfl) rfl (sv (EV.ld (v := .agg #[.slice At3_0 t3_0.length ct3_0, .int .i64 t3_1, .int .i64 t3_2]) 0 (some 3) rfl rfl rfl) rfl ?_))))
        revert H; refine bdI ?_; rintro t24 A24 H
        refine so rfl (op_call (spec_EqualJoiners.ok k t4_0 At4_0 ct4_0 t4_1 t4_2 t3_0 At3_0 ct3_0 t3_1 t3_2 _ A24) [⟨1, 0, 0, false⟩, ⟨0, 0, 0, false⟩] 8 rfl rfl rfl rfl rfl ?_)
        rintro _ _ _ ⟨rfl, rfl, rfl⟩
        refine sv (EV.mv rfl) rfl ?_
        revert H; refine ifsI ?_ ?_ <;> intro c25 H
        ·
         subst c25
         refine ts 68 rfl rfl (sv (EV.mv rfl) rfl (sv (EV.ln rfl) rfl (sv (EV.eql rfl rfl) rfl (sv (EV.pt rfl rfl rfl) rfl (sv (EV.mv rfl) rfl ?_)))))
         revert H; refine ifsI ?_ ?_ <;> intro c26 H
         ·
          refine ts 73 rfl (dT c26) (sv (EV.mv rfl) rfl (sv (EV.eql rfl rfl) rfl (sv (EV.pt rfl rfl rfl) rfl (sv (EV.as rfl) rfl (re (pr [2] [] [] rfl rfl rfl rfl ?_))))))
          cases H
          exact rt Try.func8 rfl (.tmp rfl .nil) rfl [] [] rfl rfl rfl rfl rfl ⟨rfl, rfl, rfl⟩
         ·
          refine ts 73 rfl (dF c26) (sk rfl (sk rfl (sv (EV.pf rfl rfl rfl) rfl (sv (EV.as rfl) rfl (re (pr [2] [] [] rfl rfl rfl rfl ?_))))))
          cases H
          exact rt Try.func8 rfl (.tmp rfl .nil) rfl [] [] rfl rfl rfl rfl rfl ⟨rfl, rfl, rfl⟩
        ·
         obtain rfl := bF c25
         refine ts 68 rfl rfl (sk rfl (sk rfl (sk rfl (sv (EV.pf rfl rfl rfl) rfl (sv (EV.mv rfl) rfl (sk rfl (sk rfl (sv (EV.pf rfl rfl rfl) rfl (sv (EV.as rfl) rfl (re (pr [2] [] [] rfl rfl rfl rfl ?_)))))))))))
         cases H
         exact rt Try.func8 rfl (.tmp rfl .nil) rfl [] [] rfl rfl rfl rfl rfl ⟨rfl, rfl, rfl⟩
      ·
       refine gt rfl (bM c14) (gs (rg (sv (EV.as rfl) rfl (re (pr [2] [] [] rfl rfl rfl rfl ?_)))))
       cases H
       exact rt Try.func8 rfl (.tmp rfl .nil) rfl [] [] rfl rfl rfl rfl rfl ⟨rfl, rfl, rfl⟩
     ·
      obtain rfl := bF c11
      refine ts 56 rfl rfl (xk 21 [0, 1, 2] [0, 1, 2, 3, 4] rfl rfl rfl rfl rfl (xk 23 [0, 1, 2] [0, 1, 2, 3, 4] rfl rfl rfl rfl rfl (xk 22 [0, 1, 2] [0, 1, 2, 3, 4] rfl rfl rfl rfl rfl (xk 24 [0, 1, 2] [0, 1, 2, 3, 4] rfl rfl rfl rfl rfl (xk 25 [0, 1, 2] [0, 1, 2, 3, 4] rfl rfl rfl rfl rfl (xv 26 [0, 1, 2] [0, 1, 2, 3, 4] rfl (EV.pt rfl rfl rfl) rfl rfl rfl rfl (xd (pr [3, 4, 5, 6, 7, 8, 9, 62] [0, 1, 2] [0, 1, 2, 3] rfl rfl rfl rfl (gt rfl rfl (gs (rg (sv (EV.as rfl) rfl (re (pr [2] [] [] rfl rfl rfl rfl ?_))))))))))))))
      cases H
      exact rt Try.func8 rfl (.tmp rfl .nil) rfl [] [] rfl rfl rfl rfl rfl ⟨rfl, rfl, rfl⟩
    ·
     obtain rfl := bF c9
     refine ts 50 rfl rfl (xk 15 [0, 1, 2] [0, 1, 2, 3, 4] rfl rfl rfl rfl rfl (xk 16 [0, 1, 2] [0, 1, 2, 3, 4] rfl rfl rfl rfl rfl (xk 17 [0, 1, 2] [0, 1, 2, 3, 4] rfl rfl rfl rfl rfl (xk 18 [0, 1, 2] [0, 1, 2, 3, 4] rfl rfl rfl rfl rfl (xv 19 [0, 1, 2] [0, 1, 2, 3, 4] rfl (EV.pt rfl rfl rfl) rfl rfl rfl rfl (xv 20 [0, 1, 2] [0, 1, 2, 3, 4] rfl (EV.mv rfl) rfl rfl rfl rfl (xk 21 [0, 1, 2] [0, 1, 2, 3, 4] rfl rfl rfl rfl rfl (xk 23 [0, 1, 2] [0, 1, 2, 3, 4] rfl rfl rfl rfl rfl (xk 22 [0, 1, 2] [0, 1, 2, 3, 4] rfl rfl rfl rfl rfl (xk 24 [0, 1, 2] [0, 1, 2, 3, 4] rfl rfl rfl rfl rfl (xk 25 [0, 1, 2] [0, 1, 2, 3, 4] rfl rfl rfl rfl rfl (xv 26 [0, 1, 2] [0, 1, 2, 3, 4] rfl (EV.pt rfl rfl rfl) rfl rfl rfl rfl (xd (pr [3, 4, 5, 6, 7, 8, 9, 62] [0, 1, 2] [0, 1, 2, 3] rfl rfl rfl rfl (gt rfl rfl (gs (rg (sv (EV.as rfl) rfl (re (pr [2] [] [] rfl rfl rfl rfl ?_))))))))))))))))))))
     cases H
     exact rt Try.func8 rfl (.tmp rfl .nil) rfl [] [] rfl rfl rfl rfl rfl ⟨rfl, rfl, rfl⟩
   ·
    refine ts 44 rfl (nT c7) (xk 9 [0, 1, 2] [0, 1, 2, 3, 4] rfl rfl rfl rfl rfl (xk 10 [0, 1, 2] [0, 1, 2, 3, 4] rfl rfl rfl rfl rfl (xk 11 [0, 1, 2] [0, 1, 2, 3, 4] rfl rfl rfl rfl rfl (xk 12 [0, 1, 2] [0, 1, 2, 3, 4] rfl rfl rfl rfl rfl (xv 13 [0, 1, 2] [0, 1, 2, 3, 4] rfl (EV.pt rfl rfl rfl) rfl rfl rfl rfl (xv 14 [0, 1, 2] [0, 1, 2, 3, 4] rfl (EV.mv rfl) rfl rfl rfl rfl (xk 15 [0, 1, 2] [0, 1, 2, 3, 4] rfl rfl rfl rfl rfl (xk 16 [0, 1, 2] [0, 1, 2, 3, 4] rfl rfl rfl rfl rfl (xk 17 [0, 1, 2] [0, 1, 2, 3, 4] rfl rfl rfl rfl rfl (xk 18 [0, 1, 2] [0, 1, 2, 3, 4] rfl rfl rfl rfl rfl (xv 19 [0, 1, 2] [0, 1, 2, 3, 4] rfl (EV.pt rfl rfl rfl) rfl rfl rfl rfl (xv 20 [0, 1, 2] [0, 1, 2, 3, 4] rfl (EV.mv rfl) rfl rfl rfl rfl (xk 21 [0, 1, 2] [0, 1, 2, 3, 4] rfl rfl rfl rfl rfl (xk 23 [0, 1, 2] [0, 1, 2, 3, 4] rfl rfl rfl rfl rfl (xk 22 [0, 1, 2] [0, 1, 2, 3, 4] rfl rfl rfl rfl rfl (xk 24 [0, 1, 2] [0, 1, 2, 3, 4] rfl rfl rfl rfl rfl (xk 25 [0, 1, 2] [0, 1, 2, 3, 4] rfl rfl rfl rfl rfl (xv 26 [0, 1, 2] [0, 1, 2, 3, 4] rfl (EV.pt rfl rfl rfl) rfl rfl rfl rfl (xd (pr [3, 4, 5, 6, 7, 8, 9, 62] [0, 1, 2] [0, 1, 2, 3] rfl rfl rfl rfl (gt rfl rfl (gs (rg (sv (EV.as rfl) rfl (re (pr [2] [] [] rfl rfl rfl rfl ?_))))))))))))))))))))))))))
    cases H
    exact rt Try.func8 rfl (.tmp rfl .nil) rfl [] [] rfl rfl rfl rfl rfl ⟨rfl, rfl, rfl⟩
  ·
   refine ts 39 rfl (bM c6) (xk 4 [0, 1, 2] [0, 1, 2, 3, 4] rfl rfl rfl rfl rfl (xk 5 [0, 1, 2] [0, 1, 2, 3, 4] rfl rfl rfl rfl rfl (xk 6 [0, 1, 2] [0, 1, 2, 3, 4] rfl rfl rfl rfl rfl (xv 7 [0, 1, 2] [0, 1, 2, 3, 4] rfl (EV.pt rfl rfl rfl) rfl rfl rfl rfl (xv 8 [0, 1, 2] [0, 1, 2, 3, 4] rfl (EV.mv rfl) rfl rfl rfl rfl (xk 9 [0, 1, 2] [0, 1, 2, 3, 4] rfl rfl rfl rfl rfl (xk 10 [0, 1, 2] [0, 1, 2, 3, 4] rfl rfl rfl rfl rfl (xk 11 [0, 1, 2] [0, 1, 2, 3, 4] rfl rfl rfl rfl rfl (xk 12 [0, 1, 2] [0, 1, 2, 3, 4] rfl rfl rfl rfl rfl (xv 13 [0, 1, 2] [0, 1, 2, 3, 4] rfl (EV.pt rfl rfl rfl) rfl rfl rfl rfl (xv 14 [0, 1, 2] [0, 1, 2, 3, 4] rfl (EV.mv rfl) rfl rfl rfl rfl (xk 15 [0, 1, 2] [0, 1, 2, 3, 4] rfl rfl rfl rfl rfl (xk 16 [0, 1, 2] [0, 1, 2, 3, 4] rfl rfl rfl rfl rfl (xk 17 [0, 1, 2] [0, 1, 2, 3, 4] rfl rfl rfl rfl rfl (xk 18 [0, 1, 2] [0, 1, 2, 3, 4] rfl rfl rfl rfl rfl (xv 19 [0, 1, 2] [0, 1, 2, 3, 4] rfl (EV.pt rfl rfl rfl) rfl rfl rfl rfl (xv 20 [0, 1, 2] [0, 1, 2, 3, 4] rfl (EV.mv rfl) rfl rfl rfl rfl (xk 21 [0, 1, 2] [0, 1, 2, 3, 4] rfl rfl rfl rfl rfl (xk 23 [0, 1, 2] [0, 1, 2, 3, 4] rfl rfl rfl rfl rfl (xk 22 [0, 1, 2] [0, 1, 2, 3, 4] rfl rfl rfl rfl rfl (xk 24 [0, 1, 2] [0, 1, 2, 3, 4] rfl rfl rfl rfl rfl (xk 25 [0, 1, 2] [0, 1, 2, 3, 4] rfl rfl rfl rfl rfl (xv 26 [0, 1, 2] [0, 1, 2, 3, 4] rfl (EV.pt rfl rfl rfl) rfl rfl rfl rfl (xd (pr [3, 4, 5, 6, 7, 8, 9, 62] [0, 1, 2] [0, 1, 2, 3] rfl rfl rfl rfl (gt rfl rfl (gs (rg (sv (EV.as rfl) rfl ?_)))))))))))))))))))))))))))))
   refine re (pr [2] [] [] rfl rfl rfl rfl ?_)
   cases H
   exact rt Try.func8 rfl (.tmp rfl .nil) rfl [] [] rfl rfl rfl rfl rfl ⟨rfl, rfl, rfl⟩
end Go.Proofs.Ytajjeemkdjfilaa.K
