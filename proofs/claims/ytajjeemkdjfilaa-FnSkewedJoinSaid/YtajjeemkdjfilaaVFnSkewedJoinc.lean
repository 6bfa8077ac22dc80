/- Walks: what the functions compute. Printed by gen.py; no condition. -/
import Derived.Test.YtajjeemkdjfilaaVFnSkewedJoinb
namespace Go.Proofs.Ytajjeemkdjfilaa.K
open Go Go.RowKit
set_option linter.unusedVariables false
set_option linter.unusedSimpArgs false
def impl_StepJoiner.j0 : Nat → (List S92) → Int → (List S44) → Int → Int → (List S44) → Int → Int → Int → (List S70) → (List S70) → (List Bool) → Int → Option ((List S44) × Int × Int × (List S92) × Int × Bool)
 | 0, _, _, _, _, _, _, _, _, _, _, _, _, _ => none
 | k + 1, x2_11, x2_13, x2_4_0, x2_4_1, x2_4_2, x2_8_0, x2_8_1, x2_8_2, x2_12_0, x2_12_1, x2_12_2, x2_12_3, x2_12_4 => (impl_UnmatchedRows.f k x2_12_0 x2_12_1 x2_12_2 x2_12_3 x2_12_4).bind fun t42 => (if x2_11.length + t42.length ≤ 2513169434916 then (some (x2_8_0, x2_8_1, x2_8_2, x2_11 ++ t42, x2_13, true)) else none)
def impl_StepJoiner.f (k : Nat) (l0_0 : List S44) (a0_1 : Int) (a0_2 : Int) (a1 : Int) : Option ((List S44) × Int × Int × (List S92) × Int × Bool) := (impl_cloneJoiner.f k l0_0 a0_1 a0_2).bind fun bt1 => ((impl_IsValidJoiner.f k l0_0 a0_1 a0_2).bind fun t2 => (if t2 = true then (if (l0_0.length : Int) = 0 then (some (bt1.1, bt1.2.1, bt1.2.2, [], 0, false)) else ((impl_isGrant.f a1).bind fun t5 => (if t5 = true then (if 0 < (bt1.1.length : Int) then ((impl_BuildSide.f k ((rd_T44 bt1.1 0).f0) ((rd_T44 bt1.1 0).f1) ((rd_T44 bt1.1 0).f2) ((rd_T44 bt1.1 0).f3) ((rd_T44 bt1.1 0).f4) a1).bind fun t11 => (if (((rd_T44 bt1.1 0).f1).length : Int) = 0 then (if 1 ≤ (bt1.1.length : Int) then ((impl_UnmatchedRows.f k ((rd_T44 bt1.1 0).f0) ((rd_T44 bt1.1 0).f1) ((rd_T44 bt1.1 0).f2) ((rd_T44 bt1.1 0).f3) ((rd_T44 bt1.1 0).f4)).bind fun t14 => (some (bt1.1.drop (1 : Int).toNat, bt1.2.1, bt1.2.2, t14, 0, true))) else none) else (if (((rd_T44 bt1.1 0).f2).length : Int) = 0 then (if 1 ≤ (bt1.1.length : Int) then ((impl_UnmatchedRows.f k ((rd_T44 bt1.1 0).f0) ((rd_T44 bt1.1 0).f1) ((rd_T44 bt1.1 0).f2) ((rd_T44 bt1.1 0).f3) ((rd_T44 bt1.1 0).f4)).bind fun t17 => (some (bt1.1.drop (1 : Int).toNat, bt1.2.1, bt1.2.2, t17, 0, true))) else none) else (if t11 = 0 then ((impl_NeedsNestedLoop.f k ((rd_T44 bt1.1 0).f0) ((rd_T44 bt1.1 0).f1) ((rd_T44 bt1.1 0).f2) ((rd_T44 bt1.1 0).f3) ((rd_T44 bt1.1 0).f4)).bind fun t19 => (if t19 = true then ((impl_NextChunk.f k ((rd_T44 bt1.1 0).f2) a1).bind fun bt21 => ((impl_JoinChunk.f k ((rd_T44 bt1.1 0).f0) ((rd_T44 bt1.1 0).f1) ((rd_T44 bt1.1 0).f2) ((rd_T44 bt1.1 0).f3) ((rd_T44 bt1.1 0).f4) bt21.1).bind fun bt22 => ((some (bt1.1.set (0 : Int).toNat (⟨bt22.2.1, bt22.2.2.1, bt21.2, bt22.2.2.2.2.1, bt22.2.2.2.2.2⟩ : S44))).bind fun s26 => ((impl_TotalCost.f k bt21.1).bind fun t27 => (some (s26, bt1.2.1, bt1.2.2, bt22.1, t27, true)))))) else ((impl_PartitionTask.f k ((rd_T44 bt1.1 0).f0) ((rd_T44 bt1.1 0).f1) ((rd_T44 bt1.1 0).f2) ((rd_T44 bt1.1 0).f3) ((rd_T44 bt1.1 0).f4)).bind fun bt28 => (if 1 ≤ (bt1.1.length : Int) then (if ([(⟨bt28.1, bt28.2.1, bt28.2.2.1, bt28.2.2.2.1, bt28.2.2.2.2.1⟩ : S44), (⟨bt28.2.2.2.2.2.1, bt28.2.2.2.2.2.2.1, bt28.2.2.2.2.2.2.2.1, bt28.2.2.2.2.2.2.2.2.1, bt28.2.2.2.2.2.2.2.2.2.1⟩ : S44)] : List S44).length + (bt1.1.drop (1 : Int).toNat).length ≤ 1599289640401 then ((impl_TaskCost.f k ((rd_T44 bt1.1 0).f0) ((rd_T44 bt1.1 0).f1) ((rd_T44 bt1.1 0).f2) ((rd_T44 bt1.1 0).f3) ((rd_T44 bt1.1 0).f4)).bind fun t33 => (some (([(⟨bt28.1, bt28.2.1, bt28.2.2.1, bt28.2.2.2.1, bt28.2.2.2.2.1⟩ : S44), (⟨bt28.2.2.2.2.2.1, bt28.2.2.2.2.2.2.1, bt28.2.2.2.2.2.2.2.1, bt28.2.2.2.2.2.2.2.2.1, bt28.2.2.2.2.2.2.2.2.2.1⟩ : S44)] : List S44) ++ (bt1.1.drop (1 : Int).toNat), wrap64 (bt1.2.1 + t33), wrap64 (bt1.2.2 + 1), [], 8, true))) else none) else none)))) else (if 1 ≤ (bt1.1.length : Int) then ((impl_JoinChunk.f k ((rd_T44 bt1.1 0).f0) ((rd_T44 bt1.1 0).f1) ((rd_T44 bt1.1 0).f2) ((rd_T44 bt1.1 0).f3) ((rd_T44 bt1.1 0).f4) ((rd_T44 bt1.1 0).f2)).bind fun bt39 => ((impl_TotalCost.f k ((rd_T44 bt1.1 0).f2)).bind fun t40 => (if t11 = 1 then ((impl_TotalCost.f k ((rd_T44 bt1.1 0).f1)).bind fun t46 => (impl_StepJoiner.j0 k bt39.1 t46 [] 0 0 (bt1.1.drop (1 : Int).toNat) bt1.2.1 bt1.2.2 bt39.2.1 bt39.2.2.1 bt39.2.2.2.1 bt39.2.2.2.2.1 bt39.2.2.2.2.2)) else (impl_StepJoiner.j0 k bt39.1 t40 [] 0 0 (bt1.1.drop (1 : Int).toNat) bt1.2.1 bt1.2.2 bt39.2.1 bt39.2.2.1 bt39.2.2.2.1 bt39.2.2.2.2.1 bt39.2.2.2.2.2)))) else none))))) else none) else (some (bt1.1, bt1.2.1, bt1.2.2, [], 0, false))))) else (some (bt1.1, bt1.2.1, bt1.2.2, [], 0, false))))
set_option maxHeartbeats 4000000 in
set_option maxRecDepth 100000 in
theorem impl_StepJoiner.ok (k : Nat) (l0_0 : List S44) (Al0_0 : Option Addr) (cl0_0 : Nat) (a0_1 : Int) (a0_2 : Int) (a1 : Int) (r0 : List S44) (r1 : Int) (r2 : Int) (r3 : List S92) (r4 : Int) (r5 : Bool) (H : impl_StepJoiner.f k l0_0 a0_1 a0_2 a1 = some (r0, r1, r2, r3, r4, r5)) : Fn Try.prog 54 [.agg #[.slice Al0_0 l0_0.length cl0_0, .int .i64 a0_1, .int .i64 a0_2], .int .i64 a1] [] [.sl 0 k44 Al0_0 cl0_0 l0_0 0 false] (fun v bx en => ∃ A0 c0 A3 c3, v = .tuple #[.agg #[.slice A0 r0.length c0, .int .i64 r1, .int .i64 r2], .slice A3 r3.length c3, .int .i64 r4, .bool r5] ∧ bx = [] ∧ en = [.sl 1 k44 A0 c0 r0 1 true, .sl 2 k92 A3 c3 r3 2 true]) := by
 refine fn_ 142 Try.func54 rfl rfl rfl (fun base T w0 => ?_)
 rw [impl_StepJoiner.f] at H
 refine gs (rg (so rfl (op_box (cs := [.slice Al0_0 l0_0.length cl0_0, .int .i64 a0_1, .int .i64 a0_2]) rfl rfl rfl fun b2 => (so rfl (op_alloc (cs := [.slice none 0 0, .int .i64 0, .int .i64 0]) (by kernel_rfl) rfl fun b4 => (sv (EV.as rfl) rfl (sv (EV.as rfl) rfl (sv (EV.as rfl) rfl (re (gs (rg (sv (EV.ld (v := .agg #[.slice Al0_0 l0_0.length cl0_0, .int .i64 a0_1, .int .i64 a0_2]) 0 (some 3) rfl rfl rfl) rfl ?_))))))))))))
 revert H; refine bdI ?_; rintro ⟨t1_0, t1_1, t1_2⟩ A1 H
 refine so rfl (op_call (impl_cloneJoiner.ok k l0_0 Al0_0 cl0_0 a0_1 a0_2 _ _ _ A1) [⟨0, 0, 0, false⟩] 1 rfl rfl rfl rfl rfl ?_)
 rintro _ _ _ ⟨At1_0, ct1_0, rfl, rfl, rfl⟩
 refine so rfl (op_alloc (cs := [.slice none 0 0, .int .i64 0, .int .i64 0]) (by kernel_rfl) rfl fun b8 => (so rfl (op_st (cs' := [.slice At1_0 t1_0.length ct1_0, .int .i64 t1_1, .int .i64 t1_2]) 2 rfl rfl rfl rfl rfl rfl (re (pr [1, 2, 4, 8] [0, 1, 2] [0, 1] rfl rfl rfl rfl (gs (gs (rg (sv (EV.ld (v := .agg #[.slice Al0_0 l0_0.length cl0_0, .int .i64 a0_1, .int .i64 a0_2]) 0 (some 3) rfl rfl rfl) rfl ?_)))))))))
 revert H; refine bdI ?_; rintro t2 A2 H
 refine so rfl (op_call (impl_IsValidJoiner.ok k l0_0 Al0_0 cl0_0 a0_1 a0_2 _ A2) [⟨0, 0, 0, false⟩] 3 rfl rfl rfl rfl rfl ?_)
 rintro _ _ _ ⟨rfl, rfl, rfl⟩
 refine sv (EV.nt rfl) rfl (sv (EV.mv rfl) rfl ?_)
 revert H; refine ifsI ?_ ?_ <;> intro c3 H
 ·
  subst c3
  refine ts 26 rfl rfl (sv (EV.fa 0 rfl) rfl (sv (EV.ld 0 none rfl rfl rfl) rfl (sv (EV.ln rfl) rfl (sv (EV.eql rfl rfl) rfl (sv (EV.pf rfl rfl rfl) rfl (sv (EV.mv rfl) rfl ?_))))))
  revert H; refine ifsI ?_ ?_ <;> intro c4 H
  ·
   refine ts 32 rfl (dT c4) (sk rfl (sk rfl (sk rfl (sv (EV.pt rfl rfl rfl) rfl (re (pr [1, 4, 8, 36] [1, 2] [1] rfl rfl rfl rfl (gt rfl rfl (gs (rg (sv (EV.ld (v := .agg #[.slice At1_0 t1_0.length ct1_0, .int .i64 t1_1, .int .i64 t1_2]) 1 (some 3) rfl rfl rfl) rfl (so rfl (op_st (cs' := [.slice At1_0 t1_0.length ct1_0, .int .i64 t1_1, .int .i64 t1_2]) 0 rfl rfl rfl rfl rfl rfl (sv (EV.as rfl) rfl (sv (EV.as rfl) rfl (sv (EV.as rfl) rfl (re (nil_ k92 3 dq ?_)))))))))))))))))
   cases H
   exact rt Try.func54 rfl (.cell 0 (some 3) rfl rfl rfl (.tmp rfl (.tmp rfl (.tmp rfl .nil)))) rfl [] [⟨0, 1, 1, true⟩, ⟨1, 2, 2, true⟩] rfl rfl rfl rfl rfl ⟨_, _, _, _, rfl, rfl, rfl⟩
  ·
   refine ts 32 rfl (dF c4) (sv (EV.mv rfl) rfl ?_)
   revert H; refine bdI ?_; rintro t5 A5 H
   refine so rfl (op_call (impl_isGrant.ok a1 _ A5) [] 3 rfl rfl rfl rfl rfl ?_)
   rintro _ _ _ ⟨rfl, rfl, rfl⟩
   refine sv (EV.nt rfl) rfl (sv (EV.pf rfl rfl rfl) rfl (re (pr [1, 4, 8, 36] [1, 2] [1] rfl rfl rfl rfl ?_)))
   revert H; refine ifsI ?_ ?_ <;> intro c6 H
   ·
    subst c6
    refine gf rfl rfl (gk (gs (rg (sv (EV.fa 0 rfl) rfl (sv (EV.ld 1 none rfl rfl rfl) rfl ?_)))))
    revert H; refine ggI ?_; intro g7 H
    refine sv (EV.ix 0 rfl rfl rfl dq g7 rfl) rfl (opn (i := 0) 0 z44 rfl dq g7 fun A_8 c_8 A_9 c_9 A_10 c_10 => (sv (EV.lc (v := .agg #[.int .i64 ((rd_T44 t1_0 0).f0), .slice A_8 ((rd_T44 t1_0 0).f1).length c_8, .slice A_9 ((rd_T44 t1_0 0).f2).length c_9, .slice A_10 ((rd_T44 t1_0 0).f3).length c_10, .int .i64 ((rd_T44 t1_0 0).f4)]) 0 (some 5) 1 rfl rfl rfl rfl) rfl (so rfl (op_alloc (cs := [.int .i64 0, .slice none 0 0, .slice none 0 0, .slice none 0 0, .int .i64 0]) (by kernel_rfl) rfl fun b9 => (so rfl (op_st (cs' := [.int .i64 ((rd_T44 t1_0 0).f0), .slice A_8 ((rd_T44 t1_0 0).f1).length c_8, .slice A_9 ((rd_T44 t1_0 0).f2).length c_9, .slice A_10 ((rd_T44 t1_0 0).f3).length c_10, .int .i64 ((rd_T44 t1_0 0).f4)]) 2 rfl rfl rfl rfl rfl rfl (re (gs (rg (sv (EV.ld (v := .agg #[.int .i64 ((rd_T44 t1_0 0).f0), .slice A_8 ((rd_T44 t1_0 0).f1).length c_8, .slice A_9 ((rd_T44 t1_0 0).f2).length c_9, .slice A_10 ((rd_T44 t1_0 0).f3).length c_10, .int .i64 ((rd_T44 t1_0 0).f4)]) 2 (some 5) rfl rfl rfl) rfl (sv (EV.mv rfl) rfl ?_)))))))))))
    revert H; refine bdI ?_; rintro t11 A11 H
    refine so rfl (op_call (impl_BuildSide.ok k ((rd_T44 t1_0 0).f0) ((rd_T44 t1_0 0).f1) A_8 c_8 ((rd_T44 t1_0 0).f2) A_9 c_9 ((rd_T44 t1_0 0).f3) A_10 c_10 ((rd_T44 t1_0 0).f4) a1 _ A11) [⟨2, 0, 0, false⟩, ⟨3, 0, 0, false⟩, ⟨4, 0, 0, false⟩] 3 rfl rfl rfl rfl rfl ?_)
    rintro _ _ _ ⟨rfl, rfl, rfl⟩
    refine sv (EV.as rfl) rfl (re (pr [1, 4, 8, 9, 10] [0, 1, 2] [0, 1, 2, 3, 4] rfl rfl rfl rfl (gs (gb (gs (rg (sv (EV.fa 1 rfl) rfl (sv (EV.ld 2 none rfl rfl rfl) rfl (sv (EV.ln rfl) rfl (sv (EV.eql rfl rfl) rfl (sv (EV.mv rfl) rfl ?_)))))))))))
    revert H; refine ifsI ?_ ?_ <;> intro c12 H
    ·
     refine ts 50 rfl (dT c12) (sk rfl (sk rfl (sk rfl (sk rfl (sv (EV.pt rfl rfl rfl) rfl (sv (EV.as rfl) rfl (re (pr [1, 4, 8, 9, 10, 45] [0, 1, 2] [0, 1, 2, 3, 4] rfl rfl rfl rfl (gt rfl rfl (gs (rg (sv (EV.fa 0 rfl) rfl (sv (EV.ld 1 none rfl rfl rfl) rfl ?_)))))))))))))
     revert H; refine ggI ?_; intro g13 H
     refine cutp (l' := t1_0.drop (1 : Int).toNat) 1 (t1_0.length : Int) 0 rfl dq g13 (Int.le_refl _) rfl 1 dq (.inl dq) ctl (sv (EV.ct 1 (t1_0.length : Int) 0 rfl rfl rfl rfl dq g13 (Int.le_refl _) rfl rfl ctnl) rfl (sv (EV.fa 0 rfl) rfl (so rfl (op_st (cs' := [.slice (cutA At1_0 ct1_0 (1 : Int).toNat 5) (t1_0.drop (1 : Int).toNat).length (ct1_0 - (1 : Int).toNat), .int .i64 t1_1, .int .i64 t1_2]) 1 rfl rfl rfl rfl rfl rfl (re (pr [4, 8, 9] [0, 1, 2] [2, 3, 4, 5] rfl rfl rfl rfl (gs (dr [1, 2] [0, 1, 2, 3] [4, 5, 6] 7 rfl rfl rfl rfl (xv 0 [1, 2] [0, 1, 2, 3] rfl (EV.ld (v := .agg #[.slice (cutA At1_0 ct1_0 (1 : Int).toNat 5) (t1_0.drop (1 : Int).toNat).length (ct1_0 - (1 : Int).toNat), .int .i64 t1_1, .int .i64 t1_2]) 0 (some 3) rfl rfl rfl) rfl rfl rfl rfl (xv 1 [1, 2] [0, 1, 2, 3] rfl (EV.ld (v := .agg #[.int .i64 ((rd_T44 t1_0 0).f0), .slice A_8 ((rd_T44 t1_0 0).f1).length c_8, .slice A_9 ((rd_T44 t1_0 0).f2).length c_9, .slice A_10 ((rd_T44 t1_0 0).f3).length c_10, .int .i64 ((rd_T44 t1_0 0).f4)]) 1 (some 5) rfl rfl rfl) rfl rfl rfl rfl (one1 2 rfl rfl ?_)))))))))))
     revert H; refine bdI ?_; rintro t14 A14 H
     refine op_call (impl_UnmatchedRows.ok k ((rd_T44 t1_0 0).f0) ((rd_T44 t1_0 0).f1) A_8 c_8 ((rd_T44 t1_0 0).f2) A_9 c_9 ((rd_T44 t1_0 0).f3) A_10 c_10 ((rd_T44 t1_0 0).f4) _ A14) [⟨0, 0, 0, false⟩, ⟨1, 0, 0, false⟩, ⟨2, 0, 0, false⟩] 3 rfl rfl rfl rfl rfl ?_
     rintro _ _ _ ⟨At14, ct14, rfl, rfl, rfl⟩
     refine xs [1, 2] [0, 1, 2, 3] rfl rfl rfl (one1 3 rfl rfl (op_st (cs' := [.slice (cutA At1_0 ct1_0 (1 : Int).toNat 5) (t1_0.drop (1 : Int).toNat).length (ct1_0 - (1 : Int).toNat), .int .i64 t1_1, .int .i64 t1_2]) 0 rfl rfl rfl rfl rfl rfl (xs [1, 2] [0, 1, 2, 3] rfl rfl rfl (one1 4 rfl rfl (ov (EV.as rfl) rfl (xn rfl (one1 5 rfl rfl (ov (EV.as rfl) rfl (xn rfl (one1 6 rfl rfl (ov (EV.as rfl) rfl (xn rfl (xd ?_)))))))))))))
     cases H
     exact rt Try.func54 rfl (.cell 0 (some 3) rfl rfl rfl (.tmp rfl (.tmp rfl (.tmp rfl .nil)))) rfl [] [⟨3, 1, 1, true⟩, ⟨4, 2, 2, true⟩] rfl rfl rfl rfl rfl ⟨_, _, _, _, rfl, rfl, rfl⟩
    ·
     refine ts 50 rfl (dF c12) (sv (EV.fa 2 rfl) rfl (sv (EV.ld 2 none rfl rfl rfl) rfl (sv (EV.ln rfl) rfl (sv (EV.eql rfl rfl) rfl (sv (EV.pf rfl rfl rfl) rfl (sv (EV.as rfl) rfl (re (pr [1, 4, 8, 9, 10, 45] [0, 1, 2] [0, 1, 2, 3, 4] rfl rfl rfl rfl ?_))))))))
     revert H; refine ifsI ?_ ?_ <;> intro c15 H
     ·
      refine gt rfl (dT c15) (gs (rg (sv (EV.fa 0 rfl) rfl (sv (EV.ld 1 none rfl rfl rfl) rfl ?_))))
      revert H; refine ggI ?_; intro g16 H
      refine cutp (l' := t1_0.drop (1 : Int).toNat) 1 (t1_0.length : Int) 0 rfl dq g16 (Int.le_refl _) rfl 1 dq (.inl dq) ctl (sv (EV.ct 1 (t1_0.length : Int) 0 rfl rfl rfl rfl dq g16 (Int.le_refl _) rfl rfl ctnl) rfl (sv (EV.fa 0 rfl) rfl (so rfl (op_st (cs' := [.slice (cutA At1_0 ct1_0 (1 : Int).toNat 5) (t1_0.drop (1 : Int).toNat).length (ct1_0 - (1 : Int).toNat), .int .i64 t1_1, .int .i64 t1_2]) 1 rfl rfl rfl rfl rfl rfl (re (pr [4, 8, 9] [0, 1, 2] [2, 3, 4, 5] rfl rfl rfl rfl (gs (dr [1, 2] [0, 1, 2, 3] [4, 5, 6] 7 rfl rfl rfl rfl (xv 0 [1, 2] [0, 1, 2, 3] rfl (EV.ld (v := .agg #[.slice (cutA At1_0 ct1_0 (1 : Int).toNat 5) (t1_0.drop (1 : Int).toNat).length (ct1_0 - (1 : Int).toNat), .int .i64 t1_1, .int .i64 t1_2]) 0 (some 3) rfl rfl rfl) rfl rfl rfl rfl (xv 1 [1, 2] [0, 1, 2, 3] rfl (EV.ld (v := .agg #[.int .i64 ((rd_T44 t1_0 0).f0), .slice A_8 ((rd_T44 t1_0 0).f1).length c_8, .slice A_9 ((rd_T44 t1_0 0).f2).length c_9, .slice A_10 ((rd_T44 t1_0 0).f3).length c_10, .int .i64 ((rd_T44 t1_0 0).f4)]) 1 (some 5) rfl rfl rfl) rfl rfl rfl rfl (one1 2 rfl rfl ?_)))))))))))
      revert H; refine bdI ?_; rintro t17 A17 H
      refine op_call (impl_UnmatchedRows.ok k ((rd_T44 t1_0 0).f0) ((rd_T44 t1_0 0).f1) A_8 c_8 ((rd_T44 t1_0 0).f2) A_9 c_9 ((rd_T44 t1_0 0).f3) A_10 c_10 ((rd_T44 t1_0 0).f4) _ A17) [⟨0, 0, 0, false⟩, ⟨1, 0, 0, false⟩, ⟨2, 0, 0, false⟩] 3 rfl rfl rfl rfl rfl ?_
      rintro _ _ _ ⟨At17, ct17, rfl, rfl, rfl⟩
      refine xs [1, 2] [0, 1, 2, 3] rfl rfl rfl (one1 3 rfl rfl (op_st (cs' := [.slice (cutA At1_0 ct1_0 (1 : Int).toNat 5) (t1_0.drop (1 : Int).toNat).length (ct1_0 - (1 : Int).toNat), .int .i64 t1_1, .int .i64 t1_2]) 0 rfl rfl rfl rfl rfl rfl (xs [1, 2] [0, 1, 2, 3] rfl rfl rfl (one1 4 rfl rfl (ov (EV.as rfl) rfl (xn rfl (one1 5 rfl rfl (ov (EV.as rfl) rfl (xn rfl (one1 6 rfl rfl (ov (EV.as rfl) rfl (xn rfl (xd ?_)))))))))))))
      cases H
      exact rt Try.func54 rfl (.cell 0 (some 3) rfl rfl rfl (.tmp rfl (.tmp rfl (.tmp rfl .nil)))) rfl [] [⟨3, 1, 1, true⟩, ⟨4, 2, 2, true⟩] rfl rfl rfl rfl rfl ⟨_, _, _, _, rfl, rfl, rfl⟩
     ·
      refine gf rfl (dF c15) (gs (rg (sv (EV.mv rfl) rfl (sv (EV.neq rfl rfl) rfl (sv (EV.as rfl) rfl (re ?_))))))
      revert H; refine ifsI ?_ ?_ <;> intro c18 H
      ·
       refine gf rfl (nF c18) (gs (rg (sv (EV.ld (v := .agg #[.int .i64 ((rd_T44 t1_0 0).f0), .slice A_8 ((rd_T44 t1_0 0).f1).length c_8, .slice A_9 ((rd_T44 t1_0 0).f2).length c_9, .slice A_10 ((rd_T44 t1_0 0).f3).length c_10, .int .i64 ((rd_T44 t1_0 0).f4)]) 2 (some 5) rfl rfl rfl) rfl ?_)))
       revert H; refine bdI ?_; rintro t19 A19 H
       refine so rfl (op_call (impl_NeedsNestedLoop.ok k ((rd_T44 t1_0 0).f0) ((rd_T44 t1_0 0).f1) A_8 c_8 ((rd_T44 t1_0 0).f2) A_9 c_9 ((rd_T44 t1_0 0).f3) A_10 c_10 ((rd_T44 t1_0 0).f4) _ A19) [⟨2, 0, 0, false⟩, ⟨3, 0, 0, false⟩, ⟨4, 0, 0, false⟩] 3 rfl rfl rfl rfl rfl ?_)
       rintro _ _ _ ⟨rfl, rfl, rfl⟩
       refine sv (EV.as rfl) rfl (re (pr [1, 4, 8, 9, 91] [0, 1, 2] [0, 1, 2, 3, 4] rfl rfl rfl rfl ?_))
       revert H; refine ifsI ?_ ?_ <;> intro c20 H
       ·
        subst c20
        refine gt rfl rfl (gs (rg (sv (EV.fa 2 rfl) rfl (sv (EV.ld 2 none rfl rfl rfl) rfl (sv (EV.mv rfl) rfl ?_)))))
        revert H; refine bdI ?_; rintro ⟨t21_0, t21_1⟩ A21 H
        refine so rfl (op_call (impl_NextChunk.ok k ((rd_T44 t1_0 0).f2) A_9 c_9 a1 _ _ A21) [⟨3, 0, 0, false⟩] 3 rfl rfl rfl rfl rfl ?_)
        rintro _ _ _ ⟨At21_0, ct21_0, At21_1, ct21_1, rfl, rfl, rfl⟩
        refine sv (EV.mv rfl) rfl (sv (EV.ex rfl rfl) rfl (sv (EV.ex rfl rfl) rfl (sv (EV.as rfl) rfl (sv (EV.as rfl) rfl (re (pr [4, 8, 9, 14, 15] [0, 1, 2] [0, 1, 2, 3, 4, 5, 6] rfl rfl rfl rfl (gs (rg (sv (EV.ld (v := .agg #[.int .i64 ((rd_T44 t1_0 0).f0), .slice A_8 ((rd_T44 t1_0 0).f1).length c_8, .slice A_9 ((rd_T44 t1_0 0).f2).length c_9, .slice A_10 ((rd_T44 t1_0 0).f3).length c_10, .int .i64 ((rd_T44 t1_0 0).f4)]) 2 (some 5) rfl rfl rfl) rfl (sv (EV.mv rfl) rfl ?_))))))))))
        revert H; refine bdI ?_; rintro ⟨t22_0, t22_1, t22_2, t22_3, t22_4, t22_5⟩ A22 H
        refine so rfl (op_call (impl_JoinChunk.ok k ((rd_T44 t1_0 0).f0) ((rd_T44 t1_0 0).f1) A_8 c_8 ((rd_T44 t1_0 0).f2) A_9 c_9 ((rd_T44 t1_0 0).f3) A_10 c_10 ((rd_T44 t1_0 0).f4) t21_0 At21_0 ct21_0 _ _ _ _ _ _ A22) [⟨2, 0, 0, false⟩, ⟨3, 0, 0, false⟩, ⟨4, 0, 0, false⟩, ⟨5, 0, 0, false⟩] 6 rfl rfl rfl rfl rfl ?_)
        rintro _ _ _ ⟨At22_0, ct22_0, At22_2, ct22_2, At22_3, ct22_3, At22_4, ct22_4, rfl, rfl, rfl⟩
        refine sv (EV.mv rfl) rfl (sv (EV.ex rfl rfl) rfl (sv (EV.ex rfl rfl) rfl (so rfl (op_alloc (cs := [.int .i64 0, .slice none 0 0, .slice none 0 0, .slice none 0 0, .int .i64 0]) (by kernel_rfl) rfl fun b17 => (sv (EV.as rfl) rfl (so rfl (op_st (cs' := [.int .i64 t22_1, .slice At22_2 t22_2.length ct22_2, .slice At22_3 t22_3.length ct22_3, .slice At22_4 t22_4.length ct22_4, .int .i64 t22_5]) 3 rfl rfl rfl rfl rfl rfl (re (pr [4, 8, 14, 15, 16, 17] [0, 1, 3] [0, 5, 6, 7, 8, 9, 10] rfl rfl rfl rfl (gs (rg (sv (EV.mv rfl) rfl (sv (EV.fa 2 rfl) rfl (so rfl (op_st (cs' := [.int .i64 t22_1, .slice At22_2 t22_2.length ct22_2, .slice At21_1 t21_1.length ct21_1, .slice At22_4 t22_4.length ct22_4, .int .i64 t22_5]) 2 rfl rfl rfl rfl rfl rfl (re (gs (rg (sv (EV.fa 0 rfl) rfl (sv (EV.ld 1 none rfl rfl rfl) rfl (sv (EV.ld (v := .agg #[.int .i64 t22_1, .slice At22_2 t22_2.length ct22_2, .slice At21_1 t21_1.length ct21_1, .slice At22_4 t22_4.length ct22_4, .int .i64 t22_5]) 2 (some 5) rfl rfl rfl) rfl (sv (EV.ix 0 rfl rfl rfl dq g7 rfl) rfl (opn (i := 0) 0 z44 rfl dq g7 fun A_23 c_23 A_24 c_24 A_25 c_25 => (opnH (i := 0) (s := 5) (cls' := 2) [(A_23, c_23), (A_24, c_24), (A_25, c_25)] 0 7 11 z44 rfl rfl (by kernel_rfl) dq g7 dq rfl rfl (nmE (en := [.sl 2 k70 At21_0 ct21_0 t21_0 4 true, .sl 2 k70 At21_1 ct21_1 t21_1 5 true, .sl 2 k92 At22_0 ct22_0 t22_0 7 true, .sl 2 k70 At22_2 ct22_2 t22_2 8 true, .sl 2 k70 At22_3 ct22_3 t22_3 9 true, .sl 2 .bool At22_4 ct22_4 t22_4 10 true, holE k44 2 At1_0 ct1_0 t1_0 (0 : Int).toNat [.int .i64 ((rd_T44 t1_0 0).f0), .slice A_23 ((rd_T44 t1_0 0).f1).length c_23, .slice A_24 ((rd_T44 t1_0 0).f2).length c_24, .slice A_25 ((rd_T44 t1_0 0).f3).length c_25, .int .i64 ((rd_T44 t1_0 0).f4)] 11, .sl 1 k70 A_23 c_23 ((rd_T44 t1_0 0).f1) 12 true, .sl 1 k70 A_24 c_24 ((rd_T44 t1_0 0).f2) 13 true, .sl 1 .bool A_25 c_25 ((rd_T44 t1_0 0).f3) 14 true]) (by kernel_rfl) (so rfl (op_sth (cs' := [.int .i64 t22_1, .slice At22_2 t22_2.length ct22_2, .slice At21_1 t21_1.length ct21_1, .slice At22_4 t22_4.length ct22_4, .int .i64 t22_5]) 0 6 rfl rfl rfl rfl rfl (by kernel_rfl) rfl rfl (nmE (en := [.sl 2 k70 At21_0 ct21_0 t21_0 4 true, .sl 2 k70 At21_1 ct21_1 t21_1 5 true, .sl 2 k92 At22_0 ct22_0 t22_0 7 true, .sl 2 k70 At22_2 ct22_2 t22_2 8 true, .sl 2 k70 At22_3 ct22_3 t22_3 9 true, .sl 2 .bool At22_4 ct22_4 t22_4 10 true, .sl 1 k70 A_23 c_23 ((rd_T44 t1_0 0).f1) 12 true, .sl 1 k70 A_24 c_24 ((rd_T44 t1_0 0).f2) 13 true, .sl 1 .bool A_25 c_25 ((rd_T44 t1_0 0).f3) 14 true, holE k44 2 At1_0 ct1_0 t1_0 (0 : Int).toNat [.int .i64 t22_1, .slice At22_2 t22_2.length ct22_2, .slice At21_1 t21_1.length ct21_1, .slice At22_4 t22_4.length ct22_4, .int .i64 t22_5] 11]) (by kernel_rfl) ?_))))))))))))))))))))))))))))
        revert H; refine bdI ?_; intro s26 A26 H; have q26 := stl (Option.some.inj A26)
        refine hcl 9 (⟨t22_1, t22_2, t21_1, t22_4, t22_5⟩ : S44) [(At22_2, ct22_2), (At21_1, ct21_1), (At22_4, ct22_4)] [3, 1, 5] (Option.some.inj A26) rfl (by kernel_rfl) rfl (by kernel_rfl) (by kernel_rfl) (by kernel_rfl) (nmE (en := [.sl 2 k70 At21_0 ct21_0 t21_0 4 true, .sl 2 k70 At21_1 ct21_1 t21_1 11 true, .sl 2 k92 At22_0 ct22_0 t22_0 7 true, .sl 2 k70 At22_2 ct22_2 t22_2 11 true, .sl 2 k70 At22_3 ct22_3 t22_3 9 true, .sl 2 .bool At22_4 ct22_4 t22_4 11 true, .sl 1 k70 A_23 c_23 ((rd_T44 t1_0 0).f1) 12 true, .sl 1 k70 A_24 c_24 ((rd_T44 t1_0 0).f2) 13 true, .sl 1 .bool A_25 c_25 ((rd_T44 t1_0 0).f3) 14 true, .sl 2 k44 At1_0 ct1_0 s26 11 true]) (by kernel_rfl) (rlT 110 (v' := .slice At1_0 s26.length ct1_0) rfl (slq _ _ q26) (rlB 1 (cs' := [.slice At1_0 s26.length ct1_0, .int .i64 t1_1, .int .i64 t1_2]) rfl (by simp only [q26]) (re (pr [4, 8, 14, 16] [0, 1] [0, 2, 9] rfl rfl rfl rfl (gs (dr [1] [0, 1, 2] [6, 7] 8 rfl rfl rfl rfl (xv 0 [1] [0, 1, 2] rfl (EV.ld (v := .agg #[.slice At1_0 s26.length ct1_0, .int .i64 t1_1, .int .i64 t1_2]) 0 (some 3) rfl rfl rfl) rfl rfl rfl rfl (xv 1 [1] [0, 1, 2] rfl (EV.mv rfl) rfl rfl rfl rfl (xv 2 [1] [0, 1, 2] rfl (EV.mv rfl) rfl rfl rfl rfl (one1 3 rfl rfl ?_)))))))))))
        revert H; refine bdI ?_; rintro t27 A27 H
        refine op_call (impl_TotalCost.ok k t21_0 At21_0 ct21_0 _ A27) [⟨0, 0, 0, false⟩] 12 rfl rfl rfl rfl rfl ?_
        rintro _ _ _ ⟨rfl, rfl, rfl⟩
        refine xs [1] [0, 1, 2] rfl rfl rfl (one1 4 rfl rfl (op_st (cs' := [.slice At1_0 s26.length ct1_0, .int .i64 t1_1, .int .i64 t1_2]) 0 rfl rfl rfl rfl rfl rfl (xs [1] [0, 1, 2] rfl rfl rfl (one1 5 rfl rfl (ov (EV.as rfl) rfl (xs [1] [0, 1, 2] rfl rfl rfl (one1 6 rfl rfl (ov (EV.as rfl) rfl (xn rfl (one1 7 rfl rfl (ov (EV.as rfl) rfl (xn rfl (xd (pr [4, 5, 6, 7] [0] [1, 2] rfl rfl rfl rfl ?_))))))))))))))
        cases H
        exact rt Try.func54 rfl (.cell 0 (some 3) rfl rfl rfl (.tmp rfl (.tmp rfl (.tmp rfl .nil)))) rfl [] [⟨1, 1, 1, true⟩, ⟨0, 2, 2, true⟩] rfl rfl rfl rfl rfl ⟨_, _, _, _, rfl, rfl, rfl⟩
       ·
        obtain rfl := bF c20
        refine gf rfl rfl (gk (ge (gs (rg (sv (EV.ld (v := .agg #[.int .i64 ((rd_T44 t1_0 0).f0), .slice A_8 ((rd_T44 t1_0 0).f1).length c_8, .slice A_9 ((rd_T44 t1_0 0).f2).length c_9, .slice A_10 ((rd_T44 t1_0 0).f3).length c_10, .int .i64 ((rd_T44 t1_0 0).f4)]) 2 (some 5) rfl rfl rfl) rfl ?_)))))
        revert H; refine bdI ?_; rintro ⟨t28_0, t28_1, t28_2, t28_3, t28_4, t28_5, t28_6, t28_7, t28_8, t28_9, t28_10⟩ A28 H
        refine so rfl (op_call (impl_PartitionTask.ok k ((rd_T44 t1_0 0).f0) ((rd_T44 t1_0 0).f1) A_8 c_8 ((rd_T44 t1_0 0).f2) A_9 c_9 ((rd_T44 t1_0 0).f3) A_10 c_10 ((rd_T44 t1_0 0).f4) _ _ _ _ _ _ _ _ _ _ _ A28) [⟨2, 0, 0, false⟩, ⟨3, 0, 0, false⟩, ⟨4, 0, 0, false⟩] 3 rfl rfl rfl rfl rfl ?_)
        rintro _ _ _ ⟨At28_1, ct28_1, At28_2, ct28_2, At28_3, ct28_3, At28_6, ct28_6, At28_7, ct28_7, At28_8, ct28_8, rfl, rfl, rfl⟩
        refine sv (EV.mv rfl) rfl (sv (EV.ex rfl rfl) rfl (sv (EV.ex rfl rfl) rfl (sv (EV.ex rfl rfl) rfl (so rfl (op_alloc (cs := [.int .i64 0, .slice none 0 0, .slice none 0 0, .slice none 0 0, .int .i64 0]) (by kernel_rfl) rfl fun b18 => (so rfl (op_alloc (cs := [.int .i64 0, .slice none 0 0, .slice none 0 0, .slice none 0 0, .int .i64 0]) (by kernel_rfl) rfl fun b19 => (so rfl (op_st (cs' := [.int .i64 t28_0, .slice At28_1 t28_1.length ct28_1, .slice At28_2 t28_2.length ct28_2, .slice At28_3 t28_3.length ct28_3, .int .i64 t28_4]) 3 rfl rfl rfl rfl rfl rfl (so rfl (op_st (cs' := [.int .i64 t28_5, .slice At28_6 t28_6.length ct28_6, .slice At28_7 t28_7.length ct28_7, .slice At28_8 t28_8.length ct28_8, .int .i64 t28_9]) 4 rfl rfl rfl rfl rfl rfl (sv (EV.as rfl) rfl (re (pr [4, 8, 9, 18, 19] [0, 1, 2, 3, 4] [0, 1, 2, 3, 4, 5, 6, 7, 8, 9, 10] rfl rfl rfl rfl (gs ?_)))))))))))))))
        revert H; refine ggI ?_; intro g29 H
        refine dr [0, 1, 2, 3, 4] [] [7, 8] 9 rfl rfl rfl rfl (xv 0 [0, 1, 2, 3, 4] [] rfl (EV.ld (v := .agg #[.int .i64 t28_0, .slice At28_1 t28_1.length ct28_1, .slice At28_2 t28_2.length ct28_2, .slice At28_3 t28_3.length ct28_3, .int .i64 t28_4]) 3 (some 5) rfl rfl rfl) rfl rfl rfl rfl (xv 1 [0, 1, 2, 3, 4] [] rfl (EV.ld (v := .agg #[.int .i64 t28_5, .slice At28_6 t28_6.length ct28_6, .slice At28_7 t28_7.length ct28_7, .slice At28_8 t28_8.length ct28_8, .int .i64 t28_9]) 4 (some 5) rfl rfl rfl) rfl rfl rfl rfl (xv 3 [0, 1, 2, 3, 4] [] rfl (EV.fa 0 rfl) rfl rfl rfl rfl (xv 4 [0, 1, 2, 3, 4] [] rfl (EV.ld 1 none rfl rfl rfl) rfl rfl rfl rfl ?_))))
        refine one2 2 5 rfl rfl rfl rfl ?_ ?_
        ·
         refine op_lit (s := 5) (by_ := 88) k44 ([(⟨t28_0, t28_1, t28_2, t28_3, t28_4⟩ : S44), (⟨t28_5, t28_6, t28_7, t28_8, t28_9⟩ : S44)] : List S44) [[(At28_1, ct28_1), (At28_2, ct28_2), (At28_3, ct28_3)], [(At28_6, ct28_6), (At28_7, ct28_7), (At28_8, ct28_8)]] [5, 6, 7, 8, 9, 10] 10 [.tmp 123, .tmp 124] rfl rfl rfl rfl rfl rfl rfl rfl rfl rfl rfl rfl rfl dq rfl fun A125_30 c125_30 => (nmE (en := [.sl 2 k44 At1_0 ct1_0 t1_0 2 true, celE At1_0 ((0 : Int).toNat * 5) [.int .i64 ((rd_T44 t1_0 0).f0), .slice A_8 ((rd_T44 t1_0 0).f1).length c_8, .slice A_9 ((rd_T44 t1_0 0).f2).length c_9, .slice A_10 ((rd_T44 t1_0 0).f3).length c_10, .int .i64 ((rd_T44 t1_0 0).f4)] 2, .sl 1 k70 A_8 c_8 ((rd_T44 t1_0 0).f1) 2 true, .sl 1 k70 A_9 c_9 ((rd_T44 t1_0 0).f2) 2 true, .sl 1 .bool A_10 c_10 ((rd_T44 t1_0 0).f3) 2 true, .sl 2 k70 At28_1 ct28_1 t28_1 10 true, .sl 2 k70 At28_2 ct28_2 t28_2 10 true, .sl 2 .bool At28_3 ct28_3 t28_3 10 true, .sl 2 k70 At28_6 ct28_6 t28_6 10 true, .sl 2 k70 At28_7 ct28_7 t28_7 10 true, .sl 2 .bool At28_8 ct28_8 t28_8 10 true, .sl 2 k44 A125_30 c125_30 ([(⟨t28_0, t28_1, t28_2, t28_3, t28_4⟩ : S44), (⟨t28_5, t28_6, t28_7, t28_8, t28_9⟩ : S44)] : List S44) 10 true]) (by kernel_rfl) (xs [0, 1, 2, 3, 4] [] rfl rfl rfl (one1 5 rfl rfl (cutp (l' := t1_0.drop (1 : Int).toNat) 1 (t1_0.length : Int) 0 rfl dq g29 (Int.le_refl _) rfl 1 dq (.inl dq) ctl (ov (EV.ct 1 (t1_0.length : Int) 0 rfl rfl rfl rfl dq g29 (Int.le_refl _) rfl rfl ctnl) rfl (xs [0, 1, 2, 3, 4] [] rfl rfl rfl (one1 6 rfl rfl ?_)))))))
         revert H; refine ggI ?_; intro g31 H
         refine op_app (k := k44) (s := 5) (by_ := 88) 11 12 rfl rfl rfl rfl (ap2 g31 dq) (ap2n g31 dq) (.inr ⟨dq, dq, rfl, dq⟩) true (fun _ => .inr ⟨rfl, rfl, dq⟩) rfl rfl fun A129_32 c129_32 => (nmE (en := [.sl 2 k44 At1_0 ct1_0 t1_0 10 true, celE At1_0 ((0 : Int).toNat * 5) [.int .i64 ((rd_T44 t1_0 0).f0), .slice A_8 ((rd_T44 t1_0 0).f1).length c_8, .slice A_9 ((rd_T44 t1_0 0).f2).length c_9, .slice A_10 ((rd_T44 t1_0 0).f3).length c_10, .int .i64 ((rd_T44 t1_0 0).f4)] 10, .sl 1 k70 A_8 c_8 ((rd_T44 t1_0 0).f1) 10 true, .sl 1 k70 A_9 c_9 ((rd_T44 t1_0 0).f2) 10 true, .sl 1 .bool A_10 c_10 ((rd_T44 t1_0 0).f3) 10 true, .sl 1 k44 (cutA At1_0 ct1_0 (1 : Int).toNat 5) (ct1_0 - (1 : Int).toNat) (t1_0.drop (1 : Int).toNat) 10 true, .sl 2 k44 A129_32 c129_32 (([(⟨t28_0, t28_1, t28_2, t28_3, t28_4⟩ : S44), (⟨t28_5, t28_6, t28_7, t28_8, t28_9⟩ : S44)] : List S44) ++ (t1_0.drop (1 : Int).toNat)) 10 true]) (by kernel_rfl) (xs [0, 1, 2, 3, 4] [] rfl rfl rfl (one1 7 rfl rfl (ov (EV.fa 0 rfl) rfl (xn rfl (one1 8 rfl rfl (op_st (cs' := [.slice A129_32 (([(⟨t28_0, t28_1, t28_2, t28_3, t28_4⟩ : S44), (⟨t28_5, t28_6, t28_7, t28_8, t28_9⟩ : S44)] : List S44) ++ (t1_0.drop (1 : Int).toNat)).length c129_32, .int .i64 t1_1, .int .i64 t1_2]) 1 rfl rfl rfl rfl rfl rfl (xn rfl (xd (pr [4, 8, 9] [0, 1, 2] [2, 3, 4, 6] rfl rfl rfl rfl (gs (dr [0, 1, 2] [0, 1, 2, 3] [6] 7 rfl rfl rfl rfl (xv 0 [0, 1, 2] [0, 1, 2, 3] rfl (EV.fa 1 rfl) rfl rfl rfl rfl (xv 1 [0, 1, 2] [0, 1, 2, 3] rfl (EV.ld 1 none rfl rfl rfl) rfl rfl rfl rfl (xv 2 [0, 1, 2] [0, 1, 2, 3] rfl (EV.ld (v := .agg #[.int .i64 ((rd_T44 t1_0 0).f0), .slice A_8 ((rd_T44 t1_0 0).f1).length c_8, .slice A_9 ((rd_T44 t1_0 0).f2).length c_9, .slice A_10 ((rd_T44 t1_0 0).f3).length c_10, .int .i64 ((rd_T44 t1_0 0).f4)]) 2 (some 5) rfl rfl rfl) rfl rfl rfl rfl (one1 3 rfl rfl ?_))))))))))))))))
         revert H; refine bdI ?_; rintro t33 A33 H
         refine op_call (impl_TaskCost.ok k ((rd_T44 t1_0 0).f0) ((rd_T44 t1_0 0).f1) A_8 c_8 ((rd_T44 t1_0 0).f2) A_9 c_9 ((rd_T44 t1_0 0).f3) A_10 c_10 ((rd_T44 t1_0 0).f4) _ A33) [⟨0, 0, 0, false⟩, ⟨1, 0, 0, false⟩, ⟨2, 0, 0, false⟩] 11 rfl rfl rfl rfl rfl ?_
         rintro _ _ _ ⟨rfl, rfl, rfl⟩
         refine xs [0, 1, 2] [0, 1, 2, 3] rfl rfl rfl (xv 4 [0, 1, 2] [0, 1, 2, 3] rfl (EV.add rfl rfl) rfl rfl rfl rfl (xv 5 [0, 1, 2] [0, 1, 2, 3] rfl (EV.fa 1 rfl) rfl rfl rfl rfl (one1 6 rfl rfl (op_st (cs' := [.slice A129_32 (([(⟨t28_0, t28_1, t28_2, t28_3, t28_4⟩ : S44), (⟨t28_5, t28_6, t28_7, t28_8, t28_9⟩ : S44)] : List S44) ++ (t1_0.drop (1 : Int).toNat)).length c129_32, .int .i64 (wrap64 (t1_1 + t33)), .int .i64 t1_2]) 1 rfl rfl rfl rfl rfl rfl (xn rfl (xd (pr [4, 8] [0, 1] [3] rfl rfl rfl rfl (gs (rg (sv (EV.fa 2 rfl) rfl (sv (EV.ld 1 none rfl rfl rfl) rfl (sv (EV.add rfl rfl) rfl (sv (EV.fa 2 rfl) rfl (so rfl (op_st (cs' := [.slice A129_32 (([(⟨t28_0, t28_1, t28_2, t28_3, t28_4⟩ : S44), (⟨t28_5, t28_6, t28_7, t28_8, t28_9⟩ : S44)] : List S44) ++ (t1_0.drop (1 : Int).toNat)).length c129_32, .int .i64 (wrap64 (t1_1 + t33)), .int .i64 (wrap64 (t1_2 + 1))]) 1 rfl rfl rfl rfl rfl rfl (re (gs (rg (sv (EV.ld (v := .agg #[.slice A129_32 (([(⟨t28_0, t28_1, t28_2, t28_3, t28_4⟩ : S44), (⟨t28_5, t28_6, t28_7, t28_8, t28_9⟩ : S44)] : List S44) ++ (t1_0.drop (1 : Int).toNat)).length c129_32, .int .i64 (wrap64 (t1_1 + t33)), .int .i64 (wrap64 (t1_2 + 1))]) 1 (some 3) rfl rfl rfl) rfl (so rfl (op_st (cs' := [.slice A129_32 (([(⟨t28_0, t28_1, t28_2, t28_3, t28_4⟩ : S44), (⟨t28_5, t28_6, t28_7, t28_8, t28_9⟩ : S44)] : List S44) ++ (t1_0.drop (1 : Int).toNat)).length c129_32, .int .i64 (wrap64 (t1_1 + t33)), .int .i64 (wrap64 (t1_2 + 1))]) 0 rfl rfl rfl rfl rfl rfl (sv (EV.as rfl) rfl (sv (EV.as rfl) rfl (sv (EV.as rfl) rfl (re (pr [4, 5, 6, 7] [0] [0] rfl rfl rfl rfl (nil_ k92 11 dq ?_)))))))))))))))))))))))))))
         cases H
         exact rt Try.func54 rfl (.cell 0 (some 3) rfl rfl rfl (.tmp rfl (.tmp rfl (.tmp rfl .nil)))) rfl [] [⟨0, 1, 1, true⟩, ⟨1, 2, 2, true⟩] rfl rfl rfl rfl rfl ⟨_, _, _, _, rfl, rfl, rfl⟩
        ·
         refine cutp (l' := t1_0.drop (1 : Int).toNat) 1 (t1_0.length : Int) 0 rfl dq g29 (Int.le_refl _) rfl 1 dq (.inl dq) ctl (ov (EV.ct 1 (t1_0.length : Int) 0 rfl rfl rfl rfl dq g29 (Int.le_refl _) rfl rfl ctnl) rfl (xs [0, 1, 2, 3, 4] [] rfl rfl rfl (one1 2 rfl rfl (op_lit (s := 5) (by_ := 88) k44 ([(⟨t28_0, t28_1, t28_2, t28_3, t28_4⟩ : S44), (⟨t28_5, t28_6, t28_7, t28_8, t28_9⟩ : S44)] : List S44) [[(At28_1, ct28_1), (At28_2, ct28_2), (At28_3, ct28_3)], [(At28_6, ct28_6), (At28_7, ct28_7), (At28_8, ct28_8)]] [5, 6, 7, 8, 9, 10] 10 [.tmp 123, .tmp 124] rfl rfl rfl rfl rfl rfl rfl rfl rfl rfl rfl rfl rfl dq rfl fun A125_34 c125_34 => (nmE (en := [.sl 2 k44 At1_0 ct1_0 t1_0 2 true, celE At1_0 ((0 : Int).toNat * 5) [.int .i64 ((rd_T44 t1_0 0).f0), .slice A_8 ((rd_T44 t1_0 0).f1).length c_8, .slice A_9 ((rd_T44 t1_0 0).f2).length c_9, .slice A_10 ((rd_T44 t1_0 0).f3).length c_10, .int .i64 ((rd_T44 t1_0 0).f4)] 2, .sl 1 k70 A_8 c_8 ((rd_T44 t1_0 0).f1) 2 true, .sl 1 k70 A_9 c_9 ((rd_T44 t1_0 0).f2) 2 true, .sl 1 .bool A_10 c_10 ((rd_T44 t1_0 0).f3) 2 true, .sl 2 k70 At28_1 ct28_1 t28_1 10 true, .sl 2 k70 At28_2 ct28_2 t28_2 10 true, .sl 2 .bool At28_3 ct28_3 t28_3 10 true, .sl 2 k70 At28_6 ct28_6 t28_6 10 true, .sl 2 k70 At28_7 ct28_7 t28_7 10 true, .sl 2 .bool At28_8 ct28_8 t28_8 10 true, .sl 1 k44 (cutA At1_0 ct1_0 (1 : Int).toNat 5) (ct1_0 - (1 : Int).toNat) (t1_0.drop (1 : Int).toNat) 2 true, .sl 2 k44 A125_34 c125_34 ([(⟨t28_0, t28_1, t28_2, t28_3, t28_4⟩ : S44), (⟨t28_5, t28_6, t28_7, t28_8, t28_9⟩ : S44)] : List S44) 10 true]) (by kernel_rfl) (xs [0, 1, 2, 3, 4] [] rfl rfl rfl (one1 6 rfl rfl ?_)))))))
         revert H; refine ggI ?_; intro g35 H
         refine op_app (k := k44) (s := 5) (by_ := 88) 12 11 rfl rfl rfl rfl (ap2 g35 dq) (ap2n g35 dq) (.inr ⟨dq, dq, rfl, dq⟩) true (fun _ => .inr ⟨rfl, rfl, dq⟩) rfl rfl fun A129_36 c129_36 => (nmE (en := [.sl 2 k44 At1_0 ct1_0 t1_0 10 true, celE At1_0 ((0 : Int).toNat * 5) [.int .i64 ((rd_T44 t1_0 0).f0), .slice A_8 ((rd_T44 t1_0 0).f1).length c_8, .slice A_9 ((rd_T44 t1_0 0).f2).length c_9, .slice A_10 ((rd_T44 t1_0 0).f3).length c_10, .int .i64 ((rd_T44 t1_0 0).f4)] 10, .sl 1 k70 A_8 c_8 ((rd_T44 t1_0 0).f1) 10 true, .sl 1 k70 A_9 c_9 ((rd_T44 t1_0 0).f2) 10 true, .sl 1 .bool A_10 c_10 ((rd_T44 t1_0 0).f3) 10 true, .sl 1 k44 (cutA At1_0 ct1_0 (1 : Int).toNat 5) (ct1_0 - (1 : Int).toNat) (t1_0.drop (1 : Int).toNat) 10 true, .sl 2 k44 A129_36 c129_36 (([(⟨t28_0, t28_1, t28_2, t28_3, t28_4⟩ : S44), (⟨t28_5, t28_6, t28_7, t28_8, t28_9⟩ : S44)] : List S44) ++ (t1_0.drop (1 : Int).toNat)) 10 true]) (by kernel_rfl) (xs [0, 1, 2, 3, 4] [] rfl rfl rfl (one1 7 rfl rfl (ov (EV.fa 0 rfl) rfl (xn rfl (one1 8 rfl rfl (op_st (cs' := [.slice A129_36 (([(⟨t28_0, t28_1, t28_2, t28_3, t28_4⟩ : S44), (⟨t28_5, t28_6, t28_7, t28_8, t28_9⟩ : S44)] : List S44) ++ (t1_0.drop (1 : Int).toNat)).length c129_36, .int .i64 t1_1, .int .i64 t1_2]) 1 rfl rfl rfl rfl rfl rfl (xn rfl (xd (pr [4, 8, 9] [0, 1, 2] [2, 3, 4, 6] rfl rfl rfl rfl (gs (dr [0, 1, 2] [0, 1, 2, 3] [6] 7 rfl rfl rfl rfl (xv 0 [0, 1, 2] [0, 1, 2, 3] rfl (EV.fa 1 rfl) rfl rfl rfl rfl (xv 1 [0, 1, 2] [0, 1, 2, 3] rfl (EV.ld 1 none rfl rfl rfl) rfl rfl rfl rfl (xv 2 [0, 1, 2] [0, 1, 2, 3] rfl (EV.ld (v := .agg #[.int .i64 ((rd_T44 t1_0 0).f0), .slice A_8 ((rd_T44 t1_0 0).f1).length c_8, .slice A_9 ((rd_T44 t1_0 0).f2).length c_9, .slice A_10 ((rd_T44 t1_0 0).f3).length c_10, .int .i64 ((rd_T44 t1_0 0).f4)]) 2 (some 5) rfl rfl rfl) rfl rfl rfl rfl (one1 3 rfl rfl ?_))))))))))))))))
         revert H; refine bdI ?_; rintro t37 A37 H
         refine op_call (impl_TaskCost.ok k ((rd_T44 t1_0 0).f0) ((rd_T44 t1_0 0).f1) A_8 c_8 ((rd_T44 t1_0 0).f2) A_9 c_9 ((rd_T44 t1_0 0).f3) A_10 c_10 ((rd_T44 t1_0 0).f4) _ A37) [⟨0, 0, 0, false⟩, ⟨1, 0, 0, false⟩, ⟨2, 0, 0, false⟩] 11 rfl rfl rfl rfl rfl ?_
         rintro _ _ _ ⟨rfl, rfl, rfl⟩
         refine xs [0, 1, 2] [0, 1, 2, 3] rfl rfl rfl (xv 4 [0, 1, 2] [0, 1, 2, 3] rfl (EV.add rfl rfl) rfl rfl rfl rfl (xv 5 [0, 1, 2] [0, 1, 2, 3] rfl (EV.fa 1 rfl) rfl rfl rfl rfl (one1 6 rfl rfl (op_st (cs' := [.slice A129_36 (([(⟨t28_0, t28_1, t28_2, t28_3, t28_4⟩ : S44), (⟨t28_5, t28_6, t28_7, t28_8, t28_9⟩ : S44)] : List S44) ++ (t1_0.drop (1 : Int).toNat)).length c129_36, .int .i64 (wrap64 (t1_1 + t37)), .int .i64 t1_2]) 1 rfl rfl rfl rfl rfl rfl (xn rfl (xd (pr [4, 8] [0, 1] [3] rfl rfl rfl rfl (gs (rg (sv (EV.fa 2 rfl) rfl (sv (EV.ld 1 none rfl rfl rfl) rfl (sv (EV.add rfl rfl) rfl (sv (EV.fa 2 rfl) rfl (so rfl (op_st (cs' := [.slice A129_36 (([(⟨t28_0, t28_1, t28_2, t28_3, t28_4⟩ : S44), (⟨t28_5, t28_6, t28_7, t28_8, t28_9⟩ : S44)] : List S44) ++ (t1_0.drop (1 : Int).toNat)).length c129_36, .int .i64 (wrap64 (t1_1 + t37)), .int .i64 (wrap64 (t1_2 + 1))]) 1 rfl rfl rfl rfl rfl rfl (re (gs (rg (sv (EV.ld (v := .agg #[.slice A129_36 (([(⟨t28_0, t28_1, t28_2, t28_3, t28_4⟩ : S44), (⟨t28_5, t28_6, t28_7, t28_8, t28_9⟩ : S44)] : List S44) ++ (t1_0.drop (1 : Int).toNat)).length c129_36, .int .i64 (wrap64 (t1_1 + t37)), .int .i64 (wrap64 (t1_2 + 1))]) 1 (some 3) rfl rfl rfl) rfl (so rfl (op_st (cs' := [.slice A129_36 (([(⟨t28_0, t28_1, t28_2, t28_3, t28_4⟩ : S44), (⟨t28_5, t28_6, t28_7, t28_8, t28_9⟩ : S44)] : List S44) ++ (t1_0.drop (1 : Int).toNat)).length c129_36, .int .i64 (wrap64 (t1_1 + t37)), .int .i64 (wrap64 (t1_2 + 1))]) 0 rfl rfl rfl rfl rfl rfl (sv (EV.as rfl) rfl (sv (EV.as rfl) rfl (sv (EV.as rfl) rfl (re (pr [4, 5, 6, 7] [0] [0] rfl rfl rfl rfl (nil_ k92 11 dq ?_)))))))))))))))))))))))))))
         cases H
         exact rt Try.func54 rfl (.cell 0 (some 3) rfl rfl rfl (.tmp rfl (.tmp rfl (.tmp rfl .nil)))) rfl [] [⟨0, 1, 1, true⟩, ⟨1, 2, 2, true⟩] rfl rfl rfl rfl rfl ⟨_, _, _, _, rfl, rfl, rfl⟩
      ·
       refine gt rfl (nT c18) (gs (rg (sv (EV.fa 0 rfl) rfl (sv (EV.ld 1 none rfl rfl rfl) rfl ?_))))
       revert H; refine ggI ?_; intro g38 H
       refine cutp (l' := t1_0.drop (1 : Int).toNat) 1 (t1_0.length : Int) 0 rfl dq g38 (Int.le_refl _) rfl 1 dq (.inl dq) ctl (sv (EV.ct 1 (t1_0.length : Int) 0 rfl rfl rfl rfl dq g38 (Int.le_refl _) rfl rfl ctnl) rfl (sv (EV.fa 0 rfl) rfl (so rfl (op_st (cs' := [.slice (cutA At1_0 ct1_0 (1 : Int).toNat 5) (t1_0.drop (1 : Int).toNat).length (ct1_0 - (1 : Int).toNat), .int .i64 t1_1, .int .i64 t1_2]) 1 rfl rfl rfl rfl rfl rfl (re (pr [4, 8, 9, 10] [0, 1, 2] [2, 3, 4, 5] rfl rfl rfl rfl (gs (rg (sv (EV.ld (v := .agg #[.int .i64 ((rd_T44 t1_0 0).f0), .slice A_8 ((rd_T44 t1_0 0).f1).length c_8, .slice A_9 ((rd_T44 t1_0 0).f2).length c_9, .slice A_10 ((rd_T44 t1_0 0).f3).length c_10, .int .i64 ((rd_T44 t1_0 0).f4)]) 2 (some 5) rfl rfl rfl) rfl (sv (EV.fa 2 rfl) rfl (sv (EV.ld 2 none rfl rfl rfl) rfl ?_)))))))))))
       revert H; refine bdI ?_; rintro ⟨t39_0, t39_1, t39_2, t39_3, t39_4, t39_5⟩ A39 H
       refine so rfl (op_call (impl_JoinChunk.ok k ((rd_T44 t1_0 0).f0) ((rd_T44 t1_0 0).f1) A_8 c_8 ((rd_T44 t1_0 0).f2) A_9 c_9 ((rd_T44 t1_0 0).f3) A_10 c_10 ((rd_T44 t1_0 0).f4) ((rd_T44 t1_0 0).f2) A_9 c_9 _ _ _ _ _ _ A39) [⟨0, 0, 0, false⟩, ⟨1, 0, 0, false⟩, ⟨2, 0, 0, false⟩, ⟨1, 0, 0, false⟩] 3 rfl rfl rfl rfl rfl ?_)
       rintro _ _ _ ⟨At39_0, ct39_0, At39_2, ct39_2, At39_3, ct39_3, At39_4, ct39_4, rfl, rfl, rfl⟩
       refine sv (EV.mv rfl) rfl (sv (EV.ex rfl rfl) rfl (sv (EV.ex rfl rfl) rfl (so rfl (op_alloc (cs := [.int .i64 0, .slice none 0 0, .slice none 0 0, .slice none 0 0, .int .i64 0]) (by kernel_rfl) rfl fun b12 => (sv (EV.as rfl) rfl (so rfl (op_st (cs' := [.int .i64 t39_1, .slice At39_2 t39_2.length ct39_2, .slice At39_3 t39_3.length ct39_3, .slice At39_4 t39_4.length ct39_4, .int .i64 t39_5]) 3 rfl rfl rfl rfl rfl rfl (re (pr [4, 8, 9, 10, 11, 12] [0, 1, 2, 3] [0, 1, 2, 3, 4, 5, 6, 7] rfl rfl rfl rfl (gs (rg (sv (EV.fa 2 rfl) rfl (sv (EV.ld 2 none rfl rfl rfl) rfl ?_)))))))))))))
       revert H; refine bdI ?_; rintro t40 A40 H
       refine so rfl (op_call (impl_TotalCost.ok k ((rd_T44 t1_0 0).f2) A_9 c_9 _ A40) [⟨1, 0, 0, false⟩] 8 rfl rfl rfl rfl rfl ?_)
       rintro _ _ _ ⟨rfl, rfl, rfl⟩
       refine sv (EV.as rfl) rfl (re ?_)
       refine jo (fun S => ∃ (m : Nat) (x2_11 : List S92) (Ax2_11 : Option Addr) (cx2_11 : Nat) (x2_13 : Int) (x2_4_0 : List S44) (Ax2_4_0 : Option Addr) (cx2_4_0 : Nat) (x2_4_1 : Int) (x2_4_2 : Int) (x2_8_0 : List S44) (Ax2_8_0 : Option Addr) (cx2_8_0 : Nat) (x2_8_1 : Int) (x2_8_2 : Int) (x2_12_0 : Int) (x2_12_1 : List S70) (Ax2_12_1 : Option Addr) (cx2_12_1 : Nat) (x2_12_2 : List S70) (Ax2_12_2 : Option Addr) (cx2_12_2 : Nat) (x2_12_3 : List Bool) (Ax2_12_3 : Option Addr) (cx2_12_3 : Nat) (x2_12_4 : Int), impl_StepJoiner.j0 m x2_11 x2_13 x2_4_0 x2_4_1 x2_4_2 x2_8_0 x2_8_1 x2_8_2 x2_12_0 x2_12_1 x2_12_2 x2_12_3 x2_12_4 = some (r0, r1, r2, r3, r4, r5) ∧ S = ⟨[(4, .pointer (some ⟨b4, 0, none⟩)), (8, .pointer (some ⟨b8, 0, none⟩)), (11, .slice Ax2_11 x2_11.length cx2_11), (12, .pointer (some ⟨b12, 0, none⟩)), (13, .int .i64 x2_13)], [⟨b4, 73, [.slice Ax2_4_0 x2_4_0.length cx2_4_0, .int .i64 x2_4_1, .int .i64 x2_4_2]⟩, ⟨b8, 73, [.slice Ax2_8_0 x2_8_0.length cx2_8_0, .int .i64 x2_8_1, .int .i64 x2_8_2]⟩, ⟨b12, 44, [.int .i64 x2_12_0, .slice Ax2_12_1 x2_12_1.length cx2_12_1, .slice Ax2_12_2 x2_12_2.length cx2_12_2, .slice Ax2_12_3 x2_12_3.length cx2_12_3, .int .i64 x2_12_4]⟩], [.sl 2 k92 Ax2_11 cx2_11 x2_11 1 true, .sl 2 k44 Ax2_4_0 cx2_4_0 x2_4_0 2 true, .sl 1 k44 Ax2_8_0 cx2_8_0 x2_8_0 3 true, .sl 2 k70 Ax2_12_1 cx2_12_1 x2_12_1 4 true, .sl 2 k70 Ax2_12_2 cx2_12_2 x2_12_2 5 true, .sl 2 .bool Ax2_12_3 cx2_12_3 x2_12_3 6 true]⟩) (fun S hS => ?_) (fun jh0 => ?_)
       ·
        clear H
        obtain ⟨m41, x2_11, Ax2_11, cx2_11, x2_13, x2_4_0, Ax2_4_0, cx2_4_0, x2_4_1, x2_4_2, x2_8_0, Ax2_8_0, cx2_8_0, x2_8_1, x2_8_2, x2_12_0, x2_12_1, Ax2_12_1, cx2_12_1, x2_12_2, Ax2_12_2, cx2_12_2, x2_12_3, Ax2_12_3, cx2_12_3, x2_12_4, H, rfl⟩ := hS
        rcases m41 with _ | m41
        · rw [impl_StepJoiner.j0] at H; cases H
        rw [impl_StepJoiner.j0] at H
        refine gs (dr [1, 2] [1, 2, 3, 4, 5] [8, 9] 10 rfl rfl rfl rfl (xv 0 [1, 2] [1, 2, 3, 4, 5] rfl (EV.ld (v := .agg #[.slice Ax2_8_0 x2_8_0.length cx2_8_0, .int .i64 x2_8_1, .int .i64 x2_8_2]) 0 (some 3) rfl rfl rfl) rfl rfl rfl rfl (xv 1 [1, 2] [1, 2, 3, 4, 5] rfl (EV.mv rfl) rfl rfl rfl rfl (xv 2 [1, 2] [1, 2, 3, 4, 5] rfl (EV.ld (v := .agg #[.int .i64 x2_12_0, .slice Ax2_12_1 x2_12_1.length cx2_12_1, .slice Ax2_12_2 x2_12_2.length cx2_12_2, .slice Ax2_12_3 x2_12_3.length cx2_12_3, .int .i64 x2_12_4]) 1 (some 5) rfl rfl rfl) rfl rfl rfl rfl (xv 5 [1, 2] [1, 2, 3, 4, 5] rfl (EV.mv rfl) rfl rfl rfl rfl (one1 3 rfl rfl ?_))))))
        revert H; refine bdI ?_; rintro t42 A42 H
        refine op_call (impl_UnmatchedRows.ok m41 x2_12_0 x2_12_1 Ax2_12_1 cx2_12_1 x2_12_2 Ax2_12_2 cx2_12_2 x2_12_3 Ax2_12_3 cx2_12_3 x2_12_4 _ A42) [⟨3, 0, 0, false⟩, ⟨4, 0, 0, false⟩, ⟨5, 0, 0, false⟩] 7 rfl rfl rfl rfl rfl ?_
        rintro _ _ _ ⟨At42, ct42, rfl, rfl, rfl⟩
        refine xs [1, 2] [1, 2, 3, 4, 5] rfl rfl rfl (one1 4 rfl rfl ?_)
        revert H; refine ggI ?_; intro g43 H
        refine op_app (k := k92) (s := 7) (by_ := 56) 0 6 rfl rfl rfl rfl (ap2 g43 dq) (ap2n g43 dq) (.inl rfl) true (fun _ => .inl rfl) rfl rfl fun A89_44 c89_44 => (nmE (en := [.sl 2 k44 Ax2_4_0 cx2_4_0 x2_4_0 2 true, .sl 1 k44 Ax2_8_0 cx2_8_0 x2_8_0 3 true, .sl 2 k70 Ax2_12_1 cx2_12_1 x2_12_1 4 true, .sl 2 k70 Ax2_12_2 cx2_12_2 x2_12_2 5 true, .sl 2 .bool Ax2_12_3 cx2_12_3 x2_12_3 6 true, .sl 2 k92 At42 ct42 t42 8 true, .sl 2 k92 A89_44 c89_44 (x2_11 ++ t42) 1 true]) (by kernel_rfl) (xs [1, 2] [0, 1, 2, 3, 4] rfl rfl rfl (one1 6 rfl rfl (op_st (cs' := [.slice Ax2_8_0 x2_8_0.length cx2_8_0, .int .i64 x2_8_1, .int .i64 x2_8_2]) 0 rfl rfl rfl rfl rfl rfl (xs [1, 2] [0, 1, 2, 3, 4] rfl rfl rfl (one1 7 rfl rfl (ov (EV.as rfl) rfl (xs [1, 2] [0, 1, 2, 3, 4] rfl rfl rfl (one1 8 rfl rfl (ov (EV.as rfl) rfl (xn rfl (one1 9 rfl rfl (ov (EV.as rfl) rfl (xn rfl (xd (pr [4, 5, 6, 7] [0] [1, 6] rfl rfl rfl rfl ?_))))))))))))))))
        cases H
        exact rt Try.func54 rfl (.cell 0 (some 3) rfl rfl rfl (.tmp rfl (.tmp rfl (.tmp rfl .nil)))) rfl [] [⟨0, 1, 1, true⟩, ⟨1, 2, 2, true⟩] rfl rfl rfl rfl rfl ⟨_, _, _, _, rfl, rfl, rfl⟩
       ·
        refine gs (rg (sv (EV.mv rfl) rfl (sv (EV.eql rfl rfl) rfl (re ?_))))
        revert H; refine ifsI ?_ ?_ <;> intro c45 H
        ·
         refine gt rfl (dT c45) (rg (sv (EV.fa 1 rfl) rfl (sv (EV.ld 2 none rfl rfl rfl) rfl ?_)))
         revert H; refine bdI ?_; rintro t46 A46 H
         refine so rfl (op_call (impl_TotalCost.ok k ((rd_T44 t1_0 0).f1) A_8 c_8 _ A46) [⟨0, 0, 0, false⟩] 8 rfl rfl rfl rfl rfl ?_)
         rintro _ _ _ ⟨rfl, rfl, rfl⟩
         exact sv (EV.as rfl) rfl (re (pr [4, 8, 11, 12, 13] [0, 1, 3] [3, 4, 5, 6, 7] rfl rfl rfl rfl (nil_ k44 8 dq (wk [4, 8, 11, 12, 13] [0, 1, 2] [⟨1, 2, 1, true⟩, ⟨5, 2, 2, true⟩, ⟨0, 1, 3, true⟩, ⟨2, 2, 4, true⟩, ⟨3, 2, 5, true⟩, ⟨4, 2, 6, true⟩] (jh0 _ ⟨_, t39_0, At39_0, ct39_0, t46, [], none, 0, 0, 0, t1_0.drop (1 : Int).toNat, (cutA At1_0 ct1_0 (1 : Int).toNat 5), (ct1_0 - (1 : Int).toNat), t1_1, t1_2, t39_1, t39_2, At39_2, ct39_2, t39_3, At39_3, ct39_3, t39_4, At39_4, ct39_4, t39_5, H, rfl⟩)))))
        ·
         exact gf rfl (dF c45) (gk (nil_ k44 8 dq (wk [4, 8, 11, 12, 13] [0, 1, 3] [⟨4, 2, 1, true⟩, ⟨8, 2, 2, true⟩, ⟨3, 1, 3, true⟩, ⟨5, 2, 4, true⟩, ⟨6, 2, 5, true⟩, ⟨7, 2, 6, true⟩] (jh0 _ ⟨_, t39_0, At39_0, ct39_0, t40, [], none, 0, 0, 0, t1_0.drop (1 : Int).toNat, (cutA At1_0 ct1_0 (1 : Int).toNat 5), (ct1_0 - (1 : Int).toNat), t1_1, t1_2, t39_1, t39_2, At39_2, ct39_2, t39_3, At39_3, ct39_3, t39_4, At39_4, ct39_4, t39_5, H, rfl⟩))))
   ·
    obtain rfl := bF c6
    refine gt rfl rfl (gs (rg (sv (EV.ld (v := .agg #[.slice At1_0 t1_0.length ct1_0, .int .i64 t1_1, .int .i64 t1_2]) 1 (some 3) rfl rfl rfl) rfl (so rfl (op_st (cs' := [.slice At1_0 t1_0.length ct1_0, .int .i64 t1_1, .int .i64 t1_2]) 0 rfl rfl rfl rfl rfl rfl (sv (EV.as rfl) rfl (sv (EV.as rfl) rfl (sv (EV.as rfl) rfl (re (nil_ k92 3 dq ?_))))))))))
    cases H
    exact rt Try.func54 rfl (.cell 0 (some 3) rfl rfl rfl (.tmp rfl (.tmp rfl (.tmp rfl .nil)))) rfl [] [⟨0, 1, 1, true⟩, ⟨1, 2, 2, true⟩] rfl rfl rfl rfl rfl ⟨_, _, _, _, rfl, rfl, rfl⟩
 ·
  obtain rfl := bF c3
  refine ts 26 rfl rfl (sk rfl (sk rfl (sk rfl (sk rfl (sv (EV.pt rfl rfl rfl) rfl (sv (EV.mv rfl) rfl (sk rfl (sk rfl (sk rfl (sv (EV.pt rfl rfl rfl) rfl (re (pr [1, 4, 8, 36] [1, 2] [1] rfl rfl rfl rfl (gt rfl rfl (gs (rg (sv (EV.ld (v := .agg #[.slice At1_0 t1_0.length ct1_0, .int .i64 t1_1, .int .i64 t1_2]) 1 (some 3) rfl rfl rfl) rfl (so rfl (op_st (cs' := [.slice At1_0 t1_0.length ct1_0, .int .i64 t1_1, .int .i64 t1_2]) 0 rfl rfl rfl rfl rfl rfl (sv (EV.as rfl) rfl (sv (EV.as rfl) rfl (sv (EV.as rfl) rfl (re (nil_ k92 3 dq ?_)))))))))))))))))))))))
  cases H
  exact rt Try.func54 rfl (.cell 0 (some 3) rfl rfl rfl (.tmp rfl (.tmp rfl (.tmp rfl .nil)))) rfl [] [⟨0, 1, 1, true⟩, ⟨1, 2, 2, true⟩] rfl rfl rfl rfl rfl ⟨_, _, _, _, rfl, rfl, rfl⟩
end Go.Proofs.Ytajjeemkdjfilaa.K
namespace Go.Proofs.Ytajjeemkdjfilaa.K
open Go Go.RowKit
set_option linter.unusedVariables false
set_option linter.unusedSimpArgs false
def impl_runJoiner.l0 : Nat → (List S44) → Int → Int → (List S92) → Int → Int → Int → (List S92) → Int → Int → Int → (List Int) → Option ((List S92) × Int × Int × Int × Bool)
 | 0, _, _, _, _, _, _, _, _, _, _, _, _ => none
 | k + 1, x4_2_0, x4_2_1, x4_2_2, x4_4_0, x4_4_1, x4_4_2, x4_4_3, x4_6_0, x4_6_1, x4_6_2, x4_6_3, l1 => if (x4_2_0.length : Int) > 0 then (if (l1.length : Int) ≠ 0 then (if 0 ≤ (Int.tmod x4_6_1 (l1.length : Int)) then (if (Int.tmod x4_6_1 (l1.length : Int)) < (l1.length : Int) then ((impl_StepJoiner.f k x4_2_0 x4_2_1 x4_2_2 (rdOf 0 l1 (Int.tmod x4_6_1 (l1.length : Int)))).bind fun bt5 => (if bt5.2.2.2.2.2 = true then (if x4_6_0.length + bt5.2.2.2.1.length ≤ 2513169434916 then (impl_runJoiner.l0 k bt5.1 bt5.2.1 bt5.2.2.1 x4_4_0 x4_4_1 x4_4_2 x4_4_3 (x4_6_0 ++ bt5.2.2.2.1) (wrap64 (x4_6_1 + 1)) (mx x4_6_2 bt5.2.2.2.2.1) x4_6_3 l1) else none) else (some ([], 0, 0, 0, false)))) else none) else none) else none) else (some (x4_6_0, x4_6_1, x4_6_2, x4_2_1, true))
def impl_runJoiner.f (k : Nat) (l0_0 : List S44) (a0_1 : Int) (a0_2 : Int) (l1 : List Int) : Option ((List S92) × Int × Int × Int × Bool) := impl_runJoiner.l0 k l0_0 a0_1 a0_2 [] 0 0 0 [] 0 0 0 l1
set_option maxHeartbeats 4000000 in
set_option maxRecDepth 100000 in
theorem impl_runJoiner.ok (k : Nat) (l0_0 : List S44) (Al0_0 : Option Addr) (cl0_0 : Nat) (a0_1 : Int) (a0_2 : Int) (l1 : List Int) (Al1 : Option Addr) (cl1 : Nat) (r0 : List S92) (r1 : Int) (r2 : Int) (r3 : Int) (r4 : Bool) (H : impl_runJoiner.f k l0_0 a0_1 a0_2 l1 = some (r0, r1, r2, r3, r4)) : Fn Try.prog 67 [.agg #[.slice Al0_0 l0_0.length cl0_0, .int .i64 a0_1, .int .i64 a0_2], .slice Al1 l1.length cl1] [] [.sl 0 k44 Al0_0 cl0_0 l0_0 0 false, .sl 0 (.int .i64) Al1 cl1 l1 0 false] (fun v bx en => ∃ A0 c0, v = .tuple #[.agg #[.slice A0 r0.length c0, .int .i64 r1, .int .i64 r2, .int .i64 r3], .bool r4] ∧ bx = [] ∧ en = [.sl 2 k92 A0 c0 r0 1 true]) := by
 refine fn_ 53 Try.func67 rfl rfl rfl (fun base T w0 => ?_)
 rw [impl_runJoiner.f] at H
 refine gs (rg (so rfl (op_box (cs := [.slice Al0_0 l0_0.length cl0_0, .int .i64 a0_1, .int .i64 a0_2]) rfl rfl rfl fun b2 => (so rfl (op_alloc (cs := [.slice none 0 0, .int .i64 0, .int .i64 0, .int .i64 0]) (by kernel_rfl) rfl fun b4 => (sv (EV.as rfl) rfl (re (gs (rg (sv (EV.bd (v := .agg #[.slice none 0 0, .int .i64 0, .int .i64 0, .int .i64 0]) rfl (by kernel_rfl)) rfl (so rfl (op_alloc (cs := [.slice none 0 0, .int .i64 0, .int .i64 0, .int .i64 0]) (by kernel_rfl) rfl fun b6 => (so rfl (op_st (cs' := [.slice none 0 0, .int .i64 0, .int .i64 0, .int .i64 0]) 2 rfl rfl rfl rfl rfl rfl (re (gs (gb (nil_ k92 1 dq (nil_ k92 2 dq ?_)))))))))))))))))))
 refine lo (fun kk S => ∃ (x4_2_0 : List S44) (Ax4_2_0 : Option Addr) (cx4_2_0 : Nat) (x4_2_1 : Int) (x4_2_2 : Int) (x4_4_0 : List S92) (Ax4_4_0 : Option Addr) (cx4_4_0 : Nat) (x4_4_1 : Int) (x4_4_2 : Int) (x4_4_3 : Int) (x4_6_0 : List S92) (Ax4_6_0 : Option Addr) (cx4_6_0 : Nat) (x4_6_1 : Int) (x4_6_2 : Int) (x4_6_3 : Int), impl_runJoiner.l0 kk x4_2_0 x4_2_1 x4_2_2 x4_4_0 x4_4_1 x4_4_2 x4_4_3 x4_6_0 x4_6_1 x4_6_2 x4_6_3 l1 = some (r0, r1, r2, r3, r4) ∧ S = ⟨[(1, .slice Al1 l1.length cl1), (2, .pointer (some ⟨b2, 0, none⟩)), (4, .pointer (some ⟨b4, 0, none⟩)), (6, .pointer (some ⟨b6, 0, none⟩))], [⟨b2, 73, [.slice Ax4_2_0 x4_2_0.length cx4_2_0, .int .i64 x4_2_1, .int .i64 x4_2_2]⟩, ⟨b4, 30, [.slice Ax4_4_0 x4_4_0.length cx4_4_0, .int .i64 x4_4_1, .int .i64 x4_4_2, .int .i64 x4_4_3]⟩, ⟨b6, 30, [.slice Ax4_6_0 x4_6_0.length cx4_6_0, .int .i64 x4_6_1, .int .i64 x4_6_2, .int .i64 x4_6_3]⟩], [.sl 0 k44 Ax4_2_0 cx4_2_0 x4_2_0 0 false, .sl 2 k92 Ax4_4_0 cx4_4_0 x4_4_0 1 true, .sl 2 k92 Ax4_6_0 cx4_6_0 x4_6_0 2 true, .sl 0 (.int .i64) Al1 cl1 l1 0 false]⟩) (fun S hS => ?_) (fun n0 ih0 S hS => ?_) ⟨l0_0, Al0_0, cl0_0, a0_1, a0_2, [], none, 0, 0, 0, 0, [], none, 0, 0, 0, 0, H, rfl⟩ (fun h => wk [1, 2, 4, 6] [0, 1, 2] [⟨0, 0, 0, false⟩, ⟨2, 2, 1, true⟩, ⟨3, 2, 2, true⟩, ⟨1, 0, 0, false⟩] h)
 · clear H; obtain ⟨_, _, _, _, _, _, _, _, _, _, _, _, _, _, _, _, _, H, _⟩ := hS; rw [impl_runJoiner.l0] at H; cases H
 clear H
 obtain ⟨x4_2_0, Ax4_2_0, cx4_2_0, x4_2_1, x4_2_2, x4_4_0, Ax4_4_0, cx4_4_0, x4_4_1, x4_4_2, x4_4_3, x4_6_0, Ax4_6_0, cx4_6_0, x4_6_1, x4_6_2, x4_6_3, H, rfl⟩ := hS
 rw [impl_runJoiner.l0] at H
 refine gs (gs (rg (sv (EV.fa 0 rfl) rfl (sv (EV.ld 0 none rfl rfl rfl) rfl (sv (EV.ln rfl) rfl (sv (EV.gtr rfl rfl) rfl (re ?_)))))))
 revert H; refine ifsI ?_ ?_ <;> intro c1 H
 ·
  refine gt rfl (dT c1) (gk (gb (gs ?_)))
  revert H; refine ggI ?_; intro g2 H
  refine dr [0, 1, 2] [0, 1, 2, 3] [19] 20 rfl rfl rfl rfl (xv 0 [0, 1, 2] [0, 1, 2, 3] rfl (EV.ld (v := .agg #[.slice Ax4_2_0 x4_2_0.length cx4_2_0, .int .i64 x4_2_1, .int .i64 x4_2_2]) 0 (some 3) rfl rfl rfl) rfl rfl rfl rfl (xv 1 [0, 1, 2] [0, 1, 2, 3] rfl (EV.mv rfl) rfl rfl rfl rfl (xv 2 [0, 1, 2] [0, 1, 2, 3] rfl (EV.fa 1 rfl) rfl rfl rfl rfl (xv 3 [0, 1, 2] [0, 1, 2, 3] rfl (EV.ld 2 none rfl rfl rfl) rfl rfl rfl rfl (xv 4 [0, 1, 2] [0, 1, 2, 3] rfl (EV.mv rfl) rfl rfl rfl rfl (xv 5 [0, 1, 2] [0, 1, 2, 3] rfl (EV.ln rfl) rfl rfl rfl rfl (xv 6 [0, 1, 2] [0, 1, 2, 3] rfl (EV.rem rfl rfl g2) rfl rfl rfl rfl ?_)))))))
  revert H; refine ggI ?_; intro g3 H
  revert H; refine ggI ?_; intro g4 H
  refine xv 7 [0, 1, 2] [0, 1, 2, 3] rfl (EV.ix 3 rfl rfl rfl g3 g4 rfl) rfl rfl rfl rfl (xv 8 [0, 1, 2] [0, 1, 2, 3] rfl (EV.le (v := .int .i64 (rdOf 0 l1 (Int.tmod x4_6_1 (l1.length : Int)))) (Int.tmod x4_6_1 (l1.length : Int)) 0 none 3 0 rfl rfl rfl g3 g4 rfl rfl rfl) rfl rfl rfl rfl ?_)
  refine one2 9 15 rfl rfl rfl rfl ?_ ?_
  ·
   revert H; refine bdI ?_; rintro ⟨t5_0, t5_1, t5_2, t5_3, t5_4, t5_5⟩ A5 H
   refine op_call (impl_StepJoiner.ok n0 x4_2_0 Ax4_2_0 cx4_2_0 x4_2_1 x4_2_2 (rdOf 0 l1 (Int.tmod x4_6_1 (l1.length : Int))) _ _ _ _ _ _ A5) [⟨0, 0, 0, false⟩] 3 rfl rfl rfl rfl rfl ?_
   rintro _ _ _ ⟨At5_0, ct5_0, At5_3, ct5_3, rfl, rfl, rfl⟩
   refine xs [0, 1, 2] [0, 1, 2, 3] rfl rfl rfl (xv 10 [0, 1, 2] [0, 1, 2, 3] rfl (EV.mv rfl) rfl rfl rfl rfl (xv 11 [0, 1, 2] [0, 1, 2, 3] rfl (EV.ex rfl rfl) rfl rfl rfl rfl (xv 12 [0, 1, 2] [0, 1, 2, 3] rfl (EV.ex rfl rfl) rfl rfl rfl rfl (xv 13 [0, 1, 2] [0, 1, 2, 3] rfl (EV.ex rfl rfl) rfl rfl rfl rfl (xv 14 [0, 1, 2] [0, 1, 2, 3] rfl (EV.ex rfl rfl) rfl rfl rfl rfl (one1 15 rfl rfl (op_alloc (cs := [.slice none 0 0, .int .i64 0, .int .i64 0]) (by kernel_rfl) rfl fun b7 => (xs [0, 1, 2] [0, 1, 2, 3] rfl rfl rfl (one1 16 rfl rfl (op_st (cs' := [.slice At5_0 t5_0.length ct5_0, .int .i64 t5_1, .int .i64 t5_2]) 3 rfl rfl rfl rfl rfl rfl (xs [0, 1, 2] [0, 1, 2, 3] rfl rfl rfl (one1 17 rfl rfl (ov (EV.as rfl) rfl (xs [0, 1, 2] [0, 1, 2, 3] rfl rfl rfl (one1 18 rfl rfl (ov (EV.as rfl) rfl (xs [0, 1, 2] [0, 1, 2, 3] rfl rfl rfl (one1 19 rfl rfl (ov (EV.as rfl) rfl (xn rfl (xd (pr [1, 2, 4, 6, 7, 8, 9, 10] [0, 1, 2, 3] [0, 1, 2, 3, 4, 5] rfl rfl rfl rfl (gs (gs (rg (sv (EV.mv rfl) rfl (sv (EV.nt rfl) rfl (re ?_))))))))))))))))))))))))))))
   revert H; refine ifsI ?_ ?_ <;> intro c6 H
   ·
    subst c6
    refine gf rfl rfl (gk (gs (rg (sv (EV.ld (v := .agg #[.slice At5_0 t5_0.length ct5_0, .int .i64 t5_1, .int .i64 t5_2]) 3 (some 3) rfl rfl rfl) rfl (so rfl (op_st (cs' := [.slice At5_0 t5_0.length ct5_0, .int .i64 t5_1, .int .i64 t5_2]) 0 rfl rfl rfl rfl rfl rfl (re (gs (rg (sv (EV.fa 0 rfl) rfl (sv (EV.ld 2 none rfl rfl rfl) rfl (sv (EV.mv rfl) rfl ?_))))))))))))
    revert H; refine ggI ?_; intro g7 H
    exact so rfl (op_app (k := k92) (s := 7) (by_ := 56) 2 5 rfl rfl rfl rfl (ap2 g7 dq) (ap2n g7 dq) (.inl rfl) true (fun _ => .inl rfl) rfl rfl fun A38_8 c38_8 => (nmE (en := [.sl 0 k44 Ax4_2_0 cx4_2_0 x4_2_0 0 false, .sl 2 k92 Ax4_4_0 cx4_4_0 x4_4_0 1 true, .sl 0 (.int .i64) Al1 cl1 l1 0 false, .sl 1 k44 At5_0 ct5_0 t5_0 4 true, .sl 2 k92 At5_3 ct5_3 t5_3 5 true, .sl 2 k92 A38_8 c38_8 (x4_6_0 ++ t5_3) 2 true]) (by kernel_rfl) (sv (EV.fa 0 rfl) rfl (so rfl (op_st (cs' := [.slice A38_8 (x4_6_0 ++ t5_3).length c38_8, .int .i64 x4_6_1, .int .i64 x4_6_2, .int .i64 x4_6_3]) 2 rfl rfl rfl rfl rfl rfl (re (pr [1, 2, 4, 6, 9] [0, 1, 2] [1, 2, 3, 5] rfl rfl rfl rfl (gs (rg (sv (EV.fa 1 rfl) rfl (sv (EV.ld 2 none rfl rfl rfl) rfl (sv (EV.add rfl rfl) rfl (sv (EV.fa 1 rfl) rfl (so rfl (op_st (cs' := [.slice A38_8 (x4_6_0 ++ t5_3).length c38_8, .int .i64 (wrap64 (x4_6_1 + 1)), .int .i64 x4_6_2, .int .i64 x4_6_3]) 2 rfl rfl rfl rfl rfl rfl (re (rg (sv (EV.fa 2 rfl) rfl (sv (EV.ld 2 none rfl rfl rfl) rfl (sv (EV.mv rfl) rfl (sv (EV.mx rfl rfl) rfl (sv (EV.fa 2 rfl) rfl (so rfl (op_st (cs' := [.slice A38_8 (x4_6_0 ++ t5_3).length c38_8, .int .i64 (wrap64 (x4_6_1 + 1)), .int .i64 (mx x4_6_2 t5_4), .int .i64 x4_6_3]) 2 rfl rfl rfl rfl rfl rfl (re (pr [1, 2, 4, 6] [0, 1, 2] [0, 1, 2, 3] rfl rfl rfl rfl (ge (wk [1, 2, 4, 6] [0, 1, 2] [⟨2, 0, 0, false⟩, ⟨0, 2, 1, true⟩, ⟨3, 2, 2, true⟩, ⟨1, 0, 0, false⟩] (ih0 _ (by omega) _ ⟨t5_0, At5_0, ct5_0, t5_1, t5_2, x4_4_0, Ax4_4_0, cx4_4_0, x4_4_1, x4_4_2, x4_4_3, x4_6_0 ++ t5_3, A38_8, c38_8, wrap64 (x4_6_1 + 1), mx x4_6_2 t5_4, x4_6_3, H, rfl⟩)))))))))))))))))))))))))))))
   ·
    obtain rfl := bF c6
    refine gt rfl rfl (gs (rg (sv (EV.bd (v := .agg #[.slice none 0 0, .int .i64 0, .int .i64 0, .int .i64 0]) rfl (by kernel_rfl)) rfl (so rfl (op_st (cs' := [.slice none 0 0, .int .i64 0, .int .i64 0, .int .i64 0]) 1 rfl rfl rfl rfl rfl rfl (sv (EV.as rfl) rfl (re (pr [4, 5] [1] [] rfl rfl rfl rfl (nil_ k92 1 dq ?_)))))))))
    cases H
    exact rt Try.func67 rfl (.cell 0 (some 4) rfl rfl rfl (.tmp rfl .nil)) rfl [] [⟨0, 2, 1, true⟩] rfl rfl rfl rfl rfl ⟨_, _, rfl, rfl, rfl⟩
  ·
   refine op_alloc (cs := [.slice none 0 0, .int .i64 0, .int .i64 0]) (by kernel_rfl) rfl fun b7 => (xs [0, 1, 2] [0, 1, 2, 3] rfl rfl rfl (one1 9 rfl rfl ?_))
   revert H; refine bdI ?_; rintro ⟨t9_0, t9_1, t9_2, t9_3, t9_4, t9_5⟩ A9 H
   refine op_call (impl_StepJoiner.ok n0 x4_2_0 Ax4_2_0 cx4_2_0 x4_2_1 x4_2_2 (rdOf 0 l1 (Int.tmod x4_6_1 (l1.length : Int))) _ _ _ _ _ _ A9) [⟨0, 0, 0, false⟩] 3 rfl rfl rfl rfl rfl ?_
   rintro _ _ _ ⟨At9_0, ct9_0, At9_3, ct9_3, rfl, rfl, rfl⟩
   refine xs [0, 1, 2] [0, 1, 2, 3] rfl rfl rfl (xv 10 [0, 1, 2] [0, 1, 2, 3] rfl (EV.mv rfl) rfl rfl rfl rfl (xv 11 [0, 1, 2] [0, 1, 2, 3] rfl (EV.ex rfl rfl) rfl rfl rfl rfl (xv 12 [0, 1, 2] [0, 1, 2, 3] rfl (EV.ex rfl rfl) rfl rfl rfl rfl (xv 13 [0, 1, 2] [0, 1, 2, 3] rfl (EV.ex rfl rfl) rfl rfl rfl rfl (xv 14 [0, 1, 2] [0, 1, 2, 3] rfl (EV.ex rfl rfl) rfl rfl rfl rfl (one1 16 rfl rfl (op_st (cs' := [.slice At9_0 t9_0.length ct9_0, .int .i64 t9_1, .int .i64 t9_2]) 3 rfl rfl rfl rfl rfl rfl (xs [0, 1, 2] [0, 1, 2, 3] rfl rfl rfl (one1 17 rfl rfl (ov (EV.as rfl) rfl (xs [0, 1, 2] [0, 1, 2, 3] rfl rfl rfl (one1 18 rfl rfl (ov (EV.as rfl) rfl (xs [0, 1, 2] [0, 1, 2, 3] rfl rfl rfl (one1 19 rfl rfl (ov (EV.as rfl) rfl (xn rfl (xd (pr [1, 2, 4, 6, 7, 8, 9, 10] [0, 1, 2, 3] [0, 1, 2, 3, 4, 5] rfl rfl rfl rfl (gs (gs (rg (sv (EV.mv rfl) rfl (sv (EV.nt rfl) rfl (re ?_)))))))))))))))))))))))))
   revert H; refine ifsI ?_ ?_ <;> intro c10 H
   ·
    subst c10
    refine gf rfl rfl (gk (gs (rg (sv (EV.ld (v := .agg #[.slice At9_0 t9_0.length ct9_0, .int .i64 t9_1, .int .i64 t9_2]) 3 (some 3) rfl rfl rfl) rfl (so rfl (op_st (cs' := [.slice At9_0 t9_0.length ct9_0, .int .i64 t9_1, .int .i64 t9_2]) 0 rfl rfl rfl rfl rfl rfl (re (gs (rg (sv (EV.fa 0 rfl) rfl (sv (EV.ld 2 none rfl rfl rfl) rfl (sv (EV.mv rfl) rfl ?_))))))))))))
    revert H; refine ggI ?_; intro g11 H
    exact so rfl (op_app (k := k92) (s := 7) (by_ := 56) 2 5 rfl rfl rfl rfl (ap2 g11 dq) (ap2n g11 dq) (.inl rfl) true (fun _ => .inl rfl) rfl rfl fun A38_12 c38_12 => (nmE (en := [.sl 0 k44 Ax4_2_0 cx4_2_0 x4_2_0 0 false, .sl 2 k92 Ax4_4_0 cx4_4_0 x4_4_0 1 true, .sl 0 (.int .i64) Al1 cl1 l1 0 false, .sl 1 k44 At9_0 ct9_0 t9_0 4 true, .sl 2 k92 At9_3 ct9_3 t9_3 5 true, .sl 2 k92 A38_12 c38_12 (x4_6_0 ++ t9_3) 2 true]) (by kernel_rfl) (sv (EV.fa 0 rfl) rfl (so rfl (op_st (cs' := [.slice A38_12 (x4_6_0 ++ t9_3).length c38_12, .int .i64 x4_6_1, .int .i64 x4_6_2, .int .i64 x4_6_3]) 2 rfl rfl rfl rfl rfl rfl (re (pr [1, 2, 4, 6, 9] [0, 1, 2] [1, 2, 3, 5] rfl rfl rfl rfl (gs (rg (sv (EV.fa 1 rfl) rfl (sv (EV.ld 2 none rfl rfl rfl) rfl (sv (EV.add rfl rfl) rfl (sv (EV.fa 1 rfl) rfl (so rfl (op_st (cs' := [.slice A38_12 (x4_6_0 ++ t9_3).length c38_12, .int .i64 (wrap64 (x4_6_1 + 1)), .int .i64 x4_6_2, .int .i64 x4_6_3]) 2 rfl rfl rfl rfl rfl rfl (re (rg (sv (EV.fa 2 rfl) rfl (sv (EV.ld 2 none rfl rfl rfl) rfl (sv (EV.mv rfl) rfl (sv (EV.mx rfl rfl) rfl (sv (EV.fa 2 rfl) rfl (so rfl (op_st (cs' := [.slice A38_12 (x4_6_0 ++ t9_3).length c38_12, .int .i64 (wrap64 (x4_6_1 + 1)), .int .i64 (mx x4_6_2 t9_4), .int .i64 x4_6_3]) 2 rfl rfl rfl rfl rfl rfl (re (pr [1, 2, 4, 6] [0, 1, 2] [0, 1, 2, 3] rfl rfl rfl rfl (ge (wk [1, 2, 4, 6] [0, 1, 2] [⟨2, 0, 0, false⟩, ⟨0, 2, 1, true⟩, ⟨3, 2, 2, true⟩, ⟨1, 0, 0, false⟩] (ih0 _ (by omega) _ ⟨t9_0, At9_0, ct9_0, t9_1, t9_2, x4_4_0, Ax4_4_0, cx4_4_0, x4_4_1, x4_4_2, x4_4_3, x4_6_0 ++ t9_3, A38_12, c38_12, wrap64 (x4_6_1 + 1), mx x4_6_2 t9_4, x4_6_3, H, rfl⟩)))))))))))))))))))))))))))))
   ·
    obtain rfl := bF c10
    refine gt rfl rfl (gs (rg (sv (EV.bd (v := .agg #[.slice none 0 0, .int .i64 0, .int .i64 0, .int .i64 0]) rfl (by kernel_rfl)) rfl (so rfl (op_st (cs' := [.slice none 0 0, .int .i64 0, .int .i64 0, .int .i64 0]) 1 rfl rfl rfl rfl rfl rfl (sv (EV.as rfl) rfl (re (pr [4, 5] [1] [] rfl rfl rfl rfl (nil_ k92 1 dq ?_)))))))))
    cases H
    exact rt Try.func67 rfl (.cell 0 (some 4) rfl rfl rfl (.tmp rfl .nil)) rfl [] [⟨0, 2, 1, true⟩] rfl rfl rfl rfl rfl ⟨_, _, rfl, rfl, rfl⟩
 ·
  refine gf rfl (dF c1) (gx rfl (gs (rg (sv (EV.fa 1 rfl) rfl (sv (EV.ld 0 none rfl rfl rfl) rfl (sv (EV.fa 3 rfl) rfl (so rfl (op_st (cs' := [.slice Ax4_6_0 x4_6_0.length cx4_6_0, .int .i64 x4_6_1, .int .i64 x4_6_2, .int .i64 x4_2_1]) 2 rfl rfl rfl rfl rfl rfl (re (pr [4, 6] [1, 2] [1, 2] rfl rfl rfl rfl (gs (rg (sv (EV.ld (v := .agg #[.slice Ax4_6_0 x4_6_0.length cx4_6_0, .int .i64 x4_6_1, .int .i64 x4_6_2, .int .i64 x4_2_1]) 1 (some 4) rfl rfl rfl) rfl (so rfl (op_st (cs' := [.slice Ax4_6_0 x4_6_0.length cx4_6_0, .int .i64 x4_6_1, .int .i64 x4_6_2, .int .i64 x4_2_1]) 0 rfl rfl rfl rfl rfl rfl (sv (EV.as rfl) rfl (re ?_)))))))))))))))))
  cases H
  exact rt Try.func67 rfl (.cell 0 (some 4) rfl rfl rfl (.tmp rfl .nil)) rfl [] [⟨1, 2, 1, true⟩] rfl rfl rfl rfl rfl ⟨_, _, rfl, rfl, rfl⟩
end Go.Proofs.Ytajjeemkdjfilaa.K
namespace Go.Proofs.Ytajjeemkdjfilaa.K
open Go Go.RowKit
set_option linter.unusedVariables false
set_option linter.unusedSimpArgs false
def impl_RunJoin.f (k : Nat) (a0 : Int) (l1 : List S70) (l2 : List S70) (l3 : List Int) : Option ((List S92) × Int × Int × Int × Bool) := (impl_NewJoiner.f k a0 l1 l2).bind fun bt1 => (if bt1.2.2.2 = true then ((impl_areGrants.f k l3).bind fun t3 => (if t3 = true then ((impl_runJoiner.f k bt1.1 bt1.2.1 bt1.2.2.1 l3).bind fun bt5 => (some (bt5.1, bt5.2.1, bt5.2.2.1, bt5.2.2.2.1, bt5.2.2.2.2))) else (some ([], 0, 0, 0, false)))) else (some ([], 0, 0, 0, false)))
set_option maxHeartbeats 4000000 in
set_option maxRecDepth 100000 in
theorem impl_RunJoin.ok (k : Nat) (a0 : Int) (l1 : List S70) (Al1 : Option Addr) (cl1 : Nat) (l2 : List S70) (Al2 : Option Addr) (cl2 : Nat) (l3 : List Int) (Al3 : Option Addr) (cl3 : Nat) (r0 : List S92) (r1 : Int) (r2 : Int) (r3 : Int) (r4 : Bool) (H : impl_RunJoin.f k a0 l1 l2 l3 = some (r0, r1, r2, r3, r4)) : Fn Try.prog 11 [.int .i64 a0, .slice Al1 l1.length cl1, .slice Al2 l2.length cl2, .slice Al3 l3.length cl3] [] [.sl 0 k70 Al1 cl1 l1 0 false, .sl 0 k70 Al2 cl2 l2 0 false, .sl 0 (.int .i64) Al3 cl3 l3 0 false] (fun v bx en => ∃ A0 c0, v = .tuple #[.agg #[.slice A0 r0.length c0, .int .i64 r1, .int .i64 r2, .int .i64 r3], .bool r4] ∧ bx = [] ∧ en = [.sl 2 k92 A0 c0 r0 1 true]) := by
 refine fn_ 32 Try.func11 rfl rfl rfl (fun base T w0 => ?_)
 rw [impl_RunJoin.f] at H
 refine gs (rg (so rfl (op_alloc (cs := [.slice none 0 0, .int .i64 0, .int .i64 0, .int .i64 0]) (by kernel_rfl) rfl fun b8 => (sv (EV.as rfl) rfl (re (gs (rg (sv (EV.mv rfl) rfl (sv (EV.mv rfl) rfl (sv (EV.mv rfl) rfl ?_))))))))))
 revert H; refine bdI ?_; rintro ⟨t1_0, t1_1, t1_2, t1_3⟩ A1 H
 refine so rfl (op_call (impl_NewJoiner.ok k a0 l1 Al1 cl1 l2 Al2 cl2 _ _ _ _ A1) [⟨0, 0, 0, false⟩, ⟨1, 0, 0, false⟩] 1 rfl rfl rfl rfl rfl ?_)
 rintro _ _ _ ⟨At1_0, ct1_0, rfl, rfl, rfl⟩
 refine sv (EV.mv rfl) rfl (sv (EV.ex rfl rfl) rfl (sv (EV.ex rfl rfl) rfl (so rfl (op_alloc (cs := [.slice none 0 0, .int .i64 0, .int .i64 0]) (by kernel_rfl) rfl fun b10 => (so rfl (op_st (cs' := [.slice At1_0 t1_0.length ct1_0, .int .i64 t1_1, .int .i64 t1_2]) 1 rfl rfl rfl rfl rfl rfl (sv (EV.as rfl) rfl (re (pr [3, 8, 10, 11] [0, 1] [2, 3] rfl rfl rfl rfl (gs (gs (rg (sv (EV.mv rfl) rfl (sv (EV.nt rfl) rfl (sv (EV.mv rfl) rfl ?_)))))))))))))))
 revert H; refine ifsI ?_ ?_ <;> intro c2 H
 ·
  subst c2
  refine ts 21 rfl rfl (sv (EV.mv rfl) rfl ?_)
  revert H; refine bdI ?_; rintro t3 A3 H
  refine so rfl (op_call (impl_areGrants.ok k l3 Al3 cl3 _ A3) [⟨0, 0, 0, false⟩] 3 rfl rfl rfl rfl rfl ?_)
  rintro _ _ _ ⟨rfl, rfl, rfl⟩
  refine sv (EV.nt rfl) rfl (sv (EV.pf rfl rfl rfl) rfl (re (pr [3, 8, 10, 25] [0, 1] [0, 1] rfl rfl rfl rfl ?_)))
  revert H; refine ifsI ?_ ?_ <;> intro c4 H
  ·
   subst c4
   refine gf rfl rfl (gk (gs (rg (sv (EV.ld (v := .agg #[.slice At1_0 t1_0.length ct1_0, .int .i64 t1_1, .int .i64 t1_2]) 1 (some 3) rfl rfl rfl) rfl (sv (EV.mv rfl) rfl ?_)))))
   revert H; refine bdI ?_; rintro ⟨t5_0, t5_1, t5_2, t5_3, t5_4⟩ A5 H
   refine so rfl (op_call (impl_runJoiner.ok k t1_0 At1_0 ct1_0 t1_1 t1_2 l3 Al3 cl3 _ _ _ _ _ A5) [⟨1, 0, 0, false⟩, ⟨0, 0, 0, false⟩] 3 rfl rfl rfl rfl rfl ?_)
   rintro _ _ _ ⟨At5_0, ct5_0, rfl, rfl, rfl⟩
   refine sv (EV.ex rfl rfl) rfl (sv (EV.ex rfl rfl) rfl (so rfl (op_st (cs' := [.slice At5_0 t5_0.length ct5_0, .int .i64 t5_1, .int .i64 t5_2, .int .i64 t5_3]) 0 rfl rfl rfl rfl rfl rfl (sv (EV.as rfl) rfl (re (pr [8, 9] [0] [2] rfl rfl rfl rfl ?_))))))
   cases H
   exact rt Try.func11 rfl (.cell 0 (some 4) rfl rfl rfl (.tmp rfl .nil)) rfl [] [⟨0, 2, 1, true⟩] rfl rfl rfl rfl rfl ⟨_, _, rfl, rfl, rfl⟩
  ·
   obtain rfl := bF c4
   refine gt rfl rfl (gs (rg (sv (EV.bd (v := .agg #[.slice none 0 0, .int .i64 0, .int .i64 0, .int .i64 0]) rfl (by kernel_rfl)) rfl (so rfl (op_st (cs' := [.slice none 0 0, .int .i64 0, .int .i64 0, .int .i64 0]) 0 rfl rfl rfl rfl rfl rfl (sv (EV.as rfl) rfl (re (nil_ k92 3 dq ?_))))))))
   cases H
   exact rt Try.func11 rfl (.cell 0 (some 4) rfl rfl rfl (.tmp rfl .nil)) rfl [] [⟨2, 2, 1, true⟩] rfl rfl rfl rfl rfl ⟨_, _, rfl, rfl, rfl⟩
 ·
  obtain rfl := bF c2
  refine ts 21 rfl rfl (sk rfl (sk rfl (sk rfl (sv (EV.pt rfl rfl rfl) rfl (re (pr [3, 8, 10, 25] [0, 1] [0, 1] rfl rfl rfl rfl (gt rfl rfl (gs (rg (sv (EV.bd (v := .agg #[.slice none 0 0, .int .i64 0, .int .i64 0, .int .i64 0]) rfl (by kernel_rfl)) rfl (so rfl (op_st (cs' := [.slice none 0 0, .int .i64 0, .int .i64 0, .int .i64 0]) 0 rfl rfl rfl rfl rfl rfl (sv (EV.as rfl) rfl (re (nil_ k92 3 dq ?_)))))))))))))))
  cases H
  exact rt Try.func11 rfl (.cell 0 (some 4) rfl rfl rfl (.tmp rfl .nil)) rfl [] [⟨2, 2, 1, true⟩] rfl rfl rfl rfl rfl ⟨_, _, rfl, rfl, rfl⟩
end Go.Proofs.Ytajjeemkdjfilaa.K
namespace Go.Proofs.Ytajjeemkdjfilaa.K
open Go Go.RowKit
set_option linter.unusedVariables false
set_option linter.unusedSimpArgs false
def spec_CompareRows.l0 : Nat → (List Int) → (List Int) → Int → Option (Int)
 | 0, _, _, _ => none
 | k + 1, x2_5, x2_6, x2_7 => if x2_7 < 3 then (if 0 ≤ x2_7 then (if x2_7 < (x2_5.length : Int) then (if x2_7 < (x2_6.length : Int) then (if (rdOf 0 x2_5 x2_7) < (rdOf 0 x2_6 x2_7) then (some (-1)) else (if (rdOf 0 x2_5 x2_7) > (rdOf 0 x2_6 x2_7) then (some 1) else (spec_CompareRows.l0 k x2_5 x2_6 (wrap64 (x2_7 + 1))))) else none) else none) else none) else (some 0)
def spec_CompareRows.f (k : Nat) (a0_0 : Int) (a0_1 : Int) (a0_2 : Int) (a1_0 : Int) (a1_1 : Int) (a1_2 : Int) : Option (Int) := spec_CompareRows.l0 k ([a0_0, a0_1, a0_2] : List Int) ([a1_0, a1_1, a1_2] : List Int) 0
set_option maxHeartbeats 4000000 in
set_option maxRecDepth 100000 in
theorem spec_CompareRows.ok (k : Nat) (a0_0 : Int) (a0_1 : Int) (a0_2 : Int) (a1_0 : Int) (a1_1 : Int) (a1_2 : Int) (r0 : Int) (H : spec_CompareRows.f k a0_0 a0_1 a0_2 a1_0 a1_1 a1_2 = some r0) : Fn Try.prog 115 [.agg #[.int .i64 a0_0, .int .i64 a0_1, .int .i64 a0_2], .agg #[.int .i64 a1_0, .int .i64 a1_1, .int .i64 a1_2]] [] [] (fun v bx en => v = .int .i64 r0 ∧ bx = [] ∧ en = []) := by
 refine fn_ 44 Try.func115 rfl rfl rfl (fun base T w0 => ?_)
 rw [spec_CompareRows.f] at H
 refine gs (rg (so rfl (op_box (cs := [.int .i64 a0_0, .int .i64 a0_1, .int .i64 a0_2]) rfl rfl rfl fun b2 => (so rfl (op_box (cs := [.int .i64 a1_0, .int .i64 a1_1, .int .i64 a1_2]) rfl rfl rfl fun b3 => (sv (EV.as rfl) rfl (re (gs (rg (sv (EV.fa 0 rfl) rfl (sv (EV.ld 0 none rfl rfl rfl) rfl (sv (EV.fa 1 rfl) rfl (sv (EV.ld 0 none rfl rfl rfl) rfl (sv (EV.fa 2 rfl) rfl (sv (EV.ld 0 none rfl rfl rfl) rfl (so rfl (op_lit (s := 1) (by_ := 8) (.int .i64) ([a0_0, a0_1, a0_2] : List Int) [[], [], []] [] 1 [.tmp 9, .tmp 11, .tmp 13] rfl rfl rfl rfl rfl rfl rfl rfl rfl rfl rfl rfl rfl dq rfl fun A14_1 c14_1 => (sv (EV.as rfl) rfl (re (pr [3, 5] [1] [0] rfl rfl rfl rfl (gs (rg (sv (EV.fa 0 rfl) rfl (sv (EV.ld 0 none rfl rfl rfl) rfl (sv (EV.fa 1 rfl) rfl (sv (EV.ld 0 none rfl rfl rfl) rfl (sv (EV.fa 2 rfl) rfl (sv (EV.ld 0 none rfl rfl rfl) rfl (so rfl ?_)))))))))))))))))))))))))))))
 refine op_lit (s := 1) (by_ := 8) (.int .i64) ([a1_0, a1_1, a1_2] : List Int) [[], [], []] [] 2 [.tmp 16, .tmp 18, .tmp 20] rfl rfl rfl rfl rfl rfl rfl rfl rfl rfl rfl rfl rfl dq rfl fun A21_2 c21_2 => (sv (EV.as rfl) rfl (re (pr [5, 6] [] [0, 1] rfl rfl rfl rfl (gs (gs (rg (sv (EV.as rfl) rfl (re (gb ?_)))))))))
 refine lo (fun kk S => ∃ (x2_5 : List Int) (Ax2_5 : Option Addr) (cx2_5 : Nat) (x2_6 : List Int) (Ax2_6 : Option Addr) (cx2_6 : Nat) (x2_7 : Int), spec_CompareRows.l0 kk x2_5 x2_6 x2_7 = some r0 ∧ S = ⟨[(5, .slice Ax2_5 x2_5.length cx2_5), (6, .slice Ax2_6 x2_6.length cx2_6), (7, .int .i64 x2_7)], [], [.sl 2 (.int .i64) Ax2_5 cx2_5 x2_5 1 true, .sl 2 (.int .i64) Ax2_6 cx2_6 x2_6 2 true]⟩) (fun S hS => ?_) (fun n0 ih0 S hS => ?_) ⟨([a0_0, a0_1, a0_2] : List Int), A14_1, c14_1, ([a1_0, a1_1, a1_2] : List Int), A21_2, c21_2, 0, H, rfl⟩ (fun h => wk [5, 6, 7] [] [⟨0, 2, 1, true⟩, ⟨1, 2, 2, true⟩] h)
 · clear H; obtain ⟨_, _, _, _, _, _, _, H, _⟩ := hS; rw [spec_CompareRows.l0] at H; cases H
 clear H
 obtain ⟨x2_5, Ax2_5, cx2_5, x2_6, Ax2_6, cx2_6, x2_7, H, rfl⟩ := hS
 rw [spec_CompareRows.l0] at H
 refine gs (gs (rg (sv (EV.mv rfl) rfl (sv (EV.lss rfl rfl) rfl (re ?_)))))
 revert H; refine ifsI ?_ ?_ <;> intro c3 H
 ·
  refine gt rfl (dT c3) (gk (gs (gb (gs (gs ?_)))))
  revert H; refine ggI ?_; intro g4 H
  revert H; refine ggI ?_; intro g5 H
  revert H; refine ggI ?_; intro g6 H
  refine dr [] [0, 1] [] 9 rfl rfl rfl rfl (xv 0 [] [0, 1] rfl (EV.mv rfl) rfl rfl rfl rfl (xv 1 [] [0, 1] rfl (EV.mv rfl) rfl rfl rfl rfl (xv 2 [] [0, 1] rfl (EV.ix 0 rfl rfl rfl g4 g5 rfl) rfl rfl rfl rfl (xv 3 [] [0, 1] rfl (EV.le (v := .int .i64 (rdOf 0 x2_5 x2_7)) x2_7 0 none 0 0 rfl rfl rfl g4 g5 rfl rfl rfl) rfl rfl rfl rfl (xv 4 [] [0, 1] rfl (EV.mv rfl) rfl rfl rfl rfl (xv 5 [] [0, 1] rfl (EV.mv rfl) rfl rfl rfl rfl (xv 6 [] [0, 1] rfl (EV.ix 1 rfl rfl rfl g4 g6 rfl) rfl rfl rfl rfl (xv 7 [] [0, 1] rfl (EV.le (v := .int .i64 (rdOf 0 x2_6 x2_7)) x2_7 0 none 1 0 rfl rfl rfl g4 g6 rfl rfl rfl) rfl rfl rfl rfl (xv 8 [] [0, 1] rfl (EV.lss rfl rfl) rfl rfl rfl rfl (xd (pr [5, 6, 7, 34] [] [0, 1] rfl rfl rfl rfl ?_)))))))))))
  revert H; refine ifsI ?_ ?_ <;> intro c7 H
  ·
   refine gt rfl (dT c7) (gs (rg (sv (EV.as rfl) rfl (re ?_))))
   cases H
   exact rt Try.func115 rfl (.tmp rfl .nil) rfl [] [] rfl rfl rfl rfl rfl ⟨rfl, rfl, rfl⟩
  ·
   refine gf rfl (dF c7) (gk (gs (dr [] [0, 1] [] 9 rfl rfl rfl rfl (xv 0 [] [0, 1] rfl (EV.mv rfl) rfl rfl rfl rfl (xv 1 [] [0, 1] rfl (EV.mv rfl) rfl rfl rfl rfl (xv 2 [] [0, 1] rfl (EV.ix 0 rfl rfl rfl g4 g5 rfl) rfl rfl rfl rfl (xv 3 [] [0, 1] rfl (EV.le (v := .int .i64 (rdOf 0 x2_5 x2_7)) x2_7 0 none 0 0 rfl rfl rfl g4 g5 rfl rfl rfl) rfl rfl rfl rfl (xv 4 [] [0, 1] rfl (EV.mv rfl) rfl rfl rfl rfl (xv 5 [] [0, 1] rfl (EV.mv rfl) rfl rfl rfl rfl (xv 6 [] [0, 1] rfl (EV.ix 1 rfl rfl rfl g4 g6 rfl) rfl rfl rfl rfl (xv 7 [] [0, 1] rfl (EV.le (v := .int .i64 (rdOf 0 x2_6 x2_7)) x2_7 0 none 1 0 rfl rfl rfl g4 g6 rfl rfl rfl) rfl rfl rfl rfl (xv 8 [] [0, 1] rfl (EV.gtr rfl rfl) rfl rfl rfl rfl (xd (pr [5, 6, 7, 43] [] [0, 1] rfl rfl rfl rfl ?_))))))))))))))
   revert H; refine ifsI ?_ ?_ <;> intro c8 H
   ·
    refine gt rfl (dT c8) (gs (rg (sv (EV.as rfl) rfl (re ?_))))
    cases H
    exact rt Try.func115 rfl (.tmp rfl .nil) rfl [] [] rfl rfl rfl rfl rfl ⟨rfl, rfl, rfl⟩
   ·
    exact gf rfl (dF c8) (gk (ge (rg (sv (EV.mv rfl) rfl (sv (EV.add rfl rfl) rfl (sv (EV.as rfl) rfl (re (wk [5, 6, 7] [] [⟨0, 2, 1, true⟩, ⟨1, 2, 2, true⟩] (ih0 _ (by omega) _ ⟨x2_5, Ax2_5, cx2_5, x2_6, Ax2_6, cx2_6, wrap64 (x2_7 + 1), H, rfl⟩)))))))))
 ·
  refine gf rfl (dF c3) (gx rfl (gs (rg (sv (EV.as rfl) rfl (re ?_)))))
  cases H
  exact rt Try.func115 rfl (.tmp rfl .nil) rfl [] [] rfl rfl rfl rfl rfl ⟨rfl, rfl, rfl⟩
end Go.Proofs.Ytajjeemkdjfilaa.K
namespace Go.Proofs.Ytajjeemkdjfilaa.K
open Go Go.RowKit
set_option linter.unusedVariables false
set_option linter.unusedSimpArgs false
def spec_ComparePairs.f (k : Nat) (a0_0 : Int) (a0_1 : Int) (a0_2 : Int) (a0_3 : Int) (a0_4 : Int) (a0_5 : Int) (a0_6 : Bool) (a1_0 : Int) (a1_1 : Int) (a1_2 : Int) (a1_3 : Int) (a1_4 : Int) (a1_5 : Int) (a1_6 : Bool) : Option (Int) := (spec_CompareRows.f k a0_0 a0_1 a0_2 a1_0 a1_1 a1_2).bind fun t1 => (if t1 = 0 then (if (a0_6 == a1_6) = true then ((spec_CompareRows.f k a0_3 a0_4 a0_5 a1_3 a1_4 a1_5).bind fun t4 => (some t4)) else (if a1_6 = true then (some (-1)) else (some 1))) else (some t1))
set_option maxHeartbeats 4000000 in
set_option maxRecDepth 100000 in
theorem spec_ComparePairs.ok (k : Nat) (a0_0 : Int) (a0_1 : Int) (a0_2 : Int) (a0_3 : Int) (a0_4 : Int) (a0_5 : Int) (a0_6 : Bool) (a1_0 : Int) (a1_1 : Int) (a1_2 : Int) (a1_3 : Int) (a1_4 : Int) (a1_5 : Int) (a1_6 : Bool) (r0 : Int) (H : spec_ComparePairs.f k a0_0 a0_1 a0_2 a0_3 a0_4 a0_5 a0_6 a1_0 a1_1 a1_2 a1_3 a1_4 a1_5 a1_6 = some r0) : Fn Try.prog 108 [.agg #[.int .i64 a0_0, .int .i64 a0_1, .int .i64 a0_2, .int .i64 a0_3, .int .i64 a0_4, .int .i64 a0_5, .bool a0_6], .agg #[.int .i64 a1_0, .int .i64 a1_1, .int .i64 a1_2, .int .i64 a1_3, .int .i64 a1_4, .int .i64 a1_5, .bool a1_6]] [] [] (fun v bx en => v = .int .i64 r0 ∧ bx = [] ∧ en = []) := by
 refine fn_ 26 Try.func108 rfl rfl rfl (fun base T w0 => ?_)
 rw [spec_ComparePairs.f] at H
 refine gs (rg (so rfl (op_box (cs := [.int .i64 a0_0, .int .i64 a0_1, .int .i64 a0_2, .int .i64 a0_3, .int .i64 a0_4, .int .i64 a0_5, .bool a0_6]) rfl rfl rfl fun b2 => (so rfl (op_box (cs := [.int .i64 a1_0, .int .i64 a1_1, .int .i64 a1_2, .int .i64 a1_3, .int .i64 a1_4, .int .i64 a1_5, .bool a1_6]) rfl rfl rfl fun b3 => (sv (EV.as rfl) rfl (re (gs (rg (sv (EV.fa 0 rfl) rfl (sv (EV.ld (v := .agg #[.int .i64 a0_0, .int .i64 a0_1, .int .i64 a0_2]) 0 (some 3) rfl rfl rfl) rfl (sv (EV.fa 0 rfl) rfl (sv (EV.ld (v := .agg #[.int .i64 a1_0, .int .i64 a1_1, .int .i64 a1_2]) 1 (some 3) rfl rfl rfl) rfl ?_)))))))))))))
 revert H; refine bdI ?_; rintro t1 A1 H
 refine so rfl (op_call (spec_CompareRows.ok k a0_0 a0_1 a0_2 a1_0 a1_1 a1_2 _ A1) [] 1 rfl rfl rfl rfl rfl ?_)
 rintro _ _ _ ⟨rfl, rfl, rfl⟩
 refine sv (EV.as rfl) rfl (re (pr [2, 3, 5] [0, 1] [] rfl rfl rfl rfl (gs (gs (rg (sv (EV.mv rfl) rfl (sv (EV.neq rfl rfl) rfl (re ?_))))))))
 revert H; refine ifsI ?_ ?_ <;> intro c2 H
 ·
  refine gf rfl (nF c2) (gk (gs (gs (rg (sv (EV.fa 6 rfl) rfl (sv (EV.ld 0 none rfl rfl rfl) rfl (sv (EV.fa 6 rfl) rfl (sv (EV.ld 1 none rfl rfl rfl) rfl (sv (EV.neb rfl rfl) rfl (re (pr [2, 3, 18] [0, 1] [] rfl rfl rfl rfl ?_)))))))))))
  revert H; refine ifsI ?_ ?_ <;> intro c3 H
  ·
   refine gf rfl (bN c3) (gk (gs (rg (sv (EV.fa 3 rfl) rfl (sv (EV.ld (v := .agg #[.int .i64 a0_3, .int .i64 a0_4, .int .i64 a0_5]) 0 (some 3) rfl rfl rfl) rfl (sv (EV.fa 3 rfl) rfl (sv (EV.ld (v := .agg #[.int .i64 a1_3, .int .i64 a1_4, .int .i64 a1_5]) 1 (some 3) rfl rfl rfl) rfl ?_)))))))
   revert H; refine bdI ?_; rintro t4 A4 H
   refine so rfl (op_call (spec_CompareRows.ok k a0_3 a0_4 a0_5 a1_3 a1_4 a1_5 _ A4) [] 1 rfl rfl rfl rfl rfl ?_)
   rintro _ _ _ ⟨rfl, rfl, rfl⟩
   refine sv (EV.as rfl) rfl (re (pr [4] [] [] rfl rfl rfl rfl ?_))
   cases H
   exact rt Try.func108 rfl (.tmp rfl .nil) rfl [] [] rfl rfl rfl rfl rfl ⟨rfl, rfl, rfl⟩
  ·
   refine gt rfl (bM c3) (gs (gs (rg (sv (EV.fa 6 rfl) rfl (sv (EV.ld 1 none rfl rfl rfl) rfl (re ?_))))))
   revert H; refine ifsI ?_ ?_ <;> intro c5 H
   ·
    subst c5
    refine gt rfl rfl (gs (rg (sv (EV.as rfl) rfl (re ?_))))
    cases H
    exact rt Try.func108 rfl (.tmp rfl .nil) rfl [] [] rfl rfl rfl rfl rfl ⟨rfl, rfl, rfl⟩
   ·
    obtain rfl := bF c5
    refine gf rfl rfl (gk (gs (rg (sv (EV.as rfl) rfl (re ?_)))))
    cases H
    exact rt Try.func108 rfl (.tmp rfl .nil) rfl [] [] rfl rfl rfl rfl rfl ⟨rfl, rfl, rfl⟩
 ·
  refine gt rfl (nT c2) (gs (rg (sv (EV.mv rfl) rfl (sv (EV.as rfl) rfl (re (pr [4] [] [] rfl rfl rfl rfl ?_))))))
  cases H
  exact rt Try.func108 rfl (.tmp rfl .nil) rfl [] [] rfl rfl rfl rfl rfl ⟨rfl, rfl, rfl⟩
end Go.Proofs.Ytajjeemkdjfilaa.K
namespace Go.Proofs.Ytajjeemkdjfilaa.K
open Go Go.RowKit
set_option linter.unusedVariables false
set_option linter.unusedSimpArgs false
mutual
def spec_l7Sorted.j0 : Nat → (List S92) → Int → Int → (List S92) → Option ((List S92))
 | 0, _, _, _, _ => none
 | k + 1, x25_3, x25_4, x25_5, l0 => if 0 ≤ x25_4 then (if x25_4 < (l0.length : Int) then (if 0 ≤ x25_5 then (if x25_5 ≤ (x25_3.length : Int) then (if ([(⟨(⟨(rd_T92 l0 x25_4).f0.f0, (rd_T92 l0 x25_4).f0.f1, (rd_T92 l0 x25_4).f0.f2⟩ : S70), (⟨(rd_T92 l0 x25_4).f1.f0, (rd_T92 l0 x25_4).f1.f1, (rd_T92 l0 x25_4).f1.f2⟩ : S70), (rd_T92 l0 x25_4).f2⟩ : S92)] : List S92).length + (x25_3.drop x25_5.toNat).length ≤ 2513169434916 then (if (x25_3.take x25_5.toNat).length ≤ 2513169434916 then (if (x25_3.take x25_5.toNat).length + (([(⟨(⟨(rd_T92 l0 x25_4).f0.f0, (rd_T92 l0 x25_4).f0.f1, (rd_T92 l0 x25_4).f0.f2⟩ : S70), (⟨(rd_T92 l0 x25_4).f1.f0, (rd_T92 l0 x25_4).f1.f1, (rd_T92 l0 x25_4).f1.f2⟩ : S70), (rd_T92 l0 x25_4).f2⟩ : S92)] : List S92) ++ (x25_3.drop x25_5.toNat)).length ≤ 2513169434916 then (spec_l7Sorted.l0 k ((x25_3.take x25_5.toNat) ++ (([(⟨(⟨(rd_T92 l0 x25_4).f0.f0, (rd_T92 l0 x25_4).f0.f1, (rd_T92 l0 x25_4).f0.f2⟩ : S70), (⟨(rd_T92 l0 x25_4).f1.f0, (rd_T92 l0 x25_4).f1.f1, (rd_T92 l0 x25_4).f1.f2⟩ : S70), (rd_T92 l0 x25_4).f2⟩ : S92)] : List S92) ++ (x25_3.drop x25_5.toNat))) (wrap64 (x25_4 + 1)) l0) else none) else none) else none) else none) else none) else none) else none
def spec_l7Sorted.l1 : Nat → (List S92) → Int → Int → (List S92) → Option ((List S92))
 | 0, _, _, _, _ => none
 | k + 1, x26_3, x26_4, x26_5, l0 => if x26_5 > 0 then (if 0 ≤ (wrap64 (x26_5 - 1)) then (if (wrap64 (x26_5 - 1)) < (x26_3.length : Int) then (if 0 ≤ x26_4 then (if x26_4 < (l0.length : Int) then ((spec_ComparePairs.f k ((rd_T92 x26_3 (wrap64 (x26_5 - 1))).f0.f0) ((rd_T92 x26_3 (wrap64 (x26_5 - 1))).f0.f1) ((rd_T92 x26_3 (wrap64 (x26_5 - 1))).f0.f2) ((rd_T92 x26_3 (wrap64 (x26_5 - 1))).f1.f0) ((rd_T92 x26_3 (wrap64 (x26_5 - 1))).f1.f1) ((rd_T92 x26_3 (wrap64 (x26_5 - 1))).f1.f2) ((rd_T92 x26_3 (wrap64 (x26_5 - 1))).f2) ((rd_T92 l0 x26_4).f0.f0) ((rd_T92 l0 x26_4).f0.f1) ((rd_T92 l0 x26_4).f0.f2) ((rd_T92 l0 x26_4).f1.f0) ((rd_T92 l0 x26_4).f1.f1) ((rd_T92 l0 x26_4).f1.f2) ((rd_T92 l0 x26_4).f2)).bind fun t21 => (if t21 > 0 then (spec_l7Sorted.l1 k x26_3 x26_4 (wrap64 (x26_5 - 1)) l0) else (spec_l7Sorted.j0 k x26_3 x26_4 x26_5 l0))) else none) else none) else none) else none) else (spec_l7Sorted.j0 k x26_3 x26_4 x26_5 l0)
def spec_l7Sorted.l0 : Nat → (List S92) → Int → (List S92) → Option ((List S92))
 | 0, _, _, _ => none
 | k + 1, x14_3, x14_4, l0 => if x14_4 < (l0.length : Int) then (spec_l7Sorted.l1 k x14_3 x14_4 (x14_3.length : Int) l0) else (some x14_3)
end
def spec_l7Sorted.f (k : Nat) (l0 : List S92) : Option ((List S92)) := spec_l7Sorted.l0 k [] 0 l0
set_option maxHeartbeats 4000000 in
set_option maxRecDepth 100000 in
theorem spec_l7Sorted.ok (k : Nat) (l0 : List S92) (Al0 : Option Addr) (cl0 : Nat) (r0 : List S92) (H : spec_l7Sorted.f k l0 = some r0) : Fn Try.prog 71 [.slice Al0 l0.length cl0] [] [.sl 0 k92 Al0 cl0 l0 0 false] (fun v bx en => ∃ A0 c0, v = .slice A0 r0.length c0 ∧ bx = [] ∧ en = [.sl 2 k92 A0 c0 r0 1 true]) := by
 refine fn_ 50 Try.func71 rfl rfl rfl (fun base T w0 => ?_)
 rw [spec_l7Sorted.f] at H
 refine gs (rg (sv (EV.as rfl) rfl (re (gs (rg (so rfl (op_lit (s := 7) (by_ := 56) k92 ([] : List S92) [] [] 1 [] rfl rfl rfl rfl rfl rfl rfl rfl rfl rfl rfl rfl rfl dq rfl fun A7_1 c7_1 => (sv (EV.as rfl) rfl (re (gs (gs (rg (sv (EV.as rfl) rfl (re (gb ?_)))))))))))))))
 refine lo (fun kk S => ∃ (x14_3 : List S92) (Ax14_3 : Option Addr) (cx14_3 : Nat) (x14_4 : Int), spec_l7Sorted.l0 kk x14_3 x14_4 l0 = some r0 ∧ S = ⟨[(0, .slice Al0 l0.length cl0), (3, .slice Ax14_3 x14_3.length cx14_3), (4, .int .i64 x14_4)], [], [.sl 2 k92 Ax14_3 cx14_3 x14_3 1 true, .sl 0 k92 Al0 cl0 l0 0 false]⟩) (fun S hS => ?_) (fun n0 ih0 S hS => ?_) ⟨[], A7_1, c7_1, 0, H, rfl⟩ (fun h => wk [0, 3, 4] [] [⟨1, 2, 1, true⟩, ⟨0, 0, 0, false⟩] h)
 · clear H; obtain ⟨_, _, _, _, H, _⟩ := hS; rw [spec_l7Sorted.l0] at H; cases H
 clear H
 obtain ⟨x14_3, Ax14_3, cx14_3, x14_4, H, rfl⟩ := hS
 rw [spec_l7Sorted.l0] at H
 refine gs (gs (rg (sv (EV.mv rfl) rfl (sv (EV.mv rfl) rfl (sv (EV.ln rfl) rfl (sv (EV.lss rfl rfl) rfl (re ?_)))))))
 revert H; refine ifsI ?_ ?_ <;> intro c2 H
 ·
  refine gt rfl (dT c2) (gk (gs (gb (gs (rg (sv (EV.mv rfl) rfl (sv (EV.ln rfl) rfl (sv (EV.as rfl) rfl (re (pr [0, 3, 4, 5] [] [0, 1] rfl rfl rfl rfl ?_))))))))))
  refine jo (fun S => ∃ (m : Nat) (x25_3 : List S92) (Ax25_3 : Option Addr) (cx25_3 : Nat) (x25_4 : Int) (x25_5 : Int), m ≤ n0 ∧ spec_l7Sorted.j0 m x25_3 x25_4 x25_5 l0 = some r0 ∧ S = ⟨[(0, .slice Al0 l0.length cl0), (3, .slice Ax25_3 x25_3.length cx25_3), (4, .int .i64 x25_4), (5, .int .i64 x25_5)], [], [.sl 2 k92 Ax25_3 cx25_3 x25_3 1 true, .sl 0 k92 Al0 cl0 l0 0 false]⟩) (fun S hS => ?_) (fun jh0 => ?_)
  ·
   clear H
   obtain ⟨m3, x25_3, Ax25_3, cx25_3, x25_4, x25_5, lm3, H, rfl⟩ := hS
   rcases m3 with _ | m3
   · rw [spec_l7Sorted.j0] at H; cases H
   rw [spec_l7Sorted.j0] at H
   refine gs ?_
   revert H; refine ggI ?_; intro g4 H
   revert H; refine ggI ?_; intro g5 H
   revert H; refine ggI ?_; intro g6 H
   revert H; refine ggI ?_; intro g7 H
   refine dr [] [0, 1] [9] 10 rfl rfl rfl rfl (xv 0 [] [0, 1] rfl (EV.mv rfl) rfl rfl rfl rfl (xv 1 [] [0, 1] rfl (EV.mv rfl) rfl rfl rfl rfl (xv 2 [] [0, 1] rfl (EV.ix 1 rfl rfl rfl g4 g5 rfl) rfl rfl rfl rfl (xv 3 [] [0, 1] rfl (EV.le (v := .agg #[.int .i64 ((rd_T92 l0 x25_4).f0.f0), .int .i64 ((rd_T92 l0 x25_4).f0.f1), .int .i64 ((rd_T92 l0 x25_4).f0.f2), .int .i64 ((rd_T92 l0 x25_4).f1.f0), .int .i64 ((rd_T92 l0 x25_4).f1.f1), .int .i64 ((rd_T92 l0 x25_4).f1.f2), .bool ((rd_T92 l0 x25_4).f2)]) x25_4 0 (some 7) 1 z92 rfl rfl rfl g4 g5 rfl rfl rfl) rfl rfl rfl rfl (xv 5 [] [0, 1] rfl (EV.mv rfl) rfl rfl rfl rfl (xv 6 [] [0, 1] rfl (EV.mv rfl) rfl rfl rfl rfl (cutp (l' := x25_3.drop x25_5.toNat) x25_5 (x25_3.length : Int) 0 rfl g6 g7 (Int.le_refl _) rfl 1 dq (.inl dq) ctl (xv 7 [] [0, 1] rfl (EV.ct x25_5 (x25_3.length : Int) 0 rfl rfl rfl rfl g6 g7 (Int.le_refl _) rfl rfl ctnl) rfl rfl rfl rfl (one1 4 rfl rfl (op_lit (s := 7) (by_ := 56) k92 ([(⟨(⟨(rd_T92 l0 x25_4).f0.f0, (rd_T92 l0 x25_4).f0.f1, (rd_T92 l0 x25_4).f0.f2⟩ : S70), (⟨(rd_T92 l0 x25_4).f1.f0, (rd_T92 l0 x25_4).f1.f1, (rd_T92 l0 x25_4).f1.f2⟩ : S70), (rd_T92 l0 x25_4).f2⟩ : S92)] : List S92) [[]] [] 2 [.tmp 36] rfl rfl rfl rfl rfl rfl rfl rfl rfl rfl rfl rfl rfl dq rfl fun A37_8 c37_8 => (xs [] [0, 1] rfl rfl rfl (one1 8 rfl rfl ?_))))))))))))
   revert H; refine ggI ?_; intro g9 H
   refine op_app (k := k92) (s := 7) (by_ := 56) 3 2 rfl rfl rfl rfl (ap2 g9 dq) (ap2n g9 dq) (.inl rfl) true (fun _ => .inl rfl) rfl rfl fun A41_10 c41_10 => (nmE (en := [.sl 2 k92 Ax25_3 cx25_3 x25_3 1 true, .sl 0 k92 Al0 cl0 l0 0 false, .sl 1 k92 (cutA Ax25_3 cx25_3 x25_5.toNat 7) (cx25_3 - x25_5.toNat) (x25_3.drop x25_5.toNat) 1 true, .sl 2 k92 A41_10 c41_10 (([(⟨(⟨(rd_T92 l0 x25_4).f0.f0, (rd_T92 l0 x25_4).f0.f1, (rd_T92 l0 x25_4).f0.f2⟩ : S70), (⟨(rd_T92 l0 x25_4).f1.f0, (rd_T92 l0 x25_4).f1.f1, (rd_T92 l0 x25_4).f1.f2⟩ : S70), (rd_T92 l0 x25_4).f2⟩ : S92)] : List S92) ++ (x25_3.drop x25_5.toNat)) 2 true]) (by kernel_rfl) (xs [] [0, 1] rfl rfl rfl (one1 9 rfl rfl (ov (EV.as rfl) rfl (xn rfl (xd (pr [0, 3, 4, 5, 6] [] [0, 1, 3] rfl rfl rfl rfl (rg (so rfl (op_lit (s := 7) (by_ := 56) k92 ([] : List S92) [] [] 3 [] rfl rfl rfl rfl rfl rfl rfl rfl rfl rfl rfl rfl rfl dq rfl fun A42_11 c42_11 => (sv (EV.mv rfl) rfl (sv (EV.mv rfl) rfl (cutp (l' := x25_3.take x25_5.toNat) 0 x25_5 0 rfl (Int.le_refl 0) g6 g7 rfl 2 dq (.inr rfl) rfl (sv (EV.ct 0 x25_5 0 rfl rfl rfl rfl (Int.le_refl 0) g6 g7 rfl rfl ctnh) rfl ?_))))))))))))))
   revert H; refine ggI ?_; intro g12 H
   refine so rfl (op_app (k := k92) (s := 7) (by_ := 56) 3 4 rfl rfl rfl rfl (ap0 g12 dq) (ap0n g12 dq) (.inl rfl) true (fun _ => .inl rfl) rfl rfl fun A46_13 c46_13 => (nmE (en := [.sl 2 k92 Ax25_3 cx25_3 x25_3 1 true, .sl 0 k92 Al0 cl0 l0 0 false, .sl 2 k92 A41_10 c41_10 (([(⟨(⟨(rd_T92 l0 x25_4).f0.f0, (rd_T92 l0 x25_4).f0.f1, (rd_T92 l0 x25_4).f0.f2⟩ : S70), (⟨(rd_T92 l0 x25_4).f1.f0, (rd_T92 l0 x25_4).f1.f1, (rd_T92 l0 x25_4).f1.f2⟩ : S70), (rd_T92 l0 x25_4).f2⟩ : S92)] : List S92) ++ (x25_3.drop x25_5.toNat)) 2 true, .sl 2 k92 (cutA Ax25_3 cx25_3 (0 : Int).toNat 7) (cx25_3 - (0 : Int).toNat) (x25_3.take x25_5.toNat) 1 true, .sl 2 k92 A46_13 c46_13 (x25_3.take x25_5.toNat) 3 true]) (by kernel_rfl) (sv (EV.mv rfl) rfl ?_)))
   revert H; refine ggI ?_; intro g14 H
   exact so rfl (op_app (k := k92) (s := 7) (by_ := 56) 4 2 rfl rfl rfl rfl (ap2 g14 dq) (ap2n g14 dq) (.inl rfl) true (fun _ => .inl rfl) rfl rfl fun A48_15 c48_15 => (nmE (en := [.sl 2 k92 Ax25_3 cx25_3 x25_3 1 true, .sl 0 k92 Al0 cl0 l0 0 false, .sl 2 k92 A41_10 c41_10 (([(⟨(⟨(rd_T92 l0 x25_4).f0.f0, (rd_T92 l0 x25_4).f0.f1, (rd_T92 l0 x25_4).f0.f2⟩ : S70), (⟨(rd_T92 l0 x25_4).f1.f0, (rd_T92 l0 x25_4).f1.f1, (rd_T92 l0 x25_4).f1.f2⟩ : S70), (rd_T92 l0 x25_4).f2⟩ : S92)] : List S92) ++ (x25_3.drop x25_5.toNat)) 2 true, .sl 2 k92 (cutA Ax25_3 cx25_3 (0 : Int).toNat 7) (cx25_3 - (0 : Int).toNat) (x25_3.take x25_5.toNat) 1 true, .sl 2 k92 A48_15 c48_15 ((x25_3.take x25_5.toNat) ++ (([(⟨(⟨(rd_T92 l0 x25_4).f0.f0, (rd_T92 l0 x25_4).f0.f1, (rd_T92 l0 x25_4).f0.f2⟩ : S70), (⟨(rd_T92 l0 x25_4).f1.f0, (rd_T92 l0 x25_4).f1.f1, (rd_T92 l0 x25_4).f1.f2⟩ : S70), (rd_T92 l0 x25_4).f2⟩ : S92)] : List S92) ++ (x25_3.drop x25_5.toNat))) 3 true]) (by kernel_rfl) (sv (EV.as rfl) rfl (re (pr [0, 3, 4] [] [1, 4] rfl rfl rfl rfl (ge (rg (sv (EV.mv rfl) rfl (sv (EV.add rfl rfl) rfl (sv (EV.as rfl) rfl (re (wk [0, 3, 4] [] [⟨1, 2, 1, true⟩, ⟨0, 0, 0, false⟩] (ih0 _ (by omega) _ ⟨(x25_3.take x25_5.toNat) ++ (([(⟨(⟨(rd_T92 l0 x25_4).f0.f0, (rd_T92 l0 x25_4).f0.f1, (rd_T92 l0 x25_4).f0.f2⟩ : S70), (⟨(rd_T92 l0 x25_4).f1.f0, (rd_T92 l0 x25_4).f1.f1, (rd_T92 l0 x25_4).f1.f2⟩ : S70), (rd_T92 l0 x25_4).f2⟩ : S92)] : List S92) ++ (x25_3.drop x25_5.toNat)), A48_15, c48_15, wrap64 (x25_4 + 1), H, rfl⟩)))))))))))))
  ·
   refine gb ?_
   refine lo (fun kk S => ∃ (x26_3 : List S92) (Ax26_3 : Option Addr) (cx26_3 : Nat) (x26_4 : Int) (x26_5 : Int), kk ≤ n0 ∧ spec_l7Sorted.l1 kk x26_3 x26_4 x26_5 l0 = some r0 ∧ S = ⟨[(0, .slice Al0 l0.length cl0), (3, .slice Ax26_3 x26_3.length cx26_3), (4, .int .i64 x26_4), (5, .int .i64 x26_5)], [], [.sl 2 k92 Ax26_3 cx26_3 x26_3 1 true, .sl 0 k92 Al0 cl0 l0 0 false]⟩) (fun S hS => ?_) (fun n1 ih1 S hS => ?_) ⟨x14_3, Ax14_3, cx14_3, x14_4, (x14_3.length : Int), by omega, H, rfl⟩ (fun h => wk [0, 3, 4, 5] [] [⟨0, 2, 1, true⟩, ⟨1, 0, 0, false⟩] h)
   · clear H; obtain ⟨_, _, _, _, _, _, H, _⟩ := hS; rw [spec_l7Sorted.l1] at H; cases H
   clear H
   obtain ⟨x26_3, Ax26_3, cx26_3, x26_4, x26_5, lk1, H, rfl⟩ := hS
   rw [spec_l7Sorted.l1] at H
   refine gs (gs (dr [] [0, 1] [] 15 rfl rfl rfl rfl (xv 0 [] [0, 1] rfl (EV.mv rfl) rfl rfl rfl rfl (xv 1 [] [0, 1] rfl (EV.gtr rfl rfl) rfl rfl rfl rfl (xv 2 [] [0, 1] rfl (EV.mv rfl) rfl rfl rfl rfl ?_)))))
   revert H; refine ifsI ?_ ?_ <;> intro c16 H
   ·
    refine ts 18 rfl (dT c16) (xv 3 [] [0, 1] rfl (EV.mv rfl) rfl rfl rfl rfl (xv 4 [] [0, 1] rfl (EV.mv rfl) rfl rfl rfl rfl (xv 5 [] [0, 1] rfl (EV.sub rfl rfl) rfl rfl rfl rfl ?_)))
    revert H; refine ggI ?_; intro g17 H
    revert H; refine ggI ?_; intro g18 H
    refine xv 6 [] [0, 1] rfl (EV.ix 0 rfl rfl rfl g17 g18 rfl) rfl rfl rfl rfl (xv 7 [] [0, 1] rfl (EV.le (v := .agg #[.int .i64 ((rd_T92 x26_3 (wrap64 (x26_5 - 1))).f0.f0), .int .i64 ((rd_T92 x26_3 (wrap64 (x26_5 - 1))).f0.f1), .int .i64 ((rd_T92 x26_3 (wrap64 (x26_5 - 1))).f0.f2), .int .i64 ((rd_T92 x26_3 (wrap64 (x26_5 - 1))).f1.f0), .int .i64 ((rd_T92 x26_3 (wrap64 (x26_5 - 1))).f1.f1), .int .i64 ((rd_T92 x26_3 (wrap64 (x26_5 - 1))).f1.f2), .bool ((rd_T92 x26_3 (wrap64 (x26_5 - 1))).f2)]) (wrap64 (x26_5 - 1)) 0 (some 7) 0 z92 rfl rfl rfl g17 g18 rfl rfl rfl) rfl rfl rfl rfl (xv 8 [] [0, 1] rfl (EV.mv rfl) rfl rfl rfl rfl (xv 9 [] [0, 1] rfl (EV.mv rfl) rfl rfl rfl rfl ?_)))
    revert H; refine ggI ?_; intro g19 H
    revert H; refine ggI ?_; intro g20 H
    refine xv 10 [] [0, 1] rfl (EV.ix 1 rfl rfl rfl g19 g20 rfl) rfl rfl rfl rfl (xv 11 [] [0, 1] rfl (EV.le (v := .agg #[.int .i64 ((rd_T92 l0 x26_4).f0.f0), .int .i64 ((rd_T92 l0 x26_4).f0.f1), .int .i64 ((rd_T92 l0 x26_4).f0.f2), .int .i64 ((rd_T92 l0 x26_4).f1.f0), .int .i64 ((rd_T92 l0 x26_4).f1.f1), .int .i64 ((rd_T92 l0 x26_4).f1.f2), .bool ((rd_T92 l0 x26_4).f2)]) x26_4 0 (some 7) 1 z92 rfl rfl rfl g19 g20 rfl rfl rfl) rfl rfl rfl rfl (one1 12 rfl rfl ?_))
    revert H; refine bdI ?_; rintro t21 A21 H
    refine op_call (spec_ComparePairs.ok n1 ((rd_T92 x26_3 (wrap64 (x26_5 - 1))).f0.f0) ((rd_T92 x26_3 (wrap64 (x26_5 - 1))).f0.f1) ((rd_T92 x26_3 (wrap64 (x26_5 - 1))).f0.f2) ((rd_T92 x26_3 (wrap64 (x26_5 - 1))).f1.f0) ((rd_T92 x26_3 (wrap64 (x26_5 - 1))).f1.f1) ((rd_T92 x26_3 (wrap64 (x26_5 - 1))).f1.f2) ((rd_T92 x26_3 (wrap64 (x26_5 - 1))).f2) ((rd_T92 l0 x26_4).f0.f0) ((rd_T92 l0 x26_4).f0.f1) ((rd_T92 l0 x26_4).f0.f2) ((rd_T92 l0 x26_4).f1.f0) ((rd_T92 l0 x26_4).f1.f1) ((rd_T92 l0 x26_4).f1.f2) ((rd_T92 l0 x26_4).f2) _ A21) [] 2 rfl rfl rfl rfl rfl ?_
    rintro _ _ _ ⟨rfl, rfl, rfl⟩
    refine xs [] [0, 1] rfl rfl rfl (xv 13 [] [0, 1] rfl (EV.gtr rfl rfl) rfl rfl rfl rfl (xv 14 [] [0, 1] rfl (EV.pt rfl rfl rfl) rfl rfl rfl rfl (xd ?_)))
    revert H; refine ifsI ?_ ?_ <;> intro c22 H
    ·
     exact gt rfl (dT c22) (gk (gb (rg (sv (EV.mv rfl) rfl (sv (EV.sub rfl rfl) rfl (sv (EV.as rfl) rfl (re (pr [0, 3, 4, 5, 19, 20, 21, 22, 23, 24, 25, 26, 27, 28, 29] [] [0, 1] rfl rfl rfl rfl (ge (wk [0, 3, 4, 5] [] [⟨0, 2, 1, true⟩, ⟨1, 0, 0, false⟩] (ih1 _ (by omega) _ ⟨x26_3, Ax26_3, cx26_3, x26_4, wrap64 (x26_5 - 1), by omega, H, rfl⟩)))))))))))
    ·
     exact gf rfl (dF c22) (gx rfl (wk [0, 3, 4, 5] [] [⟨0, 2, 1, true⟩, ⟨1, 0, 0, false⟩] (jh0 _ ⟨_, x26_3, Ax26_3, cx26_3, x26_4, x26_5, by omega, H, rfl⟩)))
   ·
    exact ts 18 rfl (dF c16) (xk 3 [] [0, 1] rfl rfl rfl rfl rfl (xk 4 [] [0, 1] rfl rfl rfl rfl rfl (xk 5 [] [0, 1] rfl rfl rfl rfl rfl (xk 6 [] [0, 1] rfl rfl rfl rfl rfl (xk 7 [] [0, 1] rfl rfl rfl rfl rfl (xk 8 [] [0, 1] rfl rfl rfl rfl rfl (xk 9 [] [0, 1] rfl rfl rfl rfl rfl (xk 10 [] [0, 1] rfl rfl rfl rfl rfl (xk 11 [] [0, 1] rfl rfl rfl rfl rfl (xk 12 [] [0, 1] rfl rfl rfl rfl rfl (xk 13 [] [0, 1] rfl rfl rfl rfl rfl (xv 14 [] [0, 1] rfl (EV.pf rfl rfl rfl) rfl rfl rfl rfl (xd (pr [0, 3, 4, 5, 30] [] [0, 1] rfl rfl rfl rfl (gf rfl rfl (gx rfl (wk [0, 3, 4, 5] [] [⟨0, 2, 1, true⟩, ⟨1, 0, 0, false⟩] (jh0 _ ⟨_, x26_3, Ax26_3, cx26_3, x26_4, x26_5, by omega, H, rfl⟩))))))))))))))))))
 ·
  refine gf rfl (dF c2) (gx rfl (gs (rg (sv (EV.mv rfl) rfl (sv (EV.as rfl) rfl (re (pr [2] [] [0] rfl rfl rfl rfl ?_)))))))
  cases H
  exact rt Try.func71 rfl (.tmp rfl .nil) rfl [] [⟨0, 2, 1, true⟩] rfl rfl rfl rfl rfl ⟨_, _, rfl, rfl, rfl⟩
end Go.Proofs.Ytajjeemkdjfilaa.K
namespace Go.Proofs.Ytajjeemkdjfilaa.K
open Go Go.RowKit
set_option linter.unusedVariables false
set_option linter.unusedSimpArgs false
def spec_EqualPairBags.l0 : Nat → (List S92) → (List S92) → Int → Option (Bool)
 | 0, _, _, _ => none
 | k + 1, x2_5, x2_6, x2_7 => if x2_7 < (x2_5.length : Int) then (if 0 ≤ x2_7 then (if x2_7 < (x2_6.length : Int) then (if ((((rd_T92 x2_5 x2_7).f0.f0) == ((rd_T92 x2_6 x2_7).f0.f0) && (((rd_T92 x2_5 x2_7).f0.f1) == ((rd_T92 x2_6 x2_7).f0.f1) && (((rd_T92 x2_5 x2_7).f0.f2) == ((rd_T92 x2_6 x2_7).f0.f2)))) && ((((rd_T92 x2_5 x2_7).f1.f0) == ((rd_T92 x2_6 x2_7).f1.f0) && (((rd_T92 x2_5 x2_7).f1.f1) == ((rd_T92 x2_6 x2_7).f1.f1) && (((rd_T92 x2_5 x2_7).f1.f2) == ((rd_T92 x2_6 x2_7).f1.f2)))) && (((rd_T92 x2_5 x2_7).f2) == ((rd_T92 x2_6 x2_7).f2)))) = true then (spec_EqualPairBags.l0 k x2_5 x2_6 (wrap64 (x2_7 + 1))) else (some false)) else none) else none) else (some true)
def spec_EqualPairBags.f (k : Nat) (l0 : List S92) (l1 : List S92) : Option (Bool) := (spec_l7Sorted.f k l0).bind fun t1 => ((spec_l7Sorted.f k l1).bind fun t2 => (if (t1.length : Int) = (t2.length : Int) then (spec_EqualPairBags.l0 k t1 t2 0) else (some false)))
set_option maxHeartbeats 4000000 in
set_option maxRecDepth 100000 in
theorem spec_EqualPairBags.ok (k : Nat) (l0 : List S92) (Al0 : Option Addr) (cl0 : Nat) (l1 : List S92) (Al1 : Option Addr) (cl1 : Nat) (r0 : Bool) (H : spec_EqualPairBags.f k l0 l1 = some r0) : Fn Try.prog 13 [.slice Al0 l0.length cl0, .slice Al1 l1.length cl1] [] [.sl 0 k92 Al0 cl0 l0 0 false, .sl 0 k92 Al1 cl1 l1 0 false] (fun v bx en => v = .bool r0 ∧ bx = [] ∧ en = []) := by
 refine fn_ 32 Try.func13 rfl rfl rfl (fun base T w0 => ?_)
 rw [spec_EqualPairBags.f] at H
 refine gs (rg (sv (EV.as rfl) rfl (re (gs (rg (sv (EV.mv rfl) rfl ?_))))))
 revert H; refine bdI ?_; rintro t1 A1 H
 refine so rfl (op_call (spec_l7Sorted.ok k l0 Al0 cl0 _ A1) [⟨0, 0, 0, false⟩] 1 rfl rfl rfl rfl rfl ?_)
 rintro _ _ _ ⟨At1, ct1, rfl, rfl, rfl⟩
 refine sv (EV.as rfl) rfl (re (gs (rg (sv (EV.mv rfl) rfl ?_))))
 revert H; refine bdI ?_; rintro t2 A2 H
 refine so rfl (op_call (spec_l7Sorted.ok k l1 Al1 cl1 _ A2) [⟨1, 0, 0, false⟩] 3 rfl rfl rfl rfl rfl ?_)
 rintro _ _ _ ⟨At2, ct2, rfl, rfl, rfl⟩
 refine sv (EV.as rfl) rfl (re (pr [5, 6] [] [2, 3] rfl rfl rfl rfl (gs (gs (rg (sv (EV.mv rfl) rfl (sv (EV.ln rfl) rfl (sv (EV.mv rfl) rfl (sv (EV.ln rfl) rfl (sv (EV.neq rfl rfl) rfl (re ?_)))))))))))
 revert H; refine ifsI ?_ ?_ <;> intro c3 H
 ·
  refine gf rfl (nF c3) (gk (gs (gs (rg (sv (EV.as rfl) rfl (re (gb ?_)))))))
  refine lo (fun kk S => ∃ (x2_5 : List S92) (Ax2_5 : Option Addr) (cx2_5 : Nat) (x2_6 : List S92) (Ax2_6 : Option Addr) (cx2_6 : Nat) (x2_7 : Int), spec_EqualPairBags.l0 kk x2_5 x2_6 x2_7 = some r0 ∧ S = ⟨[(5, .slice Ax2_5 x2_5.length cx2_5), (6, .slice Ax2_6 x2_6.length cx2_6), (7, .int .i64 x2_7)], [], [.sl 2 k92 Ax2_5 cx2_5 x2_5 1 true, .sl 2 k92 Ax2_6 cx2_6 x2_6 2 true]⟩) (fun S hS => ?_) (fun n0 ih0 S hS => ?_) ⟨t1, At1, ct1, t2, At2, ct2, 0, H, rfl⟩ (fun h => wk [5, 6, 7] [] [⟨0, 2, 1, true⟩, ⟨1, 2, 2, true⟩] h)
  · clear H; obtain ⟨_, _, _, _, _, _, _, H, _⟩ := hS; rw [spec_EqualPairBags.l0] at H; cases H
  clear H
  obtain ⟨x2_5, Ax2_5, cx2_5, x2_6, Ax2_6, cx2_6, x2_7, H, rfl⟩ := hS
  rw [spec_EqualPairBags.l0] at H
  refine gs (gs (rg (sv (EV.mv rfl) rfl (sv (EV.mv rfl) rfl (sv (EV.ln rfl) rfl (sv (EV.lss rfl rfl) rfl (re ?_)))))))
  revert H; refine ifsI ?_ ?_ <;> intro c4 H
  ·
   refine gt rfl (dT c4) (gk (gs (gb (gs ?_))))
   revert H; refine ggI ?_; intro g5 H
   revert H; refine ggI ?_; intro g6 H
   refine dr [] [0, 1] [] 9 rfl rfl rfl rfl (xv 0 [] [0, 1] rfl (EV.mv rfl) rfl rfl rfl rfl (xv 1 [] [0, 1] rfl (EV.mv rfl) rfl rfl rfl rfl (xv 2 [] [0, 1] rfl (EV.ix 0 rfl rfl rfl g5 c4 rfl) rfl rfl rfl rfl (xv 3 [] [0, 1] rfl (EV.le (v := .agg #[.int .i64 ((rd_T92 x2_5 x2_7).f0.f0), .int .i64 ((rd_T92 x2_5 x2_7).f0.f1), .int .i64 ((rd_T92 x2_5 x2_7).f0.f2), .int .i64 ((rd_T92 x2_5 x2_7).f1.f0), .int .i64 ((rd_T92 x2_5 x2_7).f1.f1), .int .i64 ((rd_T92 x2_5 x2_7).f1.f2), .bool ((rd_T92 x2_5 x2_7).f2)]) x2_7 0 (some 7) 0 z92 rfl rfl rfl g5 c4 rfl rfl rfl) rfl rfl rfl rfl (xv 4 [] [0, 1] rfl (EV.mv rfl) rfl rfl rfl rfl (xv 5 [] [0, 1] rfl (EV.mv rfl) rfl rfl rfl rfl (xv 6 [] [0, 1] rfl (EV.ix 1 rfl rfl rfl g5 g6 rfl) rfl rfl rfl rfl (xv 7 [] [0, 1] rfl (EV.le (v := .agg #[.int .i64 ((rd_T92 x2_6 x2_7).f0.f0), .int .i64 ((rd_T92 x2_6 x2_7).f0.f1), .int .i64 ((rd_T92 x2_6 x2_7).f0.f2), .int .i64 ((rd_T92 x2_6 x2_7).f1.f0), .int .i64 ((rd_T92 x2_6 x2_7).f1.f1), .int .i64 ((rd_T92 x2_6 x2_7).f1.f2), .bool ((rd_T92 x2_6 x2_7).f2)]) x2_7 0 (some 7) 1 z92 rfl rfl rfl g5 g6 rfl rfl rfl) rfl rfl rfl rfl (xv 8 [] [0, 1] rfl (EV.neS rfl rfl (fun d w => eq92 d w ((rd_T92 x2_5 x2_7).f0.f0) ((rd_T92 x2_6 x2_7).f0.f0) ((rd_T92 x2_5 x2_7).f0.f1) ((rd_T92 x2_6 x2_7).f0.f1) ((rd_T92 x2_5 x2_7).f0.f2) ((rd_T92 x2_6 x2_7).f0.f2) ((rd_T92 x2_5 x2_7).f1.f0) ((rd_T92 x2_6 x2_7).f1.f0) ((rd_T92 x2_5 x2_7).f1.f1) ((rd_T92 x2_6 x2_7).f1.f1) ((rd_T92 x2_5 x2_7).f1.f2) ((rd_T92 x2_6 x2_7).f1.f2) ((rd_T92 x2_5 x2_7).f2) ((rd_T92 x2_6 x2_7).f2))) rfl rfl rfl rfl (xd (pr [5, 6, 7, 31] [] [0, 1] rfl rfl rfl rfl ?_)))))))))))
   revert H; refine ifsI ?_ ?_ <;> intro c7 H
   ·
    exact gf rfl (bN c7) (gk (ge (rg (sv (EV.mv rfl) rfl (sv (EV.add rfl rfl) rfl (sv (EV.as rfl) rfl (re (wk [5, 6, 7] [] [⟨0, 2, 1, true⟩, ⟨1, 2, 2, true⟩] (ih0 _ (by omega) _ ⟨x2_5, Ax2_5, cx2_5, x2_6, Ax2_6, cx2_6, wrap64 (x2_7 + 1), H, rfl⟩)))))))))
   ·
    refine gt rfl (bM c7) (gs (rg (sv (EV.as rfl) rfl (re ?_))))
    cases H
    exact rt Try.func13 rfl (.tmp rfl .nil) rfl [] [] rfl rfl rfl rfl rfl ⟨rfl, rfl, rfl⟩
  ·
   refine gf rfl (dF c4) (gx rfl (gs (rg (sv (EV.as rfl) rfl (re (pr [4] [] [] rfl rfl rfl rfl ?_))))))
   cases H
   exact rt Try.func13 rfl (.tmp rfl .nil) rfl [] [] rfl rfl rfl rfl rfl ⟨rfl, rfl, rfl⟩
 ·
  refine gt rfl (nT c3) (gs (rg (sv (EV.as rfl) rfl (re (pr [4] [] [] rfl rfl rfl rfl ?_)))))
  cases H
  exact rt Try.func13 rfl (.tmp rfl .nil) rfl [] [] rfl rfl rfl rfl rfl ⟨rfl, rfl, rfl⟩
end Go.Proofs.Ytajjeemkdjfilaa.K
namespace Go.Proofs.Ytajjeemkdjfilaa.K
open Go Go.RowKit
set_option linter.unusedVariables false
set_option linter.unusedSimpArgs false
def spec_l1In.f (a0 : Int) (a1 : Int) (a2 : Int) : Option (Bool) := if a0 ≥ a1 then (some (decide (a0 ≤ a2))) else (some false)
set_option maxHeartbeats 4000000 in
set_option maxRecDepth 100000 in
theorem spec_l1In.ok (a0 : Int) (a1 : Int) (a2 : Int) (r0 : Bool) (H : spec_l1In.f a0 a1 a2 = some r0) : Fn Try.prog 72 [.int .i64 a0, .int .i64 a1, .int .i64 a2] [] [] (fun v bx en => v = .bool r0 ∧ bx = [] ∧ en = []) := by
 refine fn_ 15 Try.func72 rfl rfl rfl (fun base T w0 => ?_)
 rw [spec_l1In.f] at H
 refine gs (rg (sv (EV.as rfl) rfl (re (gs (rg (sv (EV.mv rfl) rfl (sv (EV.mv rfl) rfl (sv (EV.geq rfl rfl) rfl (sv (EV.mv rfl) rfl ?_)))))))))
 revert H; refine ifsI ?_ ?_ <;> intro c1 H
 ·
  refine ts 10 rfl (dT c1) (sv (EV.mv rfl) rfl (sv (EV.mv rfl) rfl (sv (EV.leq rfl rfl) rfl (sv (EV.pt rfl rfl rfl) rfl (sv (EV.as rfl) rfl (re (pr [6] [] [] rfl rfl rfl rfl ?_)))))))
  cases H
  exact rt Try.func72 rfl (.tmp rfl .nil) rfl [] [] rfl rfl rfl rfl rfl ⟨rfl, rfl, rfl⟩
 ·
  refine ts 10 rfl (dF c1) (sk rfl (sk rfl (sk rfl (sv (EV.pf rfl rfl rfl) rfl (sv (EV.as rfl) rfl (re (pr [6] [] [] rfl rfl rfl rfl ?_)))))))
  cases H
  exact rt Try.func72 rfl (.tmp rfl .nil) rfl [] [] rfl rfl rfl rfl rfl ⟨rfl, rfl, rfl⟩
end Go.Proofs.Ytajjeemkdjfilaa.K
namespace Go.Proofs.Ytajjeemkdjfilaa.K
open Go Go.RowKit
set_option linter.unusedVariables false
set_option linter.unusedSimpArgs false
def spec_IsValidJoinKind.f (a0 : Int) : Option (Bool) := (spec_l1In.f a0 1 4).bind fun t1 => (some t1)
set_option maxHeartbeats 4000000 in
set_option maxRecDepth 100000 in
theorem spec_IsValidJoinKind.ok (a0 : Int) (r0 : Bool) (H : spec_IsValidJoinKind.f a0 = some r0) : Fn Try.prog 14 [.int .i64 a0] [] [] (fun v bx en => v = .bool r0 ∧ bx = [] ∧ en = []) := by
 refine fn_ 5 Try.func14 rfl rfl rfl (fun base T w0 => ?_)
 rw [spec_IsValidJoinKind.f] at H
 refine gs (rg (sv (EV.as rfl) rfl (re (gs (rg (sv (EV.mv rfl) rfl ?_))))))
 revert H; refine bdI ?_; rintro t1 A1 H
 refine so rfl (op_call (spec_l1In.ok a0 1 4 _ A1) [] 1 rfl rfl rfl rfl rfl ?_)
 rintro _ _ _ ⟨rfl, rfl, rfl⟩
 refine sv (EV.as rfl) rfl (re ?_)
 cases H
 exact rt Try.func14 rfl (.tmp rfl .nil) rfl [] [] rfl rfl rfl rfl rfl ⟨rfl, rfl, rfl⟩
end Go.Proofs.Ytajjeemkdjfilaa.K
namespace Go.Proofs.Ytajjeemkdjfilaa.K
open Go Go.RowKit
set_option linter.unusedVariables false
set_option linter.unusedSimpArgs false
def spec_IsValidRow.f (a0_0 : Int) (a0_1 : Int) (a0_2 : Int) : Option (Bool) := (spec_l1In.f a0_0 0 9).bind fun t1 => (if t1 = true then ((spec_l1In.f a0_1 0 99).bind fun t3 => (if t3 = true then ((spec_l1In.f a0_2 0 3).bind fun t5 => (some t5)) else (some false))) else (some false))
set_option maxHeartbeats 4000000 in
set_option maxRecDepth 100000 in
theorem spec_IsValidRow.ok (a0_0 : Int) (a0_1 : Int) (a0_2 : Int) (r0 : Bool) (H : spec_IsValidRow.f a0_0 a0_1 a0_2 = some r0) : Fn Try.prog 73 [.agg #[.int .i64 a0_0, .int .i64 a0_1, .int .i64 a0_2]] [] [] (fun v bx en => v = .bool r0 ∧ bx = [] ∧ en = []) := by
 refine fn_ 16 Try.func73 rfl rfl rfl (fun base T w0 => ?_)
 rw [spec_IsValidRow.f] at H
 refine gs (rg (so rfl (op_box (cs := [.int .i64 a0_0, .int .i64 a0_1, .int .i64 a0_2]) rfl rfl rfl fun b1 => (sv (EV.as rfl) rfl (re (gs (rg (sv (EV.fa 0 rfl) rfl (sv (EV.ld 0 none rfl rfl rfl) rfl ?_)))))))))
 revert H; refine bdI ?_; rintro t1 A1 H
 refine so rfl (op_call (spec_l1In.ok a0_0 0 9 _ A1) [] 1 rfl rfl rfl rfl rfl ?_)
 rintro _ _ _ ⟨rfl, rfl, rfl⟩
 refine sv (EV.mv rfl) rfl ?_
 revert H; refine ifsI ?_ ?_ <;> intro c2 H
 ·
  subst c2
  refine ts 6 rfl rfl (sv (EV.fa 1 rfl) rfl (sv (EV.ld 0 none rfl rfl rfl) rfl ?_))
  revert H; refine bdI ?_; rintro t3 A3 H
  refine so rfl (op_call (spec_l1In.ok a0_1 0 99 _ A3) [] 1 rfl rfl rfl rfl rfl ?_)
  rintro _ _ _ ⟨rfl, rfl, rfl⟩
  refine sv (EV.pt rfl rfl rfl) rfl (sv (EV.mv rfl) rfl ?_)
  revert H; refine ifsI ?_ ?_ <;> intro c4 H
  ·
   subst c4
   refine ts 11 rfl rfl (sv (EV.fa 2 rfl) rfl (sv (EV.ld 0 none rfl rfl rfl) rfl ?_))
   revert H; refine bdI ?_; rintro t5 A5 H
   refine so rfl (op_call (spec_l1In.ok a0_2 0 3 _ A5) [] 1 rfl rfl rfl rfl rfl ?_)
   rintro _ _ _ ⟨rfl, rfl, rfl⟩
   refine sv (EV.pt rfl rfl rfl) rfl (sv (EV.as rfl) rfl (re (pr [2] [] [] rfl rfl rfl rfl ?_)))
   cases H
   exact rt Try.func73 rfl (.tmp rfl .nil) rfl [] [] rfl rfl rfl rfl rfl ⟨rfl, rfl, rfl⟩
  ·
   obtain rfl := bF c4
   refine ts 11 rfl rfl (sk rfl (sk rfl (sk rfl (sv (EV.pf rfl rfl rfl) rfl (sv (EV.as rfl) rfl (re (pr [2] [] [] rfl rfl rfl rfl ?_)))))))
   cases H
   exact rt Try.func73 rfl (.tmp rfl .nil) rfl [] [] rfl rfl rfl rfl rfl ⟨rfl, rfl, rfl⟩
 ·
  obtain rfl := bF c2
  refine ts 6 rfl rfl (sk rfl (sk rfl (sk rfl (sv (EV.pf rfl rfl rfl) rfl (sv (EV.mv rfl) rfl (sk rfl (sk rfl (sk rfl (sv (EV.pf rfl rfl rfl) rfl (sv (EV.as rfl) rfl (re (pr [2] [] [] rfl rfl rfl rfl ?_))))))))))))
  cases H
  exact rt Try.func73 rfl (.tmp rfl .nil) rfl [] [] rfl rfl rfl rfl rfl ⟨rfl, rfl, rfl⟩
end Go.Proofs.Ytajjeemkdjfilaa.K
namespace Go.Proofs.Ytajjeemkdjfilaa.K
open Go Go.RowKit
set_option linter.unusedVariables false
set_option linter.unusedSimpArgs false
def spec_AreValidRows.l0 : Nat → Int → (List S70) → Option (Bool)
 | 0, _, _ => none
 | k + 1, x2_3, l0 => if x2_3 < (l0.length : Int) then (if 0 ≤ x2_3 then ((spec_IsValidRow.f ((rd_T70 l0 x2_3).f0) ((rd_T70 l0 x2_3).f1) ((rd_T70 l0 x2_3).f2)).bind fun t3 => (if t3 = true then (spec_AreValidRows.l0 k (wrap64 (x2_3 + 1)) l0) else (some false))) else none) else (some (decide ((l0.length : Int) ≤ 24)))
def spec_AreValidRows.f (k : Nat) (l0 : List S70) : Option (Bool) := spec_AreValidRows.l0 k 0 l0
set_option maxHeartbeats 4000000 in
set_option maxRecDepth 100000 in
theorem spec_AreValidRows.ok (k : Nat) (l0 : List S70) (Al0 : Option Addr) (cl0 : Nat) (r0 : Bool) (H : spec_AreValidRows.f k l0 = some r0) : Fn Try.prog 15 [.slice Al0 l0.length cl0] [] [.sl 0 k70 Al0 cl0 l0 0 false] (fun v bx en => v = .bool r0 ∧ bx = [] ∧ en = []) := by
 refine fn_ 19 Try.func15 rfl rfl rfl (fun base T w0 => ?_)
 rw [spec_AreValidRows.f] at H
 refine gs (rg (sv (EV.as rfl) rfl (re (gs (gs (rg (sv (EV.as rfl) rfl (re (gb ?_)))))))))
 refine lo (fun kk S => ∃ (x2_3 : Int), spec_AreValidRows.l0 kk x2_3 l0 = some r0 ∧ S = ⟨[(0, .slice Al0 l0.length cl0), (3, .int .i64 x2_3)], [], [.sl 0 k70 Al0 cl0 l0 0 false]⟩) (fun S hS => ?_) (fun n0 ih0 S hS => ?_) ⟨0, H, rfl⟩ (fun h => wk [0, 3] [] [⟨0, 0, 0, false⟩] h)
 · clear H; obtain ⟨_, H, _⟩ := hS; rw [spec_AreValidRows.l0] at H; cases H
 clear H
 obtain ⟨x2_3, H, rfl⟩ := hS
 rw [spec_AreValidRows.l0] at H
 refine gs (gs (rg (sv (EV.mv rfl) rfl (sv (EV.mv rfl) rfl (sv (EV.ln rfl) rfl (sv (EV.lss rfl rfl) rfl (re ?_)))))))
 revert H; refine ifsI ?_ ?_ <;> intro c1 H
 ·
  refine gt rfl (dT c1) (gk (gs (gb (gs (rg (sv (EV.mv rfl) rfl (sv (EV.mv rfl) rfl ?_)))))))
  revert H; refine ggI ?_; intro g2 H
  refine sv (EV.ix 0 rfl rfl rfl g2 c1 rfl) rfl (sv (EV.le (v := .agg #[.int .i64 ((rd_T70 l0 x2_3).f0), .int .i64 ((rd_T70 l0 x2_3).f1), .int .i64 ((rd_T70 l0 x2_3).f2)]) x2_3 0 (some 3) 0 z70 rfl rfl rfl g2 c1 rfl rfl rfl) rfl ?_)
  revert H; refine bdI ?_; rintro t3 A3 H
  refine so rfl (op_call (spec_IsValidRow.ok ((rd_T70 l0 x2_3).f0) ((rd_T70 l0 x2_3).f1) ((rd_T70 l0 x2_3).f2) _ A3) [] 1 rfl rfl rfl rfl rfl ?_)
  rintro _ _ _ ⟨rfl, rfl, rfl⟩
  refine sv (EV.nt rfl) rfl (re (pr [0, 3, 15] [] [0] rfl rfl rfl rfl ?_))
  revert H; refine ifsI ?_ ?_ <;> intro c4 H
  ·
   subst c4
   exact gf rfl rfl (gk (ge (rg (sv (EV.mv rfl) rfl (sv (EV.add rfl rfl) rfl (sv (EV.as rfl) rfl (re (wk [0, 3] [] [⟨0, 0, 0, false⟩] (ih0 _ (by omega) _ ⟨wrap64 (x2_3 + 1), H, rfl⟩)))))))))
  ·
   obtain rfl := bF c4
   refine gt rfl rfl (gs (rg (sv (EV.as rfl) rfl (re ?_))))
   cases H
   exact rt Try.func15 rfl (.tmp rfl .nil) rfl [] [] rfl rfl rfl rfl rfl ⟨rfl, rfl, rfl⟩
 ·
  refine gf rfl (dF c1) (gx rfl (gs (rg (sv (EV.mv rfl) rfl (sv (EV.ln rfl) rfl (sv (EV.leq rfl rfl) rfl (sv (EV.as rfl) rfl (re (pr [2] [] [] rfl rfl rfl rfl ?_)))))))))
  cases H
  exact rt Try.func15 rfl (.tmp rfl .nil) rfl [] [] rfl rfl rfl rfl rfl ⟨rfl, rfl, rfl⟩
end Go.Proofs.Ytajjeemkdjfilaa.K
namespace Go.Proofs.Ytajjeemkdjfilaa.K
open Go Go.RowKit
set_option linter.unusedVariables false
set_option linter.unusedSimpArgs false
def laws_grantsOk.l0 : Nat → Int → (List Int) → Option (Bool)
 | 0, _, _ => none
 | k + 1, x2_3, l0 => if x2_3 < (l0.length : Int) then (if 0 ≤ x2_3 then (if (rdOf 0 l0 x2_3) < 8 then (some false) else (if (rdOf 0 l0 x2_3) > 60 then (some false) else (laws_grantsOk.l0 k (wrap64 (x2_3 + 1)) l0))) else none) else (some (decide ((l0.length : Int) > 0)))
def laws_grantsOk.f (k : Nat) (l0 : List Int) : Option (Bool) := laws_grantsOk.l0 k 0 l0
set_option maxHeartbeats 4000000 in
set_option maxRecDepth 100000 in
theorem laws_grantsOk.ok (k : Nat) (l0 : List Int) (Al0 : Option Addr) (cl0 : Nat) (r0 : Bool) (H : laws_grantsOk.f k l0 = some r0) : Fn Try.prog 16 [.slice Al0 l0.length cl0] [] [.sl 0 (.int .i64) Al0 cl0 l0 0 false] (fun v bx en => v = .bool r0 ∧ bx = [] ∧ en = []) := by
 refine fn_ 25 Try.func16 rfl rfl rfl (fun base T w0 => ?_)
 rw [laws_grantsOk.f] at H
 refine gs (rg (sv (EV.as rfl) rfl (re (gs (gs (rg (sv (EV.as rfl) rfl (re (gb ?_)))))))))
 refine lo (fun kk S => ∃ (x2_3 : Int), laws_grantsOk.l0 kk x2_3 l0 = some r0 ∧ S = ⟨[(0, .slice Al0 l0.length cl0), (3, .int .i64 x2_3)], [], [.sl 0 (.int .i64) Al0 cl0 l0 0 false]⟩) (fun S hS => ?_) (fun n0 ih0 S hS => ?_) ⟨0, H, rfl⟩ (fun h => wk [0, 3] [] [⟨0, 0, 0, false⟩] h)
 · clear H; obtain ⟨_, H, _⟩ := hS; rw [laws_grantsOk.l0] at H; cases H
 clear H
 obtain ⟨x2_3, H, rfl⟩ := hS
 rw [laws_grantsOk.l0] at H
 refine gs (gs (rg (sv (EV.mv rfl) rfl (sv (EV.mv rfl) rfl (sv (EV.ln rfl) rfl (sv (EV.lss rfl rfl) rfl (re ?_)))))))
 revert H; refine ifsI ?_ ?_ <;> intro c1 H
 ·
  refine gt rfl (dT c1) (gk (gs (gb (gs (rg (sv (EV.mv rfl) rfl (sv (EV.mv rfl) rfl ?_)))))))
  revert H; refine ggI ?_; intro g2 H
  refine sv (EV.ix 0 rfl rfl rfl g2 c1 rfl) rfl (sv (EV.le (v := .int .i64 (rdOf 0 l0 x2_3)) x2_3 0 none 0 0 rfl rfl rfl g2 c1 rfl rfl rfl) rfl (sv (EV.lss rfl rfl) rfl (sv (EV.mv rfl) rfl ?_)))
  revert H; refine ifsI ?_ ?_ <;> intro c3 H
  ·
   refine ts 15 rfl (dT c3) (sk rfl (sk rfl (sk rfl (sk rfl (sk rfl (sv (EV.pt rfl rfl rfl) rfl (re (pr [0, 3, 21] [] [0] rfl rfl rfl rfl (gt rfl rfl (gs (rg (sv (EV.as rfl) rfl (re ?_)))))))))))))
   cases H
   exact rt Try.func16 rfl (.tmp rfl .nil) rfl [] [] rfl rfl rfl rfl rfl ⟨rfl, rfl, rfl⟩
  ·
   refine ts 15 rfl (dF c3) (sv (EV.mv rfl) rfl (sv (EV.mv rfl) rfl (sv (EV.ix 0 rfl rfl rfl g2 c1 rfl) rfl (sv (EV.le (v := .int .i64 (rdOf 0 l0 x2_3)) x2_3 0 none 0 0 rfl rfl rfl g2 c1 rfl rfl rfl) rfl (sv (EV.gtr rfl rfl) rfl (sv (EV.pf rfl rfl rfl) rfl (re (pr [0, 3, 16, 17, 18, 19, 20, 21] [] [0] rfl rfl rfl rfl ?_))))))))
   revert H; refine ifsI ?_ ?_ <;> intro c4 H
   ·
    refine gt rfl (dT c4) (gs (rg (sv (EV.as rfl) rfl (re (pr [2] [] [] rfl rfl rfl rfl ?_)))))
    cases H
    exact rt Try.func16 rfl (.tmp rfl .nil) rfl [] [] rfl rfl rfl rfl rfl ⟨rfl, rfl, rfl⟩
   ·
    exact gf rfl (dF c4) (gk (ge (rg (sv (EV.mv rfl) rfl (sv (EV.add rfl rfl) rfl (sv (EV.as rfl) rfl (re (wk [0, 3] [] [⟨0, 0, 0, false⟩] (ih0 _ (by omega) _ ⟨wrap64 (x2_3 + 1), H, rfl⟩)))))))))
 ·
  refine gf rfl (dF c1) (gx rfl (gs (rg (sv (EV.mv rfl) rfl (sv (EV.ln rfl) rfl (sv (EV.gtr rfl rfl) rfl (sv (EV.as rfl) rfl (re (pr [2] [] [] rfl rfl rfl rfl ?_)))))))))
  cases H
  exact rt Try.func16 rfl (.tmp rfl .nil) rfl [] [] rfl rfl rfl rfl rfl ⟨rfl, rfl, rfl⟩
end Go.Proofs.Ytajjeemkdjfilaa.K
namespace Go.Proofs.Ytajjeemkdjfilaa.K
open Go Go.RowKit
set_option linter.unusedVariables false
set_option linter.unusedSimpArgs false
def spec_CountMatches.l0 : Nat → Int → Int → Int → Int → Int → (List S70) → Option (Int)
 | 0, _, _, _, _, _, _ => none
 | k + 1, x2_5, x2_6, x2_2_0, x2_2_1, x2_2_2, l1 => if x2_6 < (l1.length : Int) then (if 0 ≤ x2_6 then (if ((rd_T70 l1 x2_6).f0) = x2_2_0 then (spec_CountMatches.l0 k (wrap64 (x2_5 + 1)) (wrap64 (x2_6 + 1)) x2_2_0 x2_2_1 x2_2_2 l1) else (spec_CountMatches.l0 k x2_5 (wrap64 (x2_6 + 1)) x2_2_0 x2_2_1 x2_2_2 l1)) else none) else (some x2_5)
def spec_CountMatches.f (k : Nat) (a0_0 : Int) (a0_1 : Int) (a0_2 : Int) (l1 : List S70) : Option (Int) := spec_CountMatches.l0 k 0 0 a0_0 a0_1 a0_2 l1
set_option maxHeartbeats 4000000 in
set_option maxRecDepth 100000 in
theorem spec_CountMatches.ok (k : Nat) (a0_0 : Int) (a0_1 : Int) (a0_2 : Int) (l1 : List S70) (Al1 : Option Addr) (cl1 : Nat) (r0 : Int) (H : spec_CountMatches.f k a0_0 a0_1 a0_2 l1 = some r0) : Fn Try.prog 81 [.agg #[.int .i64 a0_0, .int .i64 a0_1, .int .i64 a0_2], .slice Al1 l1.length cl1] [] [.sl 0 k70 Al1 cl1 l1 0 false] (fun v bx en => v = .int .i64 r0 ∧ bx = [] ∧ en = []) := by
 refine fn_ 24 Try.func81 rfl rfl rfl (fun base T w0 => ?_)
 rw [spec_CountMatches.f] at H
 refine gs (rg (so rfl (op_box (cs := [.int .i64 a0_0, .int .i64 a0_1, .int .i64 a0_2]) rfl rfl rfl fun b2 => (sv (EV.as rfl) rfl (re (gs (rg (sv (EV.as rfl) rfl (re (gs (gs (rg (sv (EV.as rfl) rfl (re (gb ?_)))))))))))))))
 refine lo (fun kk S => ∃ (x2_5 : Int) (x2_6 : Int) (x2_2_0 : Int) (x2_2_1 : Int) (x2_2_2 : Int), spec_CountMatches.l0 kk x2_5 x2_6 x2_2_0 x2_2_1 x2_2_2 l1 = some r0 ∧ S = ⟨[(1, .slice Al1 l1.length cl1), (2, .pointer (some ⟨b2, 0, none⟩)), (5, .int .i64 x2_5), (6, .int .i64 x2_6)], [⟨b2, 70, [.int .i64 x2_2_0, .int .i64 x2_2_1, .int .i64 x2_2_2]⟩], [.sl 0 k70 Al1 cl1 l1 0 false]⟩) (fun S hS => ?_) (fun n0 ih0 S hS => ?_) ⟨0, 0, a0_0, a0_1, a0_2, H, rfl⟩ (fun h => wk [1, 2, 5, 6] [0] [⟨0, 0, 0, false⟩] h)
 · clear H; obtain ⟨_, _, _, _, _, H, _⟩ := hS; rw [spec_CountMatches.l0] at H; cases H
 clear H
 obtain ⟨x2_5, x2_6, x2_2_0, x2_2_1, x2_2_2, H, rfl⟩ := hS
 rw [spec_CountMatches.l0] at H
 refine gs (gs (rg (sv (EV.mv rfl) rfl (sv (EV.mv rfl) rfl (sv (EV.ln rfl) rfl (sv (EV.lss rfl rfl) rfl (re ?_)))))))
 revert H; refine ifsI ?_ ?_ <;> intro c1 H
 ·
  refine gt rfl (dT c1) (gk (gs (gb (gs ?_))))
  revert H; refine ggI ?_; intro g2 H
  refine dr [0] [0] [] 8 rfl rfl rfl rfl (xv 0 [0] [0] rfl (EV.mv rfl) rfl rfl rfl rfl (xv 1 [0] [0] rfl (EV.mv rfl) rfl rfl rfl rfl (xv 2 [0] [0] rfl (EV.ix 0 rfl rfl rfl g2 c1 rfl) rfl rfl rfl rfl (xv 3 [0] [0] rfl (EV.fa 0 rfl) rfl rfl rfl rfl (xv 4 [0] [0] rfl (EV.le (v := .int .i64 ((rd_T70 l1 x2_6).f0)) x2_6 0 none 0 z70 rfl rfl rfl g2 c1 rfl rfl rfl) rfl rfl rfl rfl (xv 5 [0] [0] rfl (EV.fa 0 rfl) rfl rfl rfl rfl (xv 6 [0] [0] rfl (EV.ld 0 none rfl rfl rfl) rfl rfl rfl rfl (xv 7 [0] [0] rfl (EV.eql rfl rfl) rfl rfl rfl rfl (xd (pr [1, 2, 5, 6, 20] [0] [0] rfl rfl rfl rfl ?_))))))))))
  revert H; refine ifsI ?_ ?_ <;> intro c3 H
  ·
   exact gt rfl (dT c3) (rg (sv (EV.mv rfl) rfl (sv (EV.add rfl rfl) rfl (sv (EV.as rfl) rfl (re (ge (rg (sv (EV.mv rfl) rfl (sv (EV.add rfl rfl) rfl (sv (EV.as rfl) rfl (re (wk [1, 2, 5, 6] [0] [⟨0, 0, 0, false⟩] (ih0 _ (by omega) _ ⟨wrap64 (x2_5 + 1), wrap64 (x2_6 + 1), x2_2_0, x2_2_1, x2_2_2, H, rfl⟩)))))))))))))
  ·
   exact gf rfl (dF c3) (gk (ge (rg (sv (EV.mv rfl) rfl (sv (EV.add rfl rfl) rfl (sv (EV.as rfl) rfl (re (wk [1, 2, 5, 6] [0] [⟨0, 0, 0, false⟩] (ih0 _ (by omega) _ ⟨x2_5, wrap64 (x2_6 + 1), x2_2_0, x2_2_1, x2_2_2, H, rfl⟩)))))))))
 ·
  refine gf rfl (dF c1) (gx rfl (gs (rg (sv (EV.mv rfl) rfl (sv (EV.as rfl) rfl (re (pr [4] [] [] rfl rfl rfl rfl ?_)))))))
  cases H
  exact rt Try.func81 rfl (.tmp rfl .nil) rfl [] [] rfl rfl rfl rfl rfl ⟨rfl, rfl, rfl⟩
end Go.Proofs.Ytajjeemkdjfilaa.K
namespace Go.Proofs.Ytajjeemkdjfilaa.K
open Go Go.RowKit
set_option linter.unusedVariables false
set_option linter.unusedSimpArgs false
def spec_l7One.l0 : Nat → Int → (List S92) → Int → Int → Int → Int → Int → (List S70) → Option ((List S92))
 | 0, _, _, _, _, _, _, _, _ => none
 | k + 1, x2_0, x2_7, x2_8, x2_9, x2_4_0, x2_4_1, x2_4_2, l2 => if x2_9 < (l2.length : Int) then (if 0 ≤ x2_9 then (if ((rd_T70 l2 x2_9).f0) = x2_4_0 then (if x2_7.length < 2513169434916 then (spec_l7One.l0 k x2_0 (x2_7 ++ ([(⟨(⟨x2_4_0, x2_4_1, x2_4_2⟩ : S70), (⟨(rd_T70 l2 x2_9).f0, (rd_T70 l2 x2_9).f1, (rd_T70 l2 x2_9).f2⟩ : S70), true⟩ : S92)] : List S92)) x2_8 (wrap64 (x2_9 + 1)) x2_4_0 x2_4_1 x2_4_2 l2) else none) else (spec_l7One.l0 k x2_0 x2_7 x2_8 (wrap64 (x2_9 + 1)) x2_4_0 x2_4_1 x2_4_2 l2)) else none) else (if x2_8 = 0 then (if x2_0 = 4 then (if x2_7.length < 2513169434916 then (some (x2_7 ++ ([(⟨(⟨x2_4_0, x2_4_1, x2_4_2⟩ : S70), (⟨0, 0, 0⟩ : S70), false⟩ : S92)] : List S92))) else none) else (some x2_7)) else (some x2_7))
def spec_l7One.f (k : Nat) (a0 : Int) (a1_0 : Int) (a1_1 : Int) (a1_2 : Int) (l2 : List S70) : Option ((List S92)) := (spec_CountMatches.f k a1_0 a1_1 a1_2 l2).bind fun t2 => (if a0 = 2 then (if t2 > 0 then (if ([] : List S92).length < 2513169434916 then (some ([(⟨(⟨a1_0, a1_1, a1_2⟩ : S70), (⟨0, 0, 0⟩ : S70), false⟩ : S92)] : List S92)) else none) else (some [])) else (if a0 = 3 then (if t2 = 0 then (if ([] : List S92).length < 2513169434916 then (some ([(⟨(⟨a1_0, a1_1, a1_2⟩ : S70), (⟨0, 0, 0⟩ : S70), false⟩ : S92)] : List S92)) else none) else (some [])) else (spec_l7One.l0 k a0 [] t2 0 a1_0 a1_1 a1_2 l2)))
set_option maxHeartbeats 4000000 in
set_option maxRecDepth 100000 in
theorem spec_l7One.ok (k : Nat) (a0 : Int) (a1_0 : Int) (a1_1 : Int) (a1_2 : Int) (l2 : List S70) (Al2 : Option Addr) (cl2 : Nat) (r0 : List S92) (H : spec_l7One.f k a0 a1_0 a1_1 a1_2 l2 = some r0) : Fn Try.prog 74 [.int .i64 a0, .agg #[.int .i64 a1_0, .int .i64 a1_1, .int .i64 a1_2], .slice Al2 l2.length cl2] [] [.sl 0 k70 Al2 cl2 l2 0 false] (fun v bx en => ∃ A0 c0, v = .slice A0 r0.length c0 ∧ bx = [] ∧ en = [.sl 2 k92 A0 c0 r0 1 true]) := by
 refine fn_ 70 Try.func74 rfl rfl rfl (fun base T w0 => ?_)
 rw [spec_l7One.f] at H
 refine gs (rg (so rfl (op_box (cs := [.int .i64 a1_0, .int .i64 a1_1, .int .i64 a1_2]) rfl rfl rfl fun b4 => (sv (EV.as rfl) rfl (re (gs (rg (so rfl (op_lit (s := 7) (by_ := 56) k92 ([] : List S92) [] [] 1 [] rfl rfl rfl rfl rfl rfl rfl rfl rfl rfl rfl rfl rfl dq rfl fun A10_1 c10_1 => (sv (EV.as rfl) rfl (re (gs (rg (sv (EV.ld (v := .agg #[.int .i64 a1_0, .int .i64 a1_1, .int .i64 a1_2]) 0 (some 3) rfl rfl rfl) rfl (sv (EV.mv rfl) rfl ?_)))))))))))))))
 revert H; refine bdI ?_; rintro t2 A2 H
 refine so rfl (op_call (spec_CountMatches.ok k a1_0 a1_1 a1_2 l2 Al2 cl2 _ A2) [⟨0, 0, 0, false⟩] 2 rfl rfl rfl rfl rfl ?_)
 rintro _ _ _ ⟨rfl, rfl, rfl⟩
 refine sv (EV.as rfl) rfl (re (pr [0, 2, 4, 7, 8] [0] [0, 1] rfl rfl rfl rfl (gs (gs (rg (sv (EV.mv rfl) rfl (re (gb (gs (rg (sv (EV.eql rfl rfl) rfl (sv (EV.as rfl) rfl (re ?_)))))))))))))
 revert H; refine ifsI ?_ ?_ <;> intro c3 H
 ·
  refine gt rfl (dT c3) (gs (gs (rg (sv (EV.mv rfl) rfl (sv (EV.gtr rfl rfl) rfl (re (pr [4, 7, 18] [0] [1] rfl rfl rfl rfl ?_)))))))
  revert H; refine ifsI ?_ ?_ <;> intro c4 H
  ·
   refine gt rfl (dT c4) (rg (sv (EV.mv rfl) rfl (sv (EV.ld (v := .agg #[.int .i64 a1_0, .int .i64 a1_1, .int .i64 a1_2]) 0 (some 3) rfl rfl rfl) rfl (sv (EV.bd (v := .agg #[.int .i64 a1_0, .int .i64 a1_1, .int .i64 a1_2, .int .i64 0, .int .i64 0, .int .i64 0, .bool false]) rfl (by kernel_rfl)) rfl (so rfl (op_lit (s := 7) (by_ := 56) k92 ([(⟨(⟨a1_0, a1_1, a1_2⟩ : S70), (⟨0, 0, 0⟩ : S70), false⟩ : S92)] : List S92) [[]] [] 2 [.tmp 21] rfl rfl rfl rfl rfl rfl rfl rfl rfl rfl rfl rfl rfl dq rfl fun A22_5 c22_5 => ?_))))))
   revert H; refine ggI ?_; intro g6 H
   refine so rfl (op_app (k := k92) (s := 7) (by_ := 56) 0 1 rfl rfl rfl rfl (ap1 g6 dq) (ap1n g6 dq) (.inl rfl) true (fun _ => .inl rfl) rfl rfl fun A23_7 c23_7 => (nmE (en := [.sl 2 k92 A22_5 c22_5 ([(⟨(⟨a1_0, a1_1, a1_2⟩ : S70), (⟨0, 0, 0⟩ : S70), false⟩ : S92)] : List S92) 2 true, .sl 2 k92 A23_7 c23_7 ([(⟨(⟨a1_0, a1_1, a1_2⟩ : S70), (⟨0, 0, 0⟩ : S70), false⟩ : S92)] : List S92) 1 true]) (by kernel_rfl) (sv (EV.as rfl) rfl (re (pr [7] [] [1] rfl rfl rfl rfl (gs (rg (sv (EV.mv rfl) rfl (sv (EV.as rfl) rfl (re ?_))))))))))
   cases H
   exact rt Try.func74 rfl (.tmp rfl .nil) rfl [] [⟨0, 2, 1, true⟩] rfl rfl rfl rfl rfl ⟨_, _, rfl, rfl, rfl⟩
  ·
   refine gf rfl (dF c4) (gk (gs (rg (sv (EV.mv rfl) rfl (sv (EV.as rfl) rfl (re ?_))))))
   cases H
   exact rt Try.func74 rfl (.tmp rfl .nil) rfl [] [⟨0, 2, 1, true⟩] rfl rfl rfl rfl rfl ⟨_, _, rfl, rfl, rfl⟩
 ·
  refine gf rfl (dF c3) (gs (rg (sv (EV.eql rfl rfl) rfl (sv (EV.as rfl) rfl (re ?_)))))
  revert H; refine ifsI ?_ ?_ <;> intro c8 H
  ·
   refine gt rfl (dT c8) (gs (gs (rg (sv (EV.mv rfl) rfl (sv (EV.eql rfl rfl) rfl (re (pr [4, 7, 28] [0] [1] rfl rfl rfl rfl ?_)))))))
   revert H; refine ifsI ?_ ?_ <;> intro c9 H
   ·
    refine gt rfl (dT c9) (rg (sv (EV.mv rfl) rfl (sv (EV.ld (v := .agg #[.int .i64 a1_0, .int .i64 a1_1, .int .i64 a1_2]) 0 (some 3) rfl rfl rfl) rfl (sv (EV.bd (v := .agg #[.int .i64 a1_0, .int .i64 a1_1, .int .i64 a1_2, .int .i64 0, .int .i64 0, .int .i64 0, .bool false]) rfl (by kernel_rfl)) rfl (so rfl (op_lit (s := 7) (by_ := 56) k92 ([(⟨(⟨a1_0, a1_1, a1_2⟩ : S70), (⟨0, 0, 0⟩ : S70), false⟩ : S92)] : List S92) [[]] [] 2 [.tmp 31] rfl rfl rfl rfl rfl rfl rfl rfl rfl rfl rfl rfl rfl dq rfl fun A32_10 c32_10 => ?_))))))
    revert H; refine ggI ?_; intro g11 H
    refine so rfl (op_app (k := k92) (s := 7) (by_ := 56) 0 1 rfl rfl rfl rfl (ap1 g11 dq) (ap1n g11 dq) (.inl rfl) true (fun _ => .inl rfl) rfl rfl fun A33_12 c33_12 => (nmE (en := [.sl 2 k92 A32_10 c32_10 ([(⟨(⟨a1_0, a1_1, a1_2⟩ : S70), (⟨0, 0, 0⟩ : S70), false⟩ : S92)] : List S92) 2 true, .sl 2 k92 A33_12 c33_12 ([(⟨(⟨a1_0, a1_1, a1_2⟩ : S70), (⟨0, 0, 0⟩ : S70), false⟩ : S92)] : List S92) 1 true]) (by kernel_rfl) (sv (EV.as rfl) rfl (re (pr [7] [] [1] rfl rfl rfl rfl (gs (rg (sv (EV.mv rfl) rfl (sv (EV.as rfl) rfl (re ?_))))))))))
    cases H
    exact rt Try.func74 rfl (.tmp rfl .nil) rfl [] [⟨0, 2, 1, true⟩] rfl rfl rfl rfl rfl ⟨_, _, rfl, rfl, rfl⟩
   ·
    refine gf rfl (dF c9) (gk (gs (rg (sv (EV.mv rfl) rfl (sv (EV.as rfl) rfl (re ?_))))))
    cases H
    exact rt Try.func74 rfl (.tmp rfl .nil) rfl [] [⟨0, 2, 1, true⟩] rfl rfl rfl rfl rfl ⟨_, _, rfl, rfl, rfl⟩
  ·
   refine gf rfl (dF c8) (gk (ge (gs (gs (rg (sv (EV.as rfl) rfl (re (gb ?_))))))))
   refine lo (fun kk S => ∃ (x2_0 : Int) (x2_7 : List S92) (Ax2_7 : Option Addr) (cx2_7 : Nat) (x2_8 : Int) (x2_9 : Int) (x2_4_0 : Int) (x2_4_1 : Int) (x2_4_2 : Int), spec_l7One.l0 kk x2_0 x2_7 x2_8 x2_9 x2_4_0 x2_4_1 x2_4_2 l2 = some r0 ∧ S = ⟨[(0, .int .i64 x2_0), (2, .slice Al2 l2.length cl2), (4, .pointer (some ⟨b4, 0, none⟩)), (7, .slice Ax2_7 x2_7.length cx2_7), (8, .int .i64 x2_8), (9, .int .i64 x2_9)], [⟨b4, 70, [.int .i64 x2_4_0, .int .i64 x2_4_1, .int .i64 x2_4_2]⟩], [.sl 2 k92 Ax2_7 cx2_7 x2_7 1 true, .sl 0 k70 Al2 cl2 l2 0 false]⟩) (fun S hS => ?_) (fun n0 ih0 S hS => ?_) ⟨a0, [], A10_1, c10_1, t2, 0, a1_0, a1_1, a1_2, H, rfl⟩ (fun h => wk [0, 2, 4, 7, 8, 9] [0] [⟨1, 2, 1, true⟩, ⟨0, 0, 0, false⟩] h)
   · clear H; obtain ⟨_, _, _, _, _, _, _, _, _, H, _⟩ := hS; rw [spec_l7One.l0] at H; cases H
   clear H
   obtain ⟨x2_0, x2_7, Ax2_7, cx2_7, x2_8, x2_9, x2_4_0, x2_4_1, x2_4_2, H, rfl⟩ := hS
   rw [spec_l7One.l0] at H
   refine gs (gs (rg (sv (EV.mv rfl) rfl (sv (EV.mv rfl) rfl (sv (EV.ln rfl) rfl (sv (EV.lss rfl rfl) rfl (re ?_)))))))
   revert H; refine ifsI ?_ ?_ <;> intro c13 H
   ·
    refine gt rfl (dT c13) (gk (gs (gb (gs ?_))))
    revert H; refine ggI ?_; intro g14 H
    refine dr [0] [0, 1] [] 8 rfl rfl rfl rfl (xv 0 [0] [0, 1] rfl (EV.mv rfl) rfl rfl rfl rfl (xv 1 [0] [0, 1] rfl (EV.mv rfl) rfl rfl rfl rfl (xv 2 [0] [0, 1] rfl (EV.ix 1 rfl rfl rfl g14 c13 rfl) rfl rfl rfl rfl (xv 3 [0] [0, 1] rfl (EV.fa 0 rfl) rfl rfl rfl rfl (xv 4 [0] [0, 1] rfl (EV.le (v := .int .i64 ((rd_T70 l2 x2_9).f0)) x2_9 0 none 1 z70 rfl rfl rfl g14 c13 rfl rfl rfl) rfl rfl rfl rfl (xv 5 [0] [0, 1] rfl (EV.fa 0 rfl) rfl rfl rfl rfl (xv 6 [0] [0, 1] rfl (EV.ld 0 none rfl rfl rfl) rfl rfl rfl rfl (xv 7 [0] [0, 1] rfl (EV.eql rfl rfl) rfl rfl rfl rfl (xd (pr [0, 2, 4, 7, 8, 9, 48] [0] [0, 1] rfl rfl rfl rfl ?_))))))))))
    revert H; refine ifsI ?_ ?_ <;> intro c15 H
    ·
     refine gt rfl (dT c15) ?_
     revert H; refine ggI ?_; intro g16 H
     exact dr [0] [1] [9] 10 rfl rfl rfl rfl (xv 0 [0] [1] rfl (EV.mv rfl) rfl rfl rfl rfl (xv 1 [0] [1] rfl (EV.ld (v := .agg #[.int .i64 x2_4_0, .int .i64 x2_4_1, .int .i64 x2_4_2]) 0 (some 3) rfl rfl rfl) rfl rfl rfl rfl (xv 2 [0] [1] rfl (EV.mv rfl) rfl rfl rfl rfl (xv 3 [0] [1] rfl (EV.mv rfl) rfl rfl rfl rfl (xv 4 [0] [1] rfl (EV.ix 0 rfl rfl rfl g14 c13 rfl) rfl rfl rfl rfl (xv 5 [0] [1] rfl (EV.le (v := .agg #[.int .i64 ((rd_T70 l2 x2_9).f0), .int .i64 ((rd_T70 l2 x2_9).f1), .int .i64 ((rd_T70 l2 x2_9).f2)]) x2_9 0 (some 3) 0 z70 rfl rfl rfl g14 c13 rfl rfl rfl) rfl rfl rfl rfl (xv 6 [0] [1] rfl (EV.bd (v := .agg #[.int .i64 x2_4_0, .int .i64 x2_4_1, .int .i64 x2_4_2, .int .i64 ((rd_T70 l2 x2_9).f0), .int .i64 ((rd_T70 l2 x2_9).f1), .int .i64 ((rd_T70 l2 x2_9).f2), .bool true]) rfl (by kernel_rfl)) rfl rfl rfl rfl (one1 7 rfl rfl (op_lit (s := 7) (by_ := 56) k92 ([(⟨(⟨x2_4_0, x2_4_1, x2_4_2⟩ : S70), (⟨(rd_T70 l2 x2_9).f0, (rd_T70 l2 x2_9).f1, (rd_T70 l2 x2_9).f2⟩ : S70), true⟩ : S92)] : List S92) [[]] [] 2 [.tmp 55] rfl rfl rfl rfl rfl rfl rfl rfl rfl rfl rfl rfl rfl dq rfl fun A56_17 c56_17 => (xs [0] [1] rfl rfl rfl (one1 8 rfl rfl (op_app (k := k92) (s := 7) (by_ := 56) 0 2 rfl rfl rfl rfl (ap1 g16 dq) (ap1n g16 dq) (.inl rfl) true (fun _ => .inl rfl) rfl rfl fun A57_18 c57_18 => (nmE (en := [.sl 0 k70 Al2 cl2 l2 0 false, .sl 2 k92 A56_17 c56_17 ([(⟨(⟨x2_4_0, x2_4_1, x2_4_2⟩ : S70), (⟨(rd_T70 l2 x2_9).f0, (rd_T70 l2 x2_9).f1, (rd_T70 l2 x2_9).f2⟩ : S70), true⟩ : S92)] : List S92) 2 true, .sl 2 k92 A57_18 c57_18 (x2_7 ++ ([(⟨(⟨x2_4_0, x2_4_1, x2_4_2⟩ : S70), (⟨(rd_T70 l2 x2_9).f0, (rd_T70 l2 x2_9).f1, (rd_T70 l2 x2_9).f2⟩ : S70), true⟩ : S92)] : List S92)) 1 true]) (by kernel_rfl) (xs [0] [0] rfl rfl rfl (one1 9 rfl rfl (ov (EV.as rfl) rfl (xn rfl (xd (pr [0, 2, 4, 7, 8, 9] [0] [0, 2] rfl rfl rfl rfl (ge (rg (sv (EV.mv rfl) rfl (sv (EV.add rfl rfl) rfl (sv (EV.as rfl) rfl (re (wk [0, 2, 4, 7, 8, 9] [0] [⟨1, 2, 1, true⟩, ⟨0, 0, 0, false⟩] (ih0 _ (by omega) _ ⟨x2_0, x2_7 ++ ([(⟨(⟨x2_4_0, x2_4_1, x2_4_2⟩ : S70), (⟨(rd_T70 l2 x2_9).f0, (rd_T70 l2 x2_9).f1, (rd_T70 l2 x2_9).f2⟩ : S70), true⟩ : S92)] : List S92), A57_18, c57_18, x2_8, wrap64 (x2_9 + 1), x2_4_0, x2_4_1, x2_4_2, H, rfl⟩)))))))))))))))))))))))))))
    ·
     exact gf rfl (dF c15) (gk (ge (rg (sv (EV.mv rfl) rfl (sv (EV.add rfl rfl) rfl (sv (EV.as rfl) rfl (re (wk [0, 2, 4, 7, 8, 9] [0] [⟨0, 2, 1, true⟩, ⟨1, 0, 0, false⟩] (ih0 _ (by omega) _ ⟨x2_0, x2_7, Ax2_7, cx2_7, x2_8, wrap64 (x2_9 + 1), x2_4_0, x2_4_1, x2_4_2, H, rfl⟩)))))))))
   ·
    refine gf rfl (dF c13) (gx rfl (gs (gs (rg (sv (EV.mv rfl) rfl (sv (EV.eql rfl rfl) rfl (sv (EV.mv rfl) rfl ?_)))))))
    revert H; refine ifsI ?_ ?_ <;> intro c19 H
    ·
     refine ts 60 rfl (dT c19) (sv (EV.mv rfl) rfl (sv (EV.eql rfl rfl) rfl (sv (EV.pt rfl rfl rfl) rfl (re (pr [4, 7, 63] [0] [0] rfl rfl rfl rfl ?_)))))
     revert H; refine ifsI ?_ ?_ <;> intro c20 H
     ·
      refine gt rfl (dT c20) (rg (sv (EV.mv rfl) rfl (sv (EV.ld (v := .agg #[.int .i64 x2_4_0, .int .i64 x2_4_1, .int .i64 x2_4_2]) 0 (some 3) rfl rfl rfl) rfl (sv (EV.bd (v := .agg #[.int .i64 x2_4_0, .int .i64 x2_4_1, .int .i64 x2_4_2, .int .i64 0, .int .i64 0, .int .i64 0, .bool false]) rfl (by kernel_rfl)) rfl (so rfl (op_lit (s := 7) (by_ := 56) k92 ([(⟨(⟨x2_4_0, x2_4_1, x2_4_2⟩ : S70), (⟨0, 0, 0⟩ : S70), false⟩ : S92)] : List S92) [[]] [] 2 [.tmp 66] rfl rfl rfl rfl rfl rfl rfl rfl rfl rfl rfl rfl rfl dq rfl fun A67_21 c67_21 => ?_))))))
      revert H; refine ggI ?_; intro g22 H
      refine so rfl (op_app (k := k92) (s := 7) (by_ := 56) 0 1 rfl rfl rfl rfl (ap1 g22 dq) (ap1n g22 dq) (.inl rfl) true (fun _ => .inl rfl) rfl rfl fun A68_23 c68_23 => (nmE (en := [.sl 2 k92 A67_21 c67_21 ([(⟨(⟨x2_4_0, x2_4_1, x2_4_2⟩ : S70), (⟨0, 0, 0⟩ : S70), false⟩ : S92)] : List S92) 2 true, .sl 2 k92 A68_23 c68_23 (x2_7 ++ ([(⟨(⟨x2_4_0, x2_4_1, x2_4_2⟩ : S70), (⟨0, 0, 0⟩ : S70), false⟩ : S92)] : List S92)) 1 true]) (by kernel_rfl) (sv (EV.as rfl) rfl (re (pr [7] [] [1] rfl rfl rfl rfl (gs (rg (sv (EV.mv rfl) rfl (sv (EV.as rfl) rfl (re ?_))))))))))
      cases H
      exact rt Try.func74 rfl (.tmp rfl .nil) rfl [] [⟨0, 2, 1, true⟩] rfl rfl rfl rfl rfl ⟨_, _, rfl, rfl, rfl⟩
     ·
      refine gf rfl (dF c20) (gk (gs (rg (sv (EV.mv rfl) rfl (sv (EV.as rfl) rfl (re ?_))))))
      cases H
      exact rt Try.func74 rfl (.tmp rfl .nil) rfl [] [⟨0, 2, 1, true⟩] rfl rfl rfl rfl rfl ⟨_, _, rfl, rfl, rfl⟩
    ·
     refine ts 60 rfl (dF c19) (sk rfl (sk rfl (sv (EV.pf rfl rfl rfl) rfl (re (pr [4, 7, 63] [0] [0] rfl rfl rfl rfl (gf rfl rfl (gk (gs (rg (sv (EV.mv rfl) rfl (sv (EV.as rfl) rfl (re ?_))))))))))))
     cases H
     exact rt Try.func74 rfl (.tmp rfl .nil) rfl [] [⟨0, 2, 1, true⟩] rfl rfl rfl rfl rfl ⟨_, _, rfl, rfl, rfl⟩
end Go.Proofs.Ytajjeemkdjfilaa.K
namespace Go.Proofs.Ytajjeemkdjfilaa.K
open Go Go.RowKit
set_option linter.unusedVariables false
set_option linter.unusedSimpArgs false
def spec_ReferenceJoin.l0 : Nat → Int → (List S92) → Int → (List S70) → (List S70) → Option ((List S92))
 | 0, _, _, _, _, _ => none
 | k + 1, x2_0, x2_7, x2_8, l1, l2 => if x2_8 < (l1.length : Int) then ((spec_IsValidJoinKind.f x2_0).bind fun t3 => (if t3 = true then (if 0 ≤ x2_8 then ((spec_l7One.f k x2_0 ((rd_T70 l1 x2_8).f0) ((rd_T70 l1 x2_8).f1) ((rd_T70 l1 x2_8).f2) l2).bind fun t6 => (if x2_7.length + t6.length ≤ 2513169434916 then (spec_ReferenceJoin.l0 k x2_0 (x2_7 ++ t6) (wrap64 (x2_8 + 1)) l1 l2) else none)) else none) else (some x2_7))) else (some x2_7)
def spec_ReferenceJoin.f (k : Nat) (a0 : Int) (l1 : List S70) (l2 : List S70) : Option ((List S92)) := spec_ReferenceJoin.l0 k a0 [] 0 l1 l2
set_option maxHeartbeats 4000000 in
set_option maxRecDepth 100000 in
theorem spec_ReferenceJoin.ok (k : Nat) (a0 : Int) (l1 : List S70) (Al1 : Option Addr) (cl1 : Nat) (l2 : List S70) (Al2 : Option Addr) (cl2 : Nat) (r0 : List S92) (H : spec_ReferenceJoin.f k a0 l1 l2 = some r0) : Fn Try.prog 18 [.int .i64 a0, .slice Al1 l1.length cl1, .slice Al2 l2.length cl2] [] [.sl 0 k70 Al1 cl1 l1 0 false, .sl 0 k70 Al2 cl2 l2 0 false] (fun v bx en => ∃ A0 c0, v = .slice A0 r0.length c0 ∧ bx = [] ∧ en = [.sl 2 k92 A0 c0 r0 1 true]) := by
 refine fn_ 30 Try.func18 rfl rfl rfl (fun base T w0 => ?_)
 rw [spec_ReferenceJoin.f] at H
 refine gs (rg (sv (EV.as rfl) rfl (re (gs (rg (so rfl (op_lit (s := 7) (by_ := 56) k92 ([] : List S92) [] [] 1 [] rfl rfl rfl rfl rfl rfl rfl rfl rfl rfl rfl rfl rfl dq rfl fun A9_1 c9_1 => (sv (EV.as rfl) rfl (re (gs (gs (rg (sv (EV.as rfl) rfl (re (gb ?_)))))))))))))))
 refine lo (fun kk S => ∃ (x2_0 : Int) (x2_7 : List S92) (Ax2_7 : Option Addr) (cx2_7 : Nat) (x2_8 : Int), spec_ReferenceJoin.l0 kk x2_0 x2_7 x2_8 l1 l2 = some r0 ∧ S = ⟨[(0, .int .i64 x2_0), (1, .slice Al1 l1.length cl1), (2, .slice Al2 l2.length cl2), (7, .slice Ax2_7 x2_7.length cx2_7), (8, .int .i64 x2_8)], [], [.sl 2 k92 Ax2_7 cx2_7 x2_7 1 true, .sl 0 k70 Al1 cl1 l1 0 false, .sl 0 k70 Al2 cl2 l2 0 false]⟩) (fun S hS => ?_) (fun n0 ih0 S hS => ?_) ⟨a0, [], A9_1, c9_1, 0, H, rfl⟩ (fun h => wk [0, 1, 2, 7, 8] [] [⟨2, 2, 1, true⟩, ⟨0, 0, 0, false⟩, ⟨1, 0, 0, false⟩] h)
 · clear H; obtain ⟨_, _, _, _, _, H, _⟩ := hS; rw [spec_ReferenceJoin.l0] at H; cases H
 clear H
 obtain ⟨x2_0, x2_7, Ax2_7, cx2_7, x2_8, H, rfl⟩ := hS
 rw [spec_ReferenceJoin.l0] at H
 refine gs (gs (rg (sv (EV.mv rfl) rfl (sv (EV.mv rfl) rfl (sv (EV.ln rfl) rfl (sv (EV.lss rfl rfl) rfl (sv (EV.mv rfl) rfl ?_)))))))
 revert H; refine ifsI ?_ ?_ <;> intro c2 H
 ·
  refine ts 14 rfl (dT c2) (sv (EV.mv rfl) rfl ?_)
  revert H; refine bdI ?_; rintro t3 A3 H
  refine so rfl (op_call (spec_IsValidJoinKind.ok x2_0 _ A3) [] 2 rfl rfl rfl rfl rfl ?_)
  rintro _ _ _ ⟨rfl, rfl, rfl⟩
  refine sv (EV.pt rfl rfl rfl) rfl (re ?_)
  revert H; refine ifsI ?_ ?_ <;> intro c4 H
  ·
   subst c4
   refine gt rfl rfl (gk (gs (gb (rg (sv (EV.mv rfl) rfl (sv (EV.mv rfl) rfl (sv (EV.mv rfl) rfl (sv (EV.mv rfl) rfl ?_))))))))
   revert H; refine ggI ?_; intro g5 H
   refine sv (EV.ix 1 rfl rfl rfl g5 c2 rfl) rfl (sv (EV.le (v := .agg #[.int .i64 ((rd_T70 l1 x2_8).f0), .int .i64 ((rd_T70 l1 x2_8).f1), .int .i64 ((rd_T70 l1 x2_8).f2)]) x2_8 0 (some 3) 1 z70 rfl rfl rfl g5 c2 rfl rfl rfl) rfl (sv (EV.mv rfl) rfl ?_))
   revert H; refine bdI ?_; rintro t6 A6 H
   refine so rfl (op_call (spec_l7One.ok n0 x2_0 ((rd_T70 l1 x2_8).f0) ((rd_T70 l1 x2_8).f1) ((rd_T70 l1 x2_8).f2) l2 Al2 cl2 _ A6) [⟨2, 0, 0, false⟩] 2 rfl rfl rfl rfl rfl ?_)
   rintro _ _ _ ⟨At6, ct6, rfl, rfl, rfl⟩
   revert H; refine ggI ?_; intro g7 H
   exact so rfl (op_app (k := k92) (s := 7) (by_ := 56) 0 3 rfl rfl rfl rfl (ap2 g7 dq) (ap2n g7 dq) (.inl rfl) true (fun _ => .inl rfl) rfl rfl fun A28_8 c28_8 => (nmE (en := [.sl 0 k70 Al1 cl1 l1 0 false, .sl 0 k70 Al2 cl2 l2 0 false, .sl 2 k92 At6 ct6 t6 3 true, .sl 2 k92 A28_8 c28_8 (x2_7 ++ t6) 1 true]) (by kernel_rfl) (sv (EV.as rfl) rfl (re (pr [0, 1, 2, 7, 8, 15, 16] [] [0, 1, 3] rfl rfl rfl rfl (ge (rg (sv (EV.mv rfl) rfl (sv (EV.add rfl rfl) rfl (sv (EV.as rfl) rfl (re (wk [0, 1, 2, 7, 8] [] [⟨2, 2, 1, true⟩, ⟨0, 0, 0, false⟩, ⟨1, 0, 0, false⟩] (ih0 _ (by omega) _ ⟨x2_0, x2_7 ++ t6, A28_8, c28_8, wrap64 (x2_8 + 1), H, rfl⟩)))))))))))))
  ·
   obtain rfl := bF c4
   refine gf rfl rfl (gx rfl (gs (rg (sv (EV.mv rfl) rfl (sv (EV.as rfl) rfl (re (pr [6] [] [0] rfl rfl rfl rfl ?_)))))))
   cases H
   exact rt Try.func18 rfl (.tmp rfl .nil) rfl [] [⟨0, 2, 1, true⟩] rfl rfl rfl rfl rfl ⟨_, _, rfl, rfl, rfl⟩
 ·
  refine ts 14 rfl (dF c2) (sk rfl (sk rfl (sv (EV.pf rfl rfl rfl) rfl (re (pr [0, 1, 2, 7, 8, 17] [] [0, 1, 2] rfl rfl rfl rfl (gf rfl rfl (gx rfl (gs (rg (sv (EV.mv rfl) rfl (sv (EV.as rfl) rfl (re (pr [6] [] [0] rfl rfl rfl rfl ?_)))))))))))))
  cases H
  exact rt Try.func18 rfl (.tmp rfl .nil) rfl [] [⟨0, 2, 1, true⟩] rfl rfl rfl rfl rfl ⟨_, _, rfl, rfl, rfl⟩
end Go.Proofs.Ytajjeemkdjfilaa.K
namespace Go.Proofs.Ytajjeemkdjfilaa.K
open Go Go.RowKit
set_option linter.unusedVariables false
set_option linter.unusedSimpArgs false
def laws_most.l0 : Nat → Int → Int → (List Int) → Option (Int)
 | 0, _, _, _ => none
 | k + 1, x2_3, x2_4, l0 => if x2_4 < (l0.length : Int) then (if 0 ≤ x2_4 then (laws_most.l0 k (mx x2_3 (rdOf 0 l0 x2_4)) (wrap64 (x2_4 + 1)) l0) else none) else (some x2_3)
def laws_most.f (k : Nat) (l0 : List Int) : Option (Int) := laws_most.l0 k 0 0 l0
set_option maxHeartbeats 4000000 in
set_option maxRecDepth 100000 in
theorem laws_most.ok (k : Nat) (l0 : List Int) (Al0 : Option Addr) (cl0 : Nat) (r0 : Int) (H : laws_most.f k l0 = some r0) : Fn Try.prog 19 [.slice Al0 l0.length cl0] [] [.sl 0 (.int .i64) Al0 cl0 l0 0 false] (fun v bx en => v = .int .i64 r0 ∧ bx = [] ∧ en = []) := by
 refine fn_ 18 Try.func19 rfl rfl rfl (fun base T w0 => ?_)
 rw [laws_most.f] at H
 refine gs (rg (sv (EV.as rfl) rfl (re (gs (rg (sv (EV.as rfl) rfl (re (gs (gs (rg (sv (EV.as rfl) rfl (re (gb ?_)))))))))))))
 refine lo (fun kk S => ∃ (x2_3 : Int) (x2_4 : Int), laws_most.l0 kk x2_3 x2_4 l0 = some r0 ∧ S = ⟨[(0, .slice Al0 l0.length cl0), (3, .int .i64 x2_3), (4, .int .i64 x2_4)], [], [.sl 0 (.int .i64) Al0 cl0 l0 0 false]⟩) (fun S hS => ?_) (fun n0 ih0 S hS => ?_) ⟨0, 0, H, rfl⟩ (fun h => wk [0, 3, 4] [] [⟨0, 0, 0, false⟩] h)
 · clear H; obtain ⟨_, _, H, _⟩ := hS; rw [laws_most.l0] at H; cases H
 clear H
 obtain ⟨x2_3, x2_4, H, rfl⟩ := hS
 rw [laws_most.l0] at H
 refine gs (gs (rg (sv (EV.mv rfl) rfl (sv (EV.mv rfl) rfl (sv (EV.ln rfl) rfl (sv (EV.lss rfl rfl) rfl (re ?_)))))))
 revert H; refine ifsI ?_ ?_ <;> intro c1 H
 ·
  refine gt rfl (dT c1) (gk (gs (gb (rg (sv (EV.mv rfl) rfl (sv (EV.mv rfl) rfl (sv (EV.mv rfl) rfl ?_)))))))
  revert H; refine ggI ?_; intro g2 H
  exact sv (EV.ix 0 rfl rfl rfl g2 c1 rfl) rfl (sv (EV.le (v := .int .i64 (rdOf 0 l0 x2_4)) x2_4 0 none 0 0 rfl rfl rfl g2 c1 rfl rfl rfl) rfl (sv (EV.mx rfl rfl) rfl (sv (EV.as rfl) rfl (re (pr [0, 3, 4] [] [0] rfl rfl rfl rfl (ge (rg (sv (EV.mv rfl) rfl (sv (EV.add rfl rfl) rfl (sv (EV.as rfl) rfl (re (wk [0, 3, 4] [] [⟨0, 0, 0, false⟩] (ih0 _ (by omega) _ ⟨mx x2_3 (rdOf 0 l0 x2_4), wrap64 (x2_4 + 1), H, rfl⟩)))))))))))))
 ·
  refine gf rfl (dF c1) (gx rfl (gs (rg (sv (EV.mv rfl) rfl (sv (EV.as rfl) rfl (re (pr [2] [] [] rfl rfl rfl rfl ?_)))))))
  cases H
  exact rt Try.func19 rfl (.tmp rfl .nil) rfl [] [] rfl rfl rfl rfl rfl ⟨rfl, rfl, rfl⟩
end Go.Proofs.Ytajjeemkdjfilaa.K
namespace Go.Proofs.Ytajjeemkdjfilaa.K
open Go Go.RowKit
set_option linter.unusedVariables false
set_option linter.unusedSimpArgs false
def laws_big.f (l0 : List Int) : Option (Bool) := some (decide ((l0.length : Int) > 1048576))
set_option maxHeartbeats 4000000 in
set_option maxRecDepth 100000 in
theorem laws_big.ok (l0 : List Int) (Al0 : Option Addr) (cl0 : Nat) (r0 : Bool) (H : laws_big.f l0 = some r0) : Fn Try.prog 9 [.slice Al0 l0.length cl0] [] [.sl 0 (.int .u8) Al0 cl0 l0 0 false] (fun v bx en => v = .bool r0 ∧ bx = [] ∧ en = []) := by
 refine fn_ 6 Try.func9 rfl rfl rfl (fun base T w0 => ?_)
 rw [laws_big.f] at H
 refine gs (rg (sv (EV.as rfl) rfl (re (gs (rg (sv (EV.mv rfl) rfl (sv (EV.ln rfl) rfl (sv (EV.gtr rfl rfl) rfl (sv (EV.as rfl) rfl (re ?_))))))))))
 cases H
 exact rt Try.func9 rfl (.tmp rfl .nil) rfl [] [] rfl rfl rfl rfl rfl ⟨rfl, rfl, rfl⟩
end Go.Proofs.Ytajjeemkdjfilaa.K
namespace Go.Proofs.Ytajjeemkdjfilaa.K
open Go Go.RowKit
set_option linter.unusedVariables false
set_option linter.unusedSimpArgs false
def laws_FnSkewedJoin.l0 : Nat → Int → (List S70) → (List Int) → (List S70) → Int → Option (Bool)
 | 0, _, _, _, _, _ => none
 | k + 1, x2_3, x2_4, x2_6, x2_7, x2_8 => if x2_8 < (x2_7.length : Int) then (if 0 ≤ x2_8 then ((some (x2_7.set x2_8.toNat (⟨3, (rd_T70 x2_7 x2_8).f1, (rd_T70 x2_7 x2_8).f2⟩ : S70))).bind fun s17 => (laws_FnSkewedJoin.l0 k x2_3 x2_4 x2_6 s17 (wrap64 (x2_8 + 1)))) else none) else ((impl_RunJoin.f k x2_3 x2_4 x2_7 x2_6).bind fun bt18 => (if bt18.2.2.2.2 = true then (if bt18.2.2.2.1 = 0 then (if bt18.2.1 ≤ (wrap64 ((x2_7.length : Int) + 1)) then ((spec_ReferenceJoin.f k x2_3 x2_4 x2_7).bind fun t22 => ((spec_EqualPairBags.f k bt18.1 t22).bind fun t23 => (if t23 = true then ((laws_most.f k x2_6).bind fun t25 => (some (decide (bt18.2.2.1 ≤ t25)))) else (some false)))) else (some false)) else (some false)) else (some false)))
def laws_FnSkewedJoin.f (k : Nat) (l0 : List Int) : Option (Bool) := (laws_big.f l0).bind fun t1 => (if t1 = true then (some true) else ((spec_DrawRunJoin.f k l0).bind fun bt3 => ((spec_AreValidRows.f k bt3.2.1).bind fun t4 => (if t4 = true then ((spec_AreValidRows.f k bt3.2.2.1).bind fun t6 => (if t6 = true then ((spec_IsValidJoinKind.f bt3.1).bind fun t8 => (if t8 = true then ((laws_grantsOk.f k bt3.2.2.2).bind fun t10 => (if t10 = true then (if bt3.2.2.1.length ≤ 5864062014805 then (laws_FnSkewedJoin.l0 k bt3.1 bt3.2.1 bt3.2.2.2 bt3.2.2.1 0) else none) else (some true))) else (some true))) else (some true))) else (some true)))))
set_option maxHeartbeats 4000000 in
set_option maxRecDepth 100000 in
theorem laws_FnSkewedJoin.ok (k : Nat) (l0 : List Int) (Al0 : Option Addr) (cl0 : Nat) (r0 : Bool) (H : laws_FnSkewedJoin.f k l0 = some r0) : Fn Try.prog 7 [.slice Al0 l0.length cl0] [] [.sl 0 (.int .u8) Al0 cl0 l0 0 false] (fun v bx en => v = .bool r0 ∧ bx = [] ∧ en = []) := by
 refine fn_ 89 Try.func7 rfl rfl rfl (fun base T w0 => ?_)
 rw [laws_FnSkewedJoin.f] at H
 refine gs (rg (sv (EV.as rfl) rfl (re (gs (gs (rg (sv (EV.mv rfl) rfl ?_)))))))
 revert H; refine bdI ?_; rintro t1 A1 H
 refine so rfl (op_call (laws_big.ok l0 Al0 cl0 _ A1) [⟨0, 0, 0, false⟩] 1 rfl rfl rfl rfl rfl ?_)
 rintro _ _ _ ⟨rfl, rfl, rfl⟩
 refine re ?_
 revert H; refine ifsI ?_ ?_ <;> intro c2 H
 ·
  subst c2
  refine gt rfl rfl (gs (rg (sv (EV.as rfl) rfl (re ?_))))
  cases H
  exact rt Try.func7 rfl (.tmp rfl .nil) rfl [] [] rfl rfl rfl rfl rfl ⟨rfl, rfl, rfl⟩
 ·
  obtain rfl := bF c2
  refine gf rfl rfl (gk (gs (rg (sv (EV.mv rfl) rfl ?_))))
  revert H; refine bdI ?_; rintro ⟨t3_0, t3_1, t3_2, t3_3⟩ A3 H
  refine so rfl (op_call (spec_DrawRunJoin.ok k l0 Al0 cl0 _ _ _ _ A3) [⟨0, 0, 0, false⟩] 1 rfl rfl rfl rfl rfl ?_)
  rintro _ _ _ ⟨At3_1, ct3_1, At3_2, ct3_2, At3_3, ct3_3, rfl, rfl, rfl⟩
  refine sv (EV.mv rfl) rfl (sv (EV.ex rfl rfl) rfl (sv (EV.ex rfl rfl) rfl (sv (EV.ex rfl rfl) rfl (sv (EV.ex rfl rfl) rfl (sv (EV.as rfl) rfl (sv (EV.as rfl) rfl (sv (EV.as rfl) rfl (sv (EV.as rfl) rfl (re (pr [3, 4, 5, 6] [] [1, 2, 3] rfl rfl rfl rfl (gs (gs (rg (sv (EV.mv rfl) rfl ?_))))))))))))))
  revert H; refine bdI ?_; rintro t4 A4 H
  refine so rfl (op_call (spec_AreValidRows.ok k t3_1 At3_1 ct3_1 _ A4) [⟨0, 0, 0, false⟩] 5 rfl rfl rfl rfl rfl ?_)
  rintro _ _ _ ⟨rfl, rfl, rfl⟩
  refine sv (EV.nt rfl) rfl (sv (EV.mv rfl) rfl ?_)
  revert H; refine ifsI ?_ ?_ <;> intro c5 H
  ·
   subst c5
   refine ts 23 rfl rfl (sv (EV.mv rfl) rfl ?_)
   revert H; refine bdI ?_; rintro t6 A6 H
   refine so rfl (op_call (spec_AreValidRows.ok k t3_2 At3_2 ct3_2 _ A6) [⟨1, 0, 0, false⟩] 5 rfl rfl rfl rfl rfl ?_)
   rintro _ _ _ ⟨rfl, rfl, rfl⟩
   refine sv (EV.nt rfl) rfl (sv (EV.pf rfl rfl rfl) rfl (sv (EV.mv rfl) rfl ?_))
   revert H; refine ifsI ?_ ?_ <;> intro c7 H
   ·
    subst c7
    refine ts 28 rfl rfl (sv (EV.mv rfl) rfl ?_)
    revert H; refine bdI ?_; rintro t8 A8 H
    refine so rfl (op_call (spec_IsValidJoinKind.ok t3_0 _ A8) [] 5 rfl rfl rfl rfl rfl ?_)
    rintro _ _ _ ⟨rfl, rfl, rfl⟩
    refine sv (EV.nt rfl) rfl (sv (EV.pf rfl rfl rfl) rfl (sv (EV.mv rfl) rfl ?_))
    revert H; refine ifsI ?_ ?_ <;> intro c9 H
    ·
     subst c9
     refine ts 33 rfl rfl (sv (EV.mv rfl) rfl ?_)
     revert H; refine bdI ?_; rintro t10 A10 H
     refine so rfl (op_call (laws_grantsOk.ok k t3_3 At3_3 ct3_3 _ A10) [⟨2, 0, 0, false⟩] 5 rfl rfl rfl rfl rfl ?_)
     rintro _ _ _ ⟨rfl, rfl, rfl⟩
     refine sv (EV.nt rfl) rfl (sv (EV.pf rfl rfl rfl) rfl (re (pr [3, 4, 5, 6, 37] [] [0, 1, 2] rfl rfl rfl rfl ?_)))
     revert H; refine ifsI ?_ ?_ <;> intro c11 H
     ·
      subst c11
      refine gf rfl rfl (gk (gs (rg (so rfl (op_lit (s := 3) (by_ := 24) k70 ([] : List S70) [] [] 5 [] rfl rfl rfl rfl rfl rfl rfl rfl rfl rfl rfl rfl rfl dq rfl fun A38_12 c38_12 => (sv (EV.mv rfl) rfl ?_))))))
      revert H; refine ggI ?_; intro g13 H
      refine so rfl (op_app (k := k70) (s := 3) (by_ := 24) 3 1 rfl rfl rfl rfl (ap0 g13 dq) (ap0n g13 dq) (.inl rfl) true (fun _ => .inl rfl) rfl rfl fun A40_14 c40_14 => (nmE (en := [.sl 2 k70 At3_1 ct3_1 t3_1 2 true, .sl 2 k70 At3_2 ct3_2 t3_2 3 true, .sl 2 (.int .i64) At3_3 ct3_3 t3_3 4 true, .sl 2 k70 A40_14 c40_14 t3_2 5 true]) (by kernel_rfl) (sv (EV.as rfl) rfl (re (gs (gs (rg (sv (EV.as rfl) rfl (re (gb ?_))))))))))
      refine lo (fun kk S => ∃ (x2_3 : Int) (x2_4 : List S70) (Ax2_4 : Option Addr) (cx2_4 : Nat) (x2_6 : List Int) (Ax2_6 : Option Addr) (cx2_6 : Nat) (x2_7 : List S70) (Ax2_7 : Option Addr) (cx2_7 : Nat) (x2_8 : Int), laws_FnSkewedJoin.l0 kk x2_3 x2_4 x2_6 x2_7 x2_8 = some r0 ∧ S = ⟨[(3, .int .i64 x2_3), (4, .slice Ax2_4 x2_4.length cx2_4), (6, .slice Ax2_6 x2_6.length cx2_6), (7, .slice Ax2_7 x2_7.length cx2_7), (8, .int .i64 x2_8)], [], [.sl 2 k70 Ax2_4 cx2_4 x2_4 1 true, .sl 2 (.int .i64) Ax2_6 cx2_6 x2_6 2 true, .sl 2 k70 Ax2_7 cx2_7 x2_7 3 true]⟩) (fun S hS => ?_) (fun n0 ih0 S hS => ?_) ⟨t3_0, t3_1, At3_1, ct3_1, t3_3, At3_3, ct3_3, t3_2, A40_14, c40_14, 0, H, rfl⟩ (fun h => wk [3, 4, 6, 7, 8] [] [⟨0, 2, 1, true⟩, ⟨2, 2, 2, true⟩, ⟨3, 2, 3, true⟩] h)
      · clear H; obtain ⟨_, _, _, _, _, _, _, _, _, _, _, H, _⟩ := hS; rw [laws_FnSkewedJoin.l0] at H; cases H
      clear H
      obtain ⟨x2_3, x2_4, Ax2_4, cx2_4, x2_6, Ax2_6, cx2_6, x2_7, Ax2_7, cx2_7, x2_8, H, rfl⟩ := hS
      rw [laws_FnSkewedJoin.l0] at H
      refine gs (gs (rg (sv (EV.mv rfl) rfl (sv (EV.mv rfl) rfl (sv (EV.ln rfl) rfl (sv (EV.lss rfl rfl) rfl (re ?_)))))))
      revert H; refine ifsI ?_ ?_ <;> intro c15 H
      ·
       refine gt rfl (dT c15) (gk (gs (gb (rg (sv (EV.mv rfl) rfl (sv (EV.mv rfl) rfl ?_))))))
       revert H; refine ggI ?_; intro g16 H
       refine sv (EV.ix 2 rfl rfl rfl g16 c15 rfl) rfl (sv (EV.fa 0 rfl) rfl ?_)
       revert H; refine bdI ?_; intro s17 A17 H; have q17 := stl (Option.some.inj A17)
       exact so rfl (op_stg x2_8 0 2 z70 (⟨3, (rd_T70 x2_7 x2_8).f1, (rd_T70 x2_7 x2_8).f2⟩ : S70) (Option.some.inj A17) rfl rfl rfl rfl g16 c15 rfl rfl rfl rfl dq rfl (rlT 7 (v' := .slice Ax2_7 s17.length cx2_7) rfl (slq _ _ q17) (rlT 42 (v' := .slice Ax2_7 s17.length cx2_7) rfl (slq _ _ q17) (rlT 47 (v' := .slice Ax2_7 s17.length cx2_7) rfl (slq _ _ q17) (nmE (en := [.sl 2 k70 Ax2_4 cx2_4 x2_4 1 true, .sl 2 (.int .i64) Ax2_6 cx2_6 x2_6 2 true, .sl 2 k70 Ax2_7 cx2_7 s17 3 true]) (by kernel_rfl) (re (pr [3, 4, 6, 7, 8] [] [0, 1, 2] rfl rfl rfl rfl (ge (rg (sv (EV.mv rfl) rfl (sv (EV.add rfl rfl) rfl (sv (EV.as rfl) rfl (re (wk [3, 4, 6, 7, 8] [] [⟨0, 2, 1, true⟩, ⟨1, 2, 2, true⟩, ⟨2, 2, 3, true⟩] (ih0 _ (by omega) _ ⟨x2_3, x2_4, Ax2_4, cx2_4, x2_6, Ax2_6, cx2_6, s17, Ax2_7, cx2_7, wrap64 (x2_8 + 1), H, rfl⟩)))))))))))))))
      ·
       refine gf rfl (dF c15) (gx rfl (gs (rg (sv (EV.mv rfl) rfl (sv (EV.mv rfl) rfl (sv (EV.mv rfl) rfl (sv (EV.mv rfl) rfl ?_)))))))
       revert H; refine bdI ?_; rintro ⟨t18_0, t18_1, t18_2, t18_3, t18_4⟩ A18 H
       refine so rfl (op_call (impl_RunJoin.ok n0 x2_3 x2_4 Ax2_4 cx2_4 x2_7 Ax2_7 cx2_7 x2_6 Ax2_6 cx2_6 _ _ _ _ _ A18) [⟨0, 0, 0, false⟩, ⟨2, 0, 0, false⟩, ⟨1, 0, 0, false⟩] 4 rfl rfl rfl rfl rfl ?_)
       rintro _ _ _ ⟨At18_0, ct18_0, rfl, rfl, rfl⟩
       refine sv (EV.mv rfl) rfl (sv (EV.ex rfl rfl) rfl (sv (EV.ex rfl rfl) rfl (so rfl (op_alloc (cs := [.slice none 0 0, .int .i64 0, .int .i64 0, .int .i64 0]) (by kernel_rfl) rfl fun b9 => (so rfl (op_st (cs' := [.slice At18_0 t18_0.length ct18_0, .int .i64 t18_1, .int .i64 t18_2, .int .i64 t18_3]) 0 rfl rfl rfl rfl rfl rfl (sv (EV.as rfl) rfl (re (pr [3, 4, 6, 7, 9, 10] [0] [0, 1, 2, 3] rfl rfl rfl rfl (gs (dr [0] [0, 1, 2, 3] [] 31 rfl rfl rfl rfl (xv 0 [0] [0, 1, 2, 3] rfl (EV.mv rfl) rfl rfl rfl rfl (xv 1 [0] [0, 1, 2, 3] rfl (EV.mv rfl) rfl rfl rfl rfl ?_)))))))))))))
       revert H; refine ifsI ?_ ?_ <;> intro c19 H
       ·
        subst c19
        refine ts 60 rfl rfl (xv 2 [0] [0, 1, 2, 3] rfl (EV.fa 3 rfl) rfl rfl rfl rfl (xv 3 [0] [0, 1, 2, 3] rfl (EV.ld 0 none rfl rfl rfl) rfl rfl rfl rfl (xv 4 [0] [0, 1, 2, 3] rfl (EV.eql rfl rfl) rfl rfl rfl rfl (xv 5 [0] [0, 1, 2, 3] rfl (EV.pt rfl rfl rfl) rfl rfl rfl rfl (xv 6 [0] [0, 1, 2, 3] rfl (EV.mv rfl) rfl rfl rfl rfl ?_)))))
        revert H; refine ifsI ?_ ?_ <;> intro c20 H
        ·
         refine ts 65 rfl (dT c20) (xv 7 [0] [0, 1, 2, 3] rfl (EV.fa 1 rfl) rfl rfl rfl rfl (xv 8 [0] [0, 1, 2, 3] rfl (EV.ld 0 none rfl rfl rfl) rfl rfl rfl rfl (xv 9 [0] [0, 1, 2, 3] rfl (EV.mv rfl) rfl rfl rfl rfl (xv 10 [0] [0, 1, 2, 3] rfl (EV.ln rfl) rfl rfl rfl rfl (xv 11 [0] [0, 1, 2, 3] rfl (EV.add rfl rfl) rfl rfl rfl rfl (xv 12 [0] [0, 1, 2, 3] rfl (EV.leq rfl rfl) rfl rfl rfl rfl (xv 13 [0] [0, 1, 2, 3] rfl (EV.pt rfl rfl rfl) rfl rfl rfl rfl (xv 14 [0] [0, 1, 2, 3] rfl (EV.mv rfl) rfl rfl rfl rfl ?_))))))))
         revert H; refine ifsI ?_ ?_ <;> intro c21 H
         ·
          refine ts 73 rfl (dT c21) (xv 15 [0] [0, 1, 2, 3] rfl (EV.fa 0 rfl) rfl rfl rfl rfl (xv 16 [0] [0, 1, 2, 3] rfl (EV.ld 0 none rfl rfl rfl) rfl rfl rfl rfl (xv 17 [0] [0, 1, 2, 3] rfl (EV.mv rfl) rfl rfl rfl rfl (xv 18 [0] [0, 1, 2, 3] rfl (EV.mv rfl) rfl rfl rfl rfl (xv 19 [0] [0, 1, 2, 3] rfl (EV.mv rfl) rfl rfl rfl rfl (one1 20 rfl rfl ?_))))))
          revert H; refine bdI ?_; rintro t22 A22 H
          refine op_call (spec_ReferenceJoin.ok n0 x2_3 x2_4 Ax2_4 cx2_4 x2_7 Ax2_7 cx2_7 _ A22) [⟨0, 0, 0, false⟩, ⟨2, 0, 0, false⟩] 6 rfl rfl rfl rfl rfl ?_
          rintro _ _ _ ⟨At22, ct22, rfl, rfl, rfl⟩
          refine xs [0] [0, 1, 2, 3] rfl rfl rfl (one1 21 rfl rfl ?_)
          revert H; refine bdI ?_; rintro t23 A23 H
          refine op_call (spec_EqualPairBags.ok n0 t18_0 At18_0 ct18_0 t22 At22 ct22 _ A23) [⟨3, 0, 0, false⟩, ⟨4, 0, 0, false⟩] 8 rfl rfl rfl rfl rfl ?_
          rintro _ _ _ ⟨rfl, rfl, rfl⟩
          refine xs [0] [0, 1, 2, 3] rfl rfl rfl (xv 22 [0] [0, 1, 2, 3] rfl (EV.pt rfl rfl rfl) rfl rfl rfl rfl (xv 23 [0] [0, 1, 2, 3] rfl (EV.mv rfl) rfl rfl rfl rfl ?_))
          revert H; refine ifsI ?_ ?_ <;> intro c24 H
          ·
           subst c24
           refine ts 82 rfl rfl (xv 24 [0] [0, 1, 2, 3] rfl (EV.fa 2 rfl) rfl rfl rfl rfl (xv 25 [0] [0, 1, 2, 3] rfl (EV.ld 0 none rfl rfl rfl) rfl rfl rfl rfl (xv 26 [0] [0, 1, 2, 3] rfl (EV.mv rfl) rfl rfl rfl rfl (one1 27 rfl rfl ?_))))
           revert H; refine bdI ?_; rintro t25 A25 H
           refine op_call (laws_most.ok n0 x2_6 Ax2_6 cx2_6 _ A25) [⟨1, 0, 0, false⟩] 8 rfl rfl rfl rfl rfl ?_
           rintro _ _ _ ⟨rfl, rfl, rfl⟩
           refine xs [0] [0, 1, 2, 3] rfl rfl rfl (xv 28 [0] [0, 1, 2, 3] rfl (EV.leq rfl rfl) rfl rfl rfl rfl (xv 29 [0] [0, 1, 2, 3] rfl (EV.pt rfl rfl rfl) rfl rfl rfl rfl (xv 30 [0] [0, 1, 2, 3] rfl (EV.as rfl) rfl rfl rfl rfl (xd (pr [2] [] [] rfl rfl rfl rfl ?_)))))
           cases H
           exact rt Try.func7 rfl (.tmp rfl .nil) rfl [] [] rfl rfl rfl rfl rfl ⟨rfl, rfl, rfl⟩
          ·
           obtain rfl := bF c24
           refine ts 82 rfl rfl (xk 24 [0] [0, 1, 2, 3] rfl rfl rfl rfl rfl (xk 25 [0] [0, 1, 2, 3] rfl rfl rfl rfl rfl (xk 26 [0] [0, 1, 2, 3] rfl rfl rfl rfl rfl (xk 27 [0] [0, 1, 2, 3] rfl rfl rfl rfl rfl (xk 28 [0] [0, 1, 2, 3] rfl rfl rfl rfl rfl (xv 29 [0] [0, 1, 2, 3] rfl (EV.pf rfl rfl rfl) rfl rfl rfl rfl (xv 30 [0] [0, 1, 2, 3] rfl (EV.as rfl) rfl rfl rfl rfl (xd (pr [2] [] [] rfl rfl rfl rfl ?_)))))))))
           cases H
           exact rt Try.func7 rfl (.tmp rfl .nil) rfl [] [] rfl rfl rfl rfl rfl ⟨rfl, rfl, rfl⟩
         ·
          refine ts 73 rfl (dF c21) (xk 15 [0] [0, 1, 2, 3] rfl rfl rfl rfl rfl (xk 16 [0] [0, 1, 2, 3] rfl rfl rfl rfl rfl (xk 17 [0] [0, 1, 2, 3] rfl rfl rfl rfl rfl (xk 18 [0] [0, 1, 2, 3] rfl rfl rfl rfl rfl (xk 19 [0] [0, 1, 2, 3] rfl rfl rfl rfl rfl (xk 20 [0] [0, 1, 2, 3] rfl rfl rfl rfl rfl (xk 21 [0] [0, 1, 2, 3] rfl rfl rfl rfl rfl (xv 22 [0] [0, 1, 2, 3] rfl (EV.pf rfl rfl rfl) rfl rfl rfl rfl (xv 23 [0] [0, 1, 2, 3] rfl (EV.mv rfl) rfl rfl rfl rfl (xk 24 [0] [0, 1, 2, 3] rfl rfl rfl rfl rfl (xk 25 [0] [0, 1, 2, 3] rfl rfl rfl rfl rfl (xk 26 [0] [0, 1, 2, 3] rfl rfl rfl rfl rfl (xk 27 [0] [0, 1, 2, 3] rfl rfl rfl rfl rfl (xk 28 [0] [0, 1, 2, 3] rfl rfl rfl rfl rfl (xv 29 [0] [0, 1, 2, 3] rfl (EV.pf rfl rfl rfl) rfl rfl rfl rfl (xv 30 [0] [0, 1, 2, 3] rfl (EV.as rfl) rfl rfl rfl rfl (xd (pr [2] [] [] rfl rfl rfl rfl ?_))))))))))))))))))
          cases H
          exact rt Try.func7 rfl (.tmp rfl .nil) rfl [] [] rfl rfl rfl rfl rfl ⟨rfl, rfl, rfl⟩
        ·
         refine ts 65 rfl (dF c20) (xk 7 [0] [0, 1, 2, 3] rfl rfl rfl rfl rfl (xk 8 [0] [0, 1, 2, 3] rfl rfl rfl rfl rfl (xk 9 [0] [0, 1, 2, 3] rfl rfl rfl rfl rfl (xk 10 [0] [0, 1, 2, 3] rfl rfl rfl rfl rfl (xk 11 [0] [0, 1, 2, 3] rfl rfl rfl rfl rfl (xk 12 [0] [0, 1, 2, 3] rfl rfl rfl rfl rfl (xv 13 [0] [0, 1, 2, 3] rfl (EV.pf rfl rfl rfl) rfl rfl rfl rfl (xv 14 [0] [0, 1, 2, 3] rfl (EV.mv rfl) rfl rfl rfl rfl (xk 15 [0] [0, 1, 2, 3] rfl rfl rfl rfl rfl (xk 16 [0] [0, 1, 2, 3] rfl rfl rfl rfl rfl (xk 17 [0] [0, 1, 2, 3] rfl rfl rfl rfl rfl (xk 18 [0] [0, 1, 2, 3] rfl rfl rfl rfl rfl (xk 19 [0] [0, 1, 2, 3] rfl rfl rfl rfl rfl (xk 20 [0] [0, 1, 2, 3] rfl rfl rfl rfl rfl (xk 21 [0] [0, 1, 2, 3] rfl rfl rfl rfl rfl (xv 22 [0] [0, 1, 2, 3] rfl (EV.pf rfl rfl rfl) rfl rfl rfl rfl (xv 23 [0] [0, 1, 2, 3] rfl (EV.mv rfl) rfl rfl rfl rfl (xk 24 [0] [0, 1, 2, 3] rfl rfl rfl rfl rfl (xk 25 [0] [0, 1, 2, 3] rfl rfl rfl rfl rfl (xk 26 [0] [0, 1, 2, 3] rfl rfl rfl rfl rfl (xk 27 [0] [0, 1, 2, 3] rfl rfl rfl rfl rfl (xk 28 [0] [0, 1, 2, 3] rfl rfl rfl rfl rfl (xv 29 [0] [0, 1, 2, 3] rfl (EV.pf rfl rfl rfl) rfl rfl rfl rfl (xv 30 [0] [0, 1, 2, 3] rfl (EV.as rfl) rfl rfl rfl rfl (xd (pr [2] [] [] rfl rfl rfl rfl ?_))))))))))))))))))))))))))
         cases H
         exact rt Try.func7 rfl (.tmp rfl .nil) rfl [] [] rfl rfl rfl rfl rfl ⟨rfl, rfl, rfl⟩
       ·
        obtain rfl := bF c19
        refine ts 60 rfl rfl (xk 2 [0] [0, 1, 2, 3] rfl rfl rfl rfl rfl (xk 3 [0] [0, 1, 2, 3] rfl rfl rfl rfl rfl (xk 4 [0] [0, 1, 2, 3] rfl rfl rfl rfl rfl (xv 5 [0] [0, 1, 2, 3] rfl (EV.pf rfl rfl rfl) rfl rfl rfl rfl (xv 6 [0] [0, 1, 2, 3] rfl (EV.mv rfl) rfl rfl rfl rfl (xk 7 [0] [0, 1, 2, 3] rfl rfl rfl rfl rfl (xk 8 [0] [0, 1, 2, 3] rfl rfl rfl rfl rfl (xk 9 [0] [0, 1, 2, 3] rfl rfl rfl rfl rfl (xk 10 [0] [0, 1, 2, 3] rfl rfl rfl rfl rfl (xk 11 [0] [0, 1, 2, 3] rfl rfl rfl rfl rfl (xk 12 [0] [0, 1, 2, 3] rfl rfl rfl rfl rfl (xv 13 [0] [0, 1, 2, 3] rfl (EV.pf rfl rfl rfl) rfl rfl rfl rfl (xv 14 [0] [0, 1, 2, 3] rfl (EV.mv rfl) rfl rfl rfl rfl (xk 15 [0] [0, 1, 2, 3] rfl rfl rfl rfl rfl (xk 16 [0] [0, 1, 2, 3] rfl rfl rfl rfl rfl (xk 17 [0] [0, 1, 2, 3] rfl rfl rfl rfl rfl (xk 18 [0] [0, 1, 2, 3] rfl rfl rfl rfl rfl (xk 19 [0] [0, 1, 2, 3] rfl rfl rfl rfl rfl (xk 20 [0] [0, 1, 2, 3] rfl rfl rfl rfl rfl (xk 21 [0] [0, 1, 2, 3] rfl rfl rfl rfl rfl (xv 22 [0] [0, 1, 2, 3] rfl (EV.pf rfl rfl rfl) rfl rfl rfl rfl (xv 23 [0] [0, 1, 2, 3] rfl (EV.mv rfl) rfl rfl rfl rfl (xk 24 [0] [0, 1, 2, 3] rfl rfl rfl rfl rfl (xk 25 [0] [0, 1, 2, 3] rfl rfl rfl rfl rfl (xk 26 [0] [0, 1, 2, 3] rfl rfl rfl rfl rfl (xk 27 [0] [0, 1, 2, 3] rfl rfl rfl rfl rfl (xk 28 [0] [0, 1, 2, 3] rfl rfl rfl rfl rfl (xv 29 [0] [0, 1, 2, 3] rfl (EV.pf rfl rfl rfl) rfl rfl rfl rfl (xv 30 [0] [0, 1, 2, 3] rfl (EV.as rfl) rfl rfl rfl rfl ?_)))))))))))))))))))))))))))))
        refine xd (pr [2] [] [] rfl rfl rfl rfl ?_)
        cases H
        exact rt Try.func7 rfl (.tmp rfl .nil) rfl [] [] rfl rfl rfl rfl rfl ⟨rfl, rfl, rfl⟩
     ·
      obtain rfl := bF c11
      refine gt rfl rfl (gs (rg (sv (EV.as rfl) rfl (re ?_))))
      cases H
      exact rt Try.func7 rfl (.tmp rfl .nil) rfl [] [] rfl rfl rfl rfl rfl ⟨rfl, rfl, rfl⟩
    ·
     obtain rfl := bF c9
     refine ts 33 rfl rfl (sk rfl (sk rfl (sk rfl (sv (EV.pt rfl rfl rfl) rfl (re (pr [3, 4, 5, 6, 37] [] [0, 1, 2] rfl rfl rfl rfl (gt rfl rfl (gs (rg (sv (EV.as rfl) rfl (re ?_)))))))))))
     cases H
     exact rt Try.func7 rfl (.tmp rfl .nil) rfl [] [] rfl rfl rfl rfl rfl ⟨rfl, rfl, rfl⟩
   ·
    obtain rfl := bF c7
    refine ts 28 rfl rfl (sk rfl (sk rfl (sk rfl (sv (EV.pt rfl rfl rfl) rfl (sv (EV.mv rfl) rfl (sk rfl (sk rfl (sk rfl (sv (EV.pt rfl rfl rfl) rfl (re (pr [3, 4, 5, 6, 37] [] [0, 1, 2] rfl rfl rfl rfl (gt rfl rfl (gs (rg (sv (EV.as rfl) rfl (re ?_))))))))))))))))
    cases H
    exact rt Try.func7 rfl (.tmp rfl .nil) rfl [] [] rfl rfl rfl rfl rfl ⟨rfl, rfl, rfl⟩
  ·
   obtain rfl := bF c5
   refine ts 23 rfl rfl (sk rfl (sk rfl (sk rfl (sv (EV.pt rfl rfl rfl) rfl (sv (EV.mv rfl) rfl (sk rfl (sk rfl (sk rfl (sv (EV.pt rfl rfl rfl) rfl (sv (EV.mv rfl) rfl (sk rfl (sk rfl (sk rfl (sv (EV.pt rfl rfl rfl) rfl (re (pr [3, 4, 5, 6, 37] [] [0, 1, 2] rfl rfl rfl rfl (gt rfl rfl (gs (rg (sv (EV.as rfl) rfl (re ?_)))))))))))))))))))))
   cases H
   exact rt Try.func7 rfl (.tmp rfl .nil) rfl [] [] rfl rfl rfl rfl rfl ⟨rfl, rfl, rfl⟩
end Go.Proofs.Ytajjeemkdjfilaa.K
