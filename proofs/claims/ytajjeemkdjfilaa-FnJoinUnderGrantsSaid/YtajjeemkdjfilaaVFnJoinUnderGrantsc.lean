/- Walks: what the functions compute. Printed by gen.py; no condition. -/
import Derived.Test.YtajjeemkdjfilaaVFnJoinUnderGrantsb
namespace Go.Proofs.Ytajjeemkdjfilaa.K
open Go Go.RowKit
set_option linter.unusedVariables false
set_option linter.unusedSimpArgs false
def impl_StepJoiner.j0 : Nat → (List S92) → Int → (List S44) → Int → Int → (List S44) → Int → Int → Int → (List S70) → (List S70) → (List Bool) → Int → Option ((List S44) × Int × Int × (List S92) × Int × Bool)
 | 0, _, _, _, _, _, _, _, _, _, _, _, _, _ => none
 | k + 1, x2_11, x2_13, x2_4_0, x2_4_1, x2_4_2, x2_8_0, x2_8_1, x2_8_2, x2_12_0, x2_12_1, x2_12_2, x2_12_3, x2_12_4 => (impl_UnmatchedRows.f k x2_12_0 x2_12_1 x2_12_2 x2_12_3 x2_12_4).bind fun t42 => (if x2_11.length + t42.length ≤ 2513169434916 then (some (x2_8_0, x2_8_1, x2_8_2, x2_11 ++ t42, x2_13, true)) else none)
def impl_StepJoiner.f (k : Nat) (l0_0 : List S44) (a0_1 : Int) (a0_2 : Int) (a1 : Int) : Option ((List S44) × Int × Int × (List S92) × Int × Bool) := (impl_cloneJoiner.f k l0_0 a0_1 a0_2).bind fun bt1 => ((impl_IsValidJoiner.f k l0_0 a0_1 a0_2).bind fun t2 => (if t2 = true then (if (l0_0.length : Int) = 0 then (some (bt1.1, bt1.2.1, bt1.2.2, [], 0, false)) else ((impl_isGrant.f a1).bind fun t5 => (if t5 = true then (if 0 < (bt1.1.length : Int) then ((impl_BuildSide.f k ((rd_T44 bt1.1 0).f0) ((rd_T44 bt1.1 0).f1) ((rd_T44 bt1.1 0).f2) ((rd_T44 bt1.1 0).f3) ((rd_T44 bt1.1 0).f4) a1).bind fun t11 => (if (((rd_T44 bt1.1 0).f1).length : Int) = 0 then (if 1 ≤ (bt1.1.length : Int) then ((impl_UnmatchedRows.f k ((rd_T44 bt1.1 0).f0) ((rd_T44 bt1.1 0).f1) ((rd_T44 bt1.1 0).f2) ((rd_T44 bt1.1 0).f3) ((rd_T44 bt1.1 0).f4)).bind fun t14 => (some (bt1.1.drop (1 : Int).toNat, bt1.2.1, bt1.2.2, t14, 0, true))) else none) else (if (((rd_T44 bt1.1 0).f2).length : Int) = 0 then (if 1 ≤ (bt1.1.length : Int) then ((impl_UnmatchedRows.f k ((rd_T44 bt1.1 0).f0) ((rd_T44 bt1.1 0).f1) ((rd_T44 bt1.1 0).f2) ((rd_T44 bt1.1 0).f3) ((rd_T44 bt1.1 0).f4)).bind fun t17 => (some (bt1.1.drop (1 : Int).toNat, bt1.2.1, bt1.2.2, t17, 0, true))) else none) else (if t11 = 0 then ((impl_NeedsNestedLoop.f k ((rd_T44 bt1.1 0).f0) ((rd_T44 bt1.1 0).f1) ((rd_T44 bt1.1 0).f2) ((rd_T44 bt1.1 0).f3) ((rd_T44 bt1.1 0).f4)).bind fun t19 => (if t19 = true then ((impl_NextChunk.f k ((rd_T44 bt1.1 0).f2) a1).bind fun bt21 => ((impl_JoinChunk.f k ((rd_T44 bt1.1 0).f0) ((rd_T44 bt1.1 0).f1) ((rd_T44 bt1.1 0).f2) ((rd_T44 bt1.1 0).f3) ((rd_T44 bt1.1 0).f4) bt21.1).bind fun bt22 => ((some (bt1.1.set (0 : Int).toNat (⟨bt22.2.1, bt22.2.2.1, bt21.2, bt22.2.2.2.2.1, bt22.2.2.2.2.2⟩ : S44))).bind fun s26 => ((impl_TotalCost.f k bt21.1).bind fun t27 => (some (s26, bt1.2.1, bt1.2.2, bt22.1, t27, true)))))) else ((impl_PartitionTask.f k ((rd_T44 bt1.1 0).f0) ((rd_T44 bt1.1 0).f1) ((rd_T44 bt1.1 0).f2) ((rd_T44 bt1.1 0).f3) ((rd_T44 bt1.1 0).f4)).bind fun bt28 => (if 1 ≤ (bt1.1.length : Int) then (if ([(⟨bt28.1, bt28.2.1, bt28.2.2.1, bt28.2.2.2.1, bt28.2.2.2.2.1⟩ : S44), (⟨bt28.2.2.2.2.2.1, bt28.2.2.2.2.2.2.1, bt28.2.2.2.2.2.2.2.1, bt28.2.2.2.2.2.2.2.2.1, bt28.2.2.2.2.2.2.2.2.2.1⟩ : S44)] : List S44).length + (bt1.1.drop (1 : Int).toNat).length ≤ 1599289640401 then ((impl_TaskCost.f k ((rd_T44 bt1.1 0).f0) ((rd_T44 bt1.1 0).f1) ((rd_T44 bt1.1 0).f2) ((rd_T44 bt1.1 0).f3) ((rd_T44 bt1.1 0).f4)).bind fun t33 => (some (([(⟨bt28.1, bt28.2.1, bt28.2.2.1, bt28.2.2.2.1, bt28.2.2.2.2.1⟩ : S44), (⟨bt28.2.2.2.2.2.1, bt28.2.2.2.2.2.2.1, bt28.2.2.2.2.2.2.2.1, bt28.2.2.2.2.2.2.2.2.1, bt28.2.2.2.2.2.2.2.2.2.1⟩ : S44)] : List S44) ++ (bt1.1.drop (1 : Int).toNat), wrap64 (bt1.2.1 + t33), wrap64 (bt1.2.2 + 1), [], 8, true))) else none) else none)))) else (if 1 ≤ (bt1.1.length : Int) then ((impl_JoinChunk.f k ((rd_T44 bt1.1 0).f0) ((rd_T44 bt1.1 0).f1) ((rd_T44 bt1.1 0).f2) ((rd_T44 bt1.1 0).f3) ((rd_T44 bt1.1 0).f4) ((rd_T44 bt1.1 0).f2)).bind fun bt39 => ((impl_TotalCost.f k ((rd_T44 bt1.1 0).f2)).bind fun t40 => (if t11 = 1 then ((impl_TotalCost.f k ((rd_T44 bt1.1 0).f1)).bind fun t46 => (impl_StepJoiner.j0 k bt39.1 t46 [] 0 0 (bt1.1.drop (1 : Int).toNat) bt1.2.1 bt1.2.2 bt39.2.1 bt39.2.2.1 bt39.2.2.2.1 bt39.2.2.2.2.1 bt39.2.2.2.2.2)) else (impl_StepJoiner.j0 k bt39.1 t40 [] 0 0 (bt1.1.drop (1 : Int).toNat) bt1.2.1 bt1.2.2 bt39.2.1 bt39.2.2.1 bt39.2.2.2.1 bt39.2.2.2.2.1 bt39.2.2.2.2.2)))) else none))))) else none) else (some (bt1.1, bt1.2.1, bt1.2.2, [], 0, false))))) else (some (bt1.1, bt1.2.1, bt1.2.2, [], 0, false))))
set_option maxHeartbeats 4000000 in
set_option maxRecDepth 100000 in
theorem impl_StepJoiner.ok (k : Nat) (l0_0 : List S44) (Al0_0 : Option Addr) (cl0_0 : Nat) (a0_1 : Int) (a0_2 : Int) (a1 : Int) (r0 : List S44) (r1 : Int) (r2 : Int) (r3 : List S92) (r4 : Int) (r5 : Bool) (H : impl_StepJoiner.f k l0_0 a0_1 a0_2 a1 = some (r0, r1, r2, r3, r4, r5)) : Fn Try.prog 54 [.agg #[.slice Al0_0 l0_0.length cl0_0, .int .i64 a0_1, .int .i64 a0_2], .int .i64 a1] [] [.sl 0 k44 Al0_0 cl0_0 l0_0 0 false] (fun v bx en => ∃ A0 c0 A3 c3, v = .tuple #[.agg #[.slice A0 r0.length c0, .int .i64 r1, .int .i64 r2], .slice A3 r3.length c3, .int .i64 r4, .bool r5] ∧ bx = [] ∧ en = [.sl 1 k44 A0 c0 r0 1 true, .sl 2 k92 A3 c3 r3 2 true]) := by
 refine fn_ 142 Try.func54 rfl rfl rfl (fun base T w0 => ?_)
 rw [impl_StepJoiner.f] at H
 refine gs (rg (so rfl (op_box (cs := [.slice Al0_0 l0_0.length cl0_0, .int .i64 a0_1, .int .i64 a0_2]) rfl rfl rfl fun b2 => (so rfl (op_alloc (cs := [.slice none 0 0, .int .i64 0, .int .i64 0]) (by kernel_rfl) rfl fun b4 => (sv (EV.as rfl) rfl (sv (EV.as rfl) rfl (sv (EV.as rfl) rfl (re (gs (rg (sv (EV.ld (v := .agg #[.slice Al0_0 l0_0.length cl0_0, .int .i64 a0_1, .int .i64 a0_2]) 0 (some 3) rfl rfl rfl) rfl ?_))))))))))))
 revert H; refine bdI ?_; rintro ⟨t1_0, t1_1, t1_2⟩ A1 H
 refine so rfl (op_call (impl_cloneJoiner.ok k l0_0 Al0_0 cl0_0 a0_1 a0_2 _ _ _ A1) [⟨0, 0, 0, false⟩] 1 rfl rfl rfl rfl rfl ?_)
 rintro _ _ _ ⟨At1_0, ct1_0, rfl, rfl, rfl⟩
 refine so rfl (op_alloc (cs := [.slice none 0 0, .int .i64 0, .int .i64 0]) (by kernel_rfl) rfl fun b8 => (so rfl (op_st (cs' := [.slice At1_0 t1_0.length ct1_0, .int .i64 t1_1, .int .i64 t1_2]) 2 rfl rfl rfl rfl rfl rfl (re (pr [1, 2, 4, 8] [0, 1, 2] [0, 1] rfl rfl rfl rfl (gs (gs (rg (sv (EV.ld (v := .agg #[.slice Al0_0 l0_0.length cl0_0, .int .i64 a0_1, .int .i64 a0_2]) 0 (some 3) rfl rfl rfl) rfl ?_)))))))))
 revert H; refine bdI ?_; rintro t2 A2 H
 refine so rfl (op_call (impl_IsValidJoiner.ok k l0_0 Al0_0 cl0_0 a0_1 a0_2 _ A2) [⟨0, 0, 0, false⟩] 3 rfl rfl rfl rfl rfl ?_)
 rintro _ _ _ ⟨rfl, rfl, rfl⟩
 refine sv (EV.nt rfl) rfl (sv (EV.mv rfl) rfl ?_)
 revert H; refine ifsI ?_ ?_ <;> intro c3 H
 ·
  subst c3
  refine ts 26 rfl rfl (sv (EV.fa 0 rfl) rfl (sv (EV.ld 0 none rfl rfl rfl) rfl (sv (EV.ln rfl) rfl (sv (EV.eql rfl rfl) rfl (sv (EV.pf rfl rfl rfl) rfl (sv (EV.mv rfl) rfl ?_))))))
  revert H; refine ifsI ?_ ?_ <;> intro c4 H
  ·
   refine ts 32 rfl (dT c4) (sk rfl (sk rfl (sk rfl (sv (EV.pt rfl rfl rfl) rfl (re (pr [1, 4, 8, 36] [1, 2] [1] rfl rfl rfl rfl (gt rfl rfl (gs (rg (sv (EV.ld (v := .agg #[.slice At1_0 t1_0.length ct1_0, .int .i64 t1_1, .int .i64 t1_2]) 1 (some 3) rfl rfl rfl) rfl (so rfl (op_st (cs' := [.slice At1_0 t1_0.length ct1_0, .int .i64 t1_1, .int .i64 t1_2]) 0 rfl rfl rfl rfl rfl rfl (sv (EV.as rfl) rfl (sv (EV.as rfl) rfl (sv (EV.as rfl) rfl (re (nil_ k92 3 dq ?_)))))))))))))))))
   cases H
   exact rt Try.func54 rfl (.cell 0 (some 3) rfl rfl rfl (.tmp rfl (.tmp rfl (.tmp rfl .nil)))) rfl [] [⟨0, 1, 1, true⟩, ⟨1, 2, 2, true⟩] rfl rfl rfl rfl rfl ⟨_, _, _, _, rfl, rfl, rfl⟩
  ·
   refine ts 32 rfl (dF c4) (sv (EV.mv rfl) rfl ?_)
   revert H; refine bdI ?_; rintro t5 A5 H
   refine so rfl (op_call (impl_isGrant.ok a1 _ A5) [] 3 rfl rfl rfl rfl rfl ?_)
   rintro _ _ _ ⟨rfl, rfl, rfl⟩
   refine sv (EV.nt rfl) rfl (sv (EV.pf rfl rfl rfl) rfl (re (pr [1, 4, 8, 36] [1, 2] [1] rfl rfl rfl rfl ?_)))
   revert H; refine ifsI ?_ ?_ <;> intro c6 H
   ·
    subst c6
    refine gf rfl rfl (gk (gs (rg (sv (EV.fa 0 rfl) rfl (sv (EV.ld 1 none rfl rfl rfl) rfl ?_)))))
    revert H; refine ggI ?_; intro g7 H
    refine sv (EV.ix 0 rfl rfl rfl dq g7 rfl) rfl (opn (i := 0) 0 z44 rfl dq g7 fun A_8 c_8 A_9 c_9 A_10 c_10 => (sv (EV.lc (v := .agg #[.int .i64 ((rd_T44 t1_0 0).f0), .slice A_8 ((rd_T44 t1_0 0).f1).length c_8, .slice A_9 ((rd_T44 t1_0 0).f2).length c_9, .slice A_10 ((rd_T44 t1_0 0).f3).length c_10, .int .i64 ((rd_T44 t1_0 0).f4)]) 0 (some 5) 1 rfl rfl rfl rfl) rfl (so rfl (op_alloc (cs := [.int .i64 0, .slice none 0 0, .slice none 0 0, .slice none 0 0, .int .i64 0]) (by kernel_rfl) rfl fun b9 => (so rfl (op_st (cs' := [.int .i64 ((rd_T44 t1_0 0).f0), .slice A_8 ((rd_T44 t1_0 0).f1).length c_8, .slice A_9 ((rd_T44 t1_0 0).f2).length c_9, .slice A_10 ((rd_T44 t1_0 0).f3).length c_10, .int .i64 ((rd_T44 t1_0 0).f4)]) 2 rfl rfl rfl rfl rfl rfl (re (gs (rg (sv (EV.ld (v := .agg #[.int .i64 ((rd_T44 t1_0 0).f0), .slice A_8 ((rd_T44 t1_0 0).f1).length c_8, .slice A_9 ((rd_T44 t1_0 0).f2).length c_9, .slice A_10 ((rd_T44 t1_0 0).f3).length c_10, .int .i64 ((rd_T44 t1_0 0).f4)]) 2 (some 5) rfl rfl rfl) rfl (sv (EV.mv rfl) rfl ?_)))))))))))
    revert H; refine bdI ?_; rintro t11 A11 H
    refine so rfl (op_call (impl_BuildSide.ok k ((rd_T44 t1_0 0).f0) ((rd_T44 t1_0 0).f1) A_8 c_8 ((rd_T44 t1_0 0).f2) A_9 c_9 ((rd_T44 t1_0 0).f3) A_10 c_10 ((rd_T44 t1_0 0).f4) a1 _ A11) [⟨2, 0, 0, false⟩, ⟨3, 0, 0, false⟩, ⟨4, 0, 0, false⟩] 3 rfl rfl rfl rfl rfl ?_)
    rintro _ _ _ ⟨rfl, rfl, rfl⟩
    refine sv (EV.as rfl) rfl (re (pr [1, 4, 8, 9, 10] [0, 1, 2] [0, 1, 2, 3, 4] rfl rfl rfl rfl (gs (gb (gs (rg (sv (EV.fa 1 rfl) rfl (sv (EV.ld 2 none rfl rfl rfl) rfl (sv (EV.ln rfl) rfl (sv (EV.eql rfl rfl) rfl (sv (EV.mv rfl) rfl ?_)))))))))))
    revert H; refine ifsI ?_ ?_ <;> intro c12 H
    ·
     refine ts 50 rfl (dT c12) (sk rfl (sk rfl (sk rfl (sk rfl (sv (EV.pt rfl rfl rfl) rfl (sv (EV.as rfl) rfl (re (pr [1, 4, 8, 9, 10, 45] [0, 1, 2] [0, 1, 2, 3, 4] rfl rfl rfl rfl (gt rfl rfl (gs (rg (sv (EV.fa 0 rfl) rfl (sv (EV.ld 1 none rfl rfl rfl) rfl ?_)))))))))))))
     revert H; refine ggI ?_; intro g13 H
     refine cutp (l' := t1_0.drop (1 : Int).toNat) 1 (t1_0.length : Int) 0 rfl dq g13 (Int.le_refl _) rfl 1 dq (.inl dq) ctl (sv (EV.ct 1 (t1_0.length : Int) 0 rfl rfl rfl rfl dq g13 (Int.le_refl _) rfl rfl ctnl) rfl (sv (EV.fa 0 rfl) rfl (so rfl (op_st (cs' := [.slice (cutA At1_0 ct1_0 (1 : Int).toNat 5) (t1_0.drop (1 : Int).toNat).length (ct1_0 - (1 : Int).toNat), .int .i64 t1_1, .int .i64 t1_2]) 1 rfl rfl rfl rfl rfl rfl (re (pr [4, 8, 9] [0, 1, 2] [2, 3, 4, 5] rfl rfl rfl rfl (gs (dr [1, 2] [0, 1, 2, 3] [4, 5, 6] 7 rfl rfl rfl rfl (xv 0 [1, 2] [0, 1, 2, 3] rfl (EV.ld (v := .agg #[.slice (cutA At1_0 ct1_0 (1 : Int).toNat 5) (t1_0.drop (1 : Int).toNat).length (ct1_0 - (1 : Int).toNat), .int .i64 t1_1, .int .i64 t1_2]) 0 (some 3) rfl rfl rfl) rfl rfl rfl rfl (xv 1 [1, 2] [0, 1, 2, 3] rfl (EV.ld (v := .agg #[.int .i64 ((rd_T44 t1_0 0).f0), .slice A_8 ((rd_T44 t1_0 0).f1).length c_8, .slice A_9 ((rd_T44 t1_0 0).f2).length c_9, .slice A_10 ((rd_T44 t1_0 0).f3).length c_10, .int .i64 ((rd_T44 t1_0 0).f4)]) 1 (some 5) rfl rfl rfl) rfl rfl rfl rfl (one1 2 rfl rfl ?_)))))))))))
     revert H; refine bdI ?_; rintro t14 A14 H
     refine op_call (impl_UnmatchedRows.ok k ((rd_T44 t1_0 0).f0) ((rd_T44 t1_0 0).f1) A_8 c_8 ((rd_T44 t1_0 0).f2) A_9 c_9 ((rd_T44 t1_0 0).f3) A_10 c_10 ((rd_T44 t1_0 0).f4) _ A14) [⟨0, 0, 0, false⟩, ⟨1, 0, 0, false⟩, ⟨2, 0, 0, false⟩] 3 rfl rfl rfl rfl rfl ?_
     rintro _ _ _ ⟨At14, ct14, rfl, rfl, rfl⟩
     refine xs [1, 2] [0, 1, 2, 3] rfl rfl rfl (one1 3 rfl rfl (op_st (cs' := [.slice (cutA At1_0 ct1_0 (1 : Int).toNat 5) (t1_0.drop (1 : Int).toNat).length (ct1_0 - (1 : Int).toNat), .int .i64 t1_1, .int .i64 t1_2]) 0 rfl rfl rfl rfl rfl rfl (xs [1, 2] [0, 1, 2, 3] rfl rfl rfl (one1 4 rfl rfl (ov (EV.as rfl) rfl (xn rfl (one1 5 rfl rfl (ov (EV.as rfl) rfl (xn rfl (one1 6 rfl rfl (ov (EV.as rfl) rfl (xn rfl (xd ?_)))))))))))))
     cases H
     exact rt Try.func54 rfl (.cell 0 (some 3) rfl rfl rfl (.tmp rfl (.tmp rfl (.tmp rfl .nil)))) rfl [] [⟨3, 1, 1, true⟩, ⟨4, 2, 2, true⟩] rfl rfl rfl rfl rfl ⟨_, _, _, _, rfl, rfl, rfl⟩
    ·
     refine ts 50 rfl (dF c12) (sv (EV.fa 2 rfl) rfl (sv (EV.ld 2 none rfl rfl rfl) rfl (sv (EV.ln rfl) rfl (sv (EV.eql rfl rfl) rfl (sv (EV.pf rfl rfl rfl) rfl (sv (EV.as rfl) rfl (re (pr [1, 4, 8, 9, 10, 45] [0, 1, 2] [0, 1, 2, 3, 4] rfl rfl rfl rfl ?_))))))))
     revert H; refine ifsI ?_ ?_ <;> intro c15 H
     ·
      refine gt rfl (dT c15) (gs (rg (sv (EV.fa 0 rfl) rfl (sv (EV.ld 1 none rfl rfl rfl) rfl ?_))))
      revert H; refine ggI ?_; intro g16 H
      refine cutp (l' := t1_0.drop (1 : Int).toNat) 1 (t1_0.length : Int) 0 rfl dq g16 (Int.le_refl _) rfl 1 dq (.inl dq) ctl (sv (EV.ct 1 (t1_0.length : Int) 0 rfl rfl rfl rfl dq g16 (Int.le_refl _) rfl rfl ctnl) rfl (sv (EV.fa 0 rfl) rfl (so rfl (op_st (cs' := [.slice (cutA At1_0 ct1_0 (1 : Int).toNat 5) (t1_0.drop (1 : Int).toNat).length (ct1_0 - (1 : Int).toNat), .int .i64 t1_1, .int .i64 t1_2]) 1 rfl rfl rfl rfl rfl rfl (re (pr [4, 8, 9] [0, 1, 2] [2, 3, 4, 5] rfl rfl rfl rfl (gs (dr [1, 2] [0, 1, 2, 3] [4, 5, 6] 7 rfl rfl rfl rfl (xv 0 [1, 2] [0, 1, 2, 3] rfl (EV.ld (v := .agg #[.slice (cutA At1_0 ct1_0 (1 : Int).toNat 5) (t1_0.drop (1 : Int).toNat).length (ct1_0 - (1 : Int).toNat), .int .i64 t1_1, .int .i64 t1_2]) 0 (some 3) rfl rfl rfl) rfl rfl rfl rfl (xv 1 [1, 2] [0, 1, 2, 3] rfl (EV.ld (v := .agg #[.int .i64 ((rd_T44 t1_0 0).f0), .slice A_8 ((rd_T44 t1_0 0).f1).length c_8, .slice A_9 ((rd_T44 t1_0 0).f2).length c_9, .slice A_10 ((rd_T44 t1_0 0).f3).length c_10, .int .i64 ((rd_T44 t1_0 0).f4)]) 1 (some 5) rfl rfl rfl) rfl rfl rfl rfl (one1 2 rfl rfl ?_)))))))))))
      revert H; refine bdI ?_; rintro t17 A17 H
      refine op_call (impl_UnmatchedRows.ok k ((rd_T44 t1_0 0).f0) ((rd_T44 t1_0 0).f1) A_8 c_8 ((rd_T44 t1_0 0).f2) A_9 c_9 ((rd_T44 t1_0 0).f3) A_10 c_10 ((rd_T44 t1_0 0).f4) _ A17) [⟨0, 0, 0, false⟩, ⟨1, 0, 0, false⟩, ⟨2, 0, 0, false⟩] 3 rfl rfl rfl rfl rfl ?_
      rintro _ _ _ ⟨At17, ct17, rfl, rfl, rfl⟩
      refine xs [1, 2] [0, 1, 2, 3] rfl rfl rfl (one1 3 rfl rfl (op_st (cs' := [.slice (cutA At1_0 ct1_0 (1 : Int).toNat 5) (t1_0.drop (1 : Int).toNat).length (ct1_0 - (1 : Int).toNat), .int .i64 t1_1, .int .i64 t1_2]) 0 rfl rfl rfl rfl rfl rfl (xs [1, 2] [0, 1, 2, 3] rfl rfl rfl (one1 4 rfl rfl (ov (EV.as rfl) rfl (xn rfl (one1 5 rfl rfl (ov (EV.as rfl) rfl (xn rfl (one1 6 rfl rfl (ov (EV.as rfl) rfl (xn rfl (xd ?_)))))))))))))
      cases H
      exact rt Try.func54 rfl (.cell 0 (some 3) rfl rfl rfl (.tmp rfl (.tmp rfl (.tmp rfl .nil)))) rfl [] [⟨3, 1, 1, true⟩, ⟨4, 2, 2, true⟩] rfl rfl rfl rfl rfl ⟨_, _, _, _, rfl, rfl, rfl⟩
     ·
      refine gf rfl (dF c15) (gs (rg (sv (EV.mv rfl) rfl (sv (EV.neq rfl rfl) rfl (sv (EV.as rfl) rfl (re ?_))))))
      revert H; refine ifsI ?_ ?_ <;> intro c18 H
      ·
       refine gf rfl (nF c18) (gs (rg (sv (EV.ld (v := .agg #[.int .i64 ((rd_T44 t1_0 0).f0), .slice A_8 ((rd_T44 t1_0 0).f1).length c_8, .slice A_9 ((rd_T44 t1_0 0).f2).length c_9, .slice A_10 ((rd_T44 t1_0 0).f3).length c_10, .int .i64 ((rd_T44 t1_0 0).f4)]) 2 (some 5) rfl rfl rfl) rfl ?_)))
       revert H; refine bdI ?_; rintro t19 A19 H
       refine so rfl (op_call (impl_NeedsNestedLoop.ok k ((rd_T44 t1_0 0).f0) ((rd_T44 t1_0 0).f1) A_8 c_8 ((rd_T44 t1_0 0).f2) A_9 c_9 ((rd_T44 t1_0 0).f3) A_10 c_10 ((rd_T44 t1_0 0).f4) _ A19) [⟨2, 0, 0, false⟩, ⟨3, 0, 0, false⟩, ⟨4, 0, 0, false⟩] 3 rfl rfl rfl rfl rfl ?_)
       rintro _ _ _ ⟨rfl, rfl, rfl⟩
       refine sv (EV.as rfl) rfl (re (pr [1, 4, 8, 9, 91] [0, 1, 2] [0, 1, 2, 3, 4] rfl rfl rfl rfl ?_))
       revert H; refine ifsI ?_ ?_ <;> intro c20 H
       ·
        subst c20
        refine gt rfl rfl (gs (rg (sv (EV.fa 2 rfl) rfl (sv (EV.ld 2 none rfl rfl rfl) rfl (sv (EV.mv rfl) rfl ?_)))))
        revert H; refine bdI ?_; rintro ⟨t21_0, t21_1⟩ A21 H
        refine so rfl (op_call (impl_NextChunk.ok k ((rd_T44 t1_0 0).f2) A_9 c_9 a1 _ _ A21) [⟨3, 0, 0, false⟩] 3 rfl rfl rfl rfl rfl ?_)
        rintro _ _ _ ⟨At21_0, ct21_0, At21_1, ct21_1, rfl, rfl, rfl⟩
        refine sv (EV.mv rfl) rfl (sv (EV.ex rfl rfl) rfl (sv (EV.ex rfl rfl) rfl (sv (EV.as rfl) rfl (sv (EV.as rfl) rfl (re (pr [4, 8, 9, 14, 15] [0, 1, 2] [0, 1, 2, 3, 4, 5, 6] rfl rfl rfl rfl (gs (rg (sv (EV.ld (v := .agg #[.int .i64 ((rd_T44 t1_0 0).f0), .slice A_8 ((rd_T44 t1_0 0).f1).length c_8, .slice A_9 ((rd_T44 t1_0 0).f2).length c_9, .slice A_10 ((rd_T44 t1_0 0).f3).length c_10, .int .i64 ((rd_T44 t1_0 0).f4)]) 2 (some 5) rfl rfl rfl) rfl (sv (EV.mv rfl) rfl ?_))))))))))
        revert H; refine bdI ?_; rintro ⟨t22_0, t22_1, t22_2, t22_3, t22_4, t22_5⟩ A22 H
        refine so rfl (op_call (impl_JoinChunk.ok k ((rd_T44 t1_0 0).f0) ((rd_T44 t1_0 0).f1) A_8 c_8 ((rd_T44 t1_0 0).f2) A_9 c_9 ((rd_T44 t1_0 0).f3) A_10 c_10 ((rd_T44 t1_0 0).f4) t21_0 At21_0 ct21_0 _ _ _ _ _ _ A22) [⟨2, 0, 0, false⟩, ⟨3, 0, 0, false⟩, ⟨4, 0, 0, false⟩, ⟨5, 0, 0, false⟩] 6 rfl rfl rfl rfl rfl ?_)
        rintro _ _ _ ⟨At22_0, ct22_0, At22_2, ct22_2, At22_3, ct22_3, At22_4, ct22_4, rfl, rfl, rfl⟩
        refine sv (EV.mv rfl) rfl (sv (EV.ex rfl rfl) rfl (sv (EV.ex rfl rfl) rfl (so rfl (op_alloc (cs := [.int .i64 0, .slice none 0 0, .slice none 0 0, .slice none 0 0, .int .i64 0]) (by kernel_rfl) rfl fun b17 => (sv (EV.as rfl) rfl (so rfl (op_st (cs' := [.int .i64 t22_1, .slice At22_2 t22_2.length ct22_2, .slice At22_3 t22_3.length ct22_3, .slice At22_4 t22_4.length ct22_4, .int .i64 t22_5]) 3 rfl rfl rfl rfl rfl rfl (re (pr [4, 8, 14, 15, 16, 17] [0, 1, 3] [0, 5, 6, 7, 8, 9, 10] rfl rfl rfl rfl (gs (rg (sv (EV.mv rfl) rfl (sv (EV.fa 2 rfl) rfl (so rfl (op_st (cs' := [.int .i64 t22_1, .slice At22_2 t22_2.length ct22_2, .slice At21_1 t21_1.length ct21_1, .slice At22_4 t22_4.length ct22_4, .int .i64 t22_5]) 2 rfl rfl rfl rfl rfl rfl (re (gs (rg (sv (EV.fa 0 rfl) rfl (sv (EV.ld 1 none rfl rfl rfl) rfl (sv (EV.ld (v := .agg #[.int .i64 t22_1, .slice At22_2 t22_2.length ct22_2, .slice At21_1 t21_1.length ct21_1, .slice At22_4 t22_4.length ct22_4, .int .i64 t22_5]) 2 (some 5) rfl rfl rfl) rfl (sv (EV.ix 0 rfl rfl rfl dq g7 rfl) rfl (opn (i := 0) 0 z44 rfl dq g7 fun A_23 c_23 A_24 c_24 A_25 c_25 => (opnH (i := 0) (s := 5) (cls' := 2) [(A_23, c_23), (A_24, c_24), (A_25, c_25)] 0 7 11 z44 rfl rfl (by kernel_rfl) dq g7 dq rfl rfl (nmE (en := [.sl 2 k70 At21_0 ct21_0 t21_0 4 true, .sl 2 k70 At21_1 ct21_1 t21_1 5 true, .sl 2 k92 At22_0 ct22_0 t22_0 7 true, .sl 2 k70 At22_2 ct22_2 t22_2 8 true, .sl 2 k70 At22_3 ct22_3 t22_3 9 true, .sl 2 .bool At22_4 ct22_4 t22_4 10 true, holE k44 2 At1_0 ct1_0 t1_0 (0 : Int).toNat [.int .i64 ((rd_T44 t1_0 0).f0), .slice A_23 ((rd_T44 t1_0 0).f1).length c_23, .slice A_24 ((rd_T44 t1_0 0).f2).length c_24, .slice A_25 ((rd_T44 t1_0 0).f3).length c_25, .int .i64 ((rd_T44 t1_0 0).f4)] 11, .sl 1 k70 A_23 c_23 ((rd_T44 t1_0 0).f1) 12 true, .sl 1 k70 A_24 c_24 ((rd_T44 t1_0 0).f2) 13 true, .sl 1 .bool A_25 c_25 ((rd_T44 t1_0 0).f3) 14 true]) (by kernel_rfl) (so rfl (op_sth (cs' := [.int .i64 t22_1, .slice At22_2 t22_2.length ct22_2, .slice At21_1 t21_1.length ct21_1, .slice At22_4 t22_4.length ct22_4, .int .i64 t22_5]) 0 6 rfl rfl rfl rfl rfl (by kernel_rfl) rfl rfl (nmE (en := [.sl 2 k70 At21_0 ct21_0 t21_0 4 true, .sl 2 k70 At21_1 ct21_1 t21_1 5 true, .sl 2 k92 At22_0 ct22_0 t22_0 7 true, .sl 2 k70 At22_2 ct22_2 t22_2 8 true, .sl 2 k70 At22_3 ct22_3 t22_3 9 true, .sl 2 .bool At22_4 ct22_4 t22_4 10 true, .sl 1 k70 A_23 c_23 ((rd_T44 t1_0 0).f1) 12 true, .sl 1 k70 A_24 c_24 ((rd_T44 t1_0 0).f2) 13 true, .sl 1 .bool A_25 c_25 ((rd_T44 t1_0 0).f3) 14 true, holE k44 2 At1_0 ct1_0 t1_0 (0 : Int).toNat [.int .i64 t22_1, .slice At22_2 t22_2.length ct22_2, .slice At21_1 t21_1.length ct21_1, .slice At22_4 t22_4.length ct22_4, .int .i64 t22_5] 11]) (by kernel_rfl) ?_))))))))))))))))))))))))))))
        revert H; refine bdI ?_; intro s26 A26 H; have q26 := stl (Option.some.inj A26)
        refine hcl 9 (⟨t22_1, t22_2, t21_1, t22_4, t22_5⟩ : S44) [(At22_2, ct22_2), (At21_1, ct21_1), (At22_4, ct22_4)] [3, 1, 5] (Option.some.inj A26) rfl (by kernel_rfl) rfl (by kernel_rfl) (by kernel_rfl) (by kernel_rfl) (nmE (en := [.sl 2 k70 At21_0 ct21_0 t21_0 4 true, .sl 2 k70 At21_1 ct21_1 t21_1 11 true, .sl 2 k92 At22_0 ct22_0 t22_0 7 true, .sl 2 k70 At22_2 ct22_2 t22_2 11 true, .sl 2 k70 At22_3 ct22_3 t22_3 9 true, .sl 2 .bool At22_4 ct22_4 t22_4 11 true, .sl 1 k70 A_23 c_23 ((rd_T44 t1_0 0).f1) 12 true, .sl 1 k70 A_24 c_24 ((rd_T44 t1_0 0).f2) 13 true, .sl 1 .bool A_25 c_25 ((rd_T44 t1_0 0).f3) 14 true, .sl 2 k44 At1_0 ct1_0 s26 11 true]) (by kernel_rfl) (rlT 110 (v' := .slice At1_0 s26.length ct1_0) rfl (slq _ _ q26) (rlB 1 (cs' := [.slice At1_0 s26.length ct1_0, .int .i64 t1_1, .int .i64 t1_2]) rfl (by simp only [q26]) (re (pr [4, 8, 14, 16] [0, 1] [0, 2, 9] rfl rfl rfl rfl (gs (dr [1] [0, 1, 2] [6, 7] 8 rfl rfl rfl rfl (xv 0 [1] [0, 1, 2] rfl (EV.ld (v := .agg #[.slice At1_0 s26.length ct1_0, .int .i64 t1_1, .int .i64 t1_2]) 0 (some 3) rfl rfl rfl) rfl rfl rfl rfl (xv 1 [1] [0, 1, 2] rfl (EV.mv rfl) rfl rfl rfl rfl (xv 2 [1] [0, 1, 2] rfl (EV.mv rfl) rfl rfl rfl rfl (one1 3 rfl rfl ?_)))))))))))
        revert H; refine bdI ?_; rintro t27 A27 H
        refine op_call (impl_TotalCost.ok k t21_0 At21_0 ct21_0 _ A27) [⟨0, 0, 0, false⟩] 12 rfl rfl rfl rfl rfl ?_
        rintro _ _ _ ⟨rfl, rfl, rfl⟩
        refine xs [1] [0, 1, 2] rfl rfl rfl (one1 4 rfl rfl (op_st (cs' := [.slice At1_0 s26.length ct1_0, .int .i64 t1_1, .int .i64 t1_2]) 0 rfl rfl rfl rfl rfl rfl (xs [1] [0, 1, 2] rfl rfl rfl (one1 5 rfl rfl (ov (EV.as rfl) rfl (xs [1] [0, 1, 2] rfl rfl rfl (one1 6 rfl rfl (ov (EV.as rfl) rfl (xn rfl (one1 7 rfl rfl (ov (EV.as rfl) rfl (xn rfl (xd (pr [4, 5, 6, 7] [0] [1, 2] rfl rfl rfl rfl ?_))))))))))))))
        cases H
        exact rt Try.func54 rfl (.cell 0 (some 3) rfl rfl rfl (.tmp rfl (.tmp rfl (.tmp rfl .nil)))) rfl [] [⟨1, 1, 1, true⟩, ⟨0, 2, 2, true⟩] rfl rfl rfl rfl rfl ⟨_, _, _, _, rfl, rfl, rfl⟩
       ·
        obtain rfl := bF c20
        refine gf rfl rfl (gk (ge (gs (rg (sv (EV.ld (v := .agg #[.int .i64 ((rd_T44 t1_0 0).f0), .slice A_8 ((rd_T44 t1_0 0).f1).length c_8, .slice A_9 ((rd_T44 t1_0 0).f2).length c_9, .slice A_10 ((rd_T44 t1_0 0).f3).length c_10, .int .i64 ((rd_T44 t1_0 0).f4)]) 2 (some 5) rfl rfl rfl) rfl ?_)))))
        revert H; refine bdI ?_; rintro ⟨t28_0, t28_1, t28_2, t28_3, t28_4, t28_5, t28_6, t28_7, t28_8, t28_9, t28_10⟩ A28 H
        refine so rfl (op_call (impl_PartitionTask.ok k ((rd_T44 t1_0 0).f0) ((rd_T44 t1_0 0).f1) A_8 c_8 ((rd_T44 t1_0 0).f2) A_9 c_9 ((rd_T44 t1_0 0).f3) A_10 c_10 ((rd_T44 t1_0 0).f4) _ _ _ _ _ _ _ _ _ _ _ A28) [⟨2, 0, 0, false⟩, ⟨3, 0, 0, false⟩, ⟨4, 0, 0, false⟩] 3 rfl rfl rfl rfl rfl ?_)
        rintro _ _ _ ⟨At28_1, ct28_1, At28_2, ct28_2, At28_3, ct28_3, At28_6, ct28_6, At28_7, ct28_7, At28_8, ct28_8, rfl, rfl, rfl⟩
        refine sv (EV.mv rfl) rfl (sv (EV.ex rfl rfl) rfl (sv (EV.ex rfl rfl) rfl (sv (EV.ex rfl rfl) rfl (so rfl (op_alloc (cs := [.int .i64 0, .slice none 0 0, .slice none 0 0, .slice none 0 0, .int .i64 0]) (by kernel_rfl) rfl fun b18 => (so rfl (op_alloc (cs := [.int .i64 0, .slice none 0 0, .slice none 0 0, .slice none 0 0, .int .i64 0]) (by kernel_rfl) rfl fun b19 => (so rfl (op_st (cs' := [.int .i64 t28_0, .slice At28_1 t28_1.length ct28_1, .slice At28_2 t28_2.length ct28_2, .slice At28_3 t28_3.length ct28_3, .int .i64 t28_4]) 3 rfl rfl rfl rfl rfl rfl (so rfl (op_st (cs' := [.int .i64 t28_5, .slice At28_6 t28_6.length ct28_6, .slice At28_7 t28_7.length ct28_7, .slice At28_8 t28_8.length ct28_8, .int .i64 t28_9]) 4 rfl rfl rfl rfl rfl rfl (sv (EV.as rfl) rfl (re (pr [4, 8, 9, 18, 19] [0, 1, 2, 3, 4] [0, 1, 2, 3, 4, 5, 6, 7, 8, 9, 10] rfl rfl rfl rfl (gs ?_)))))))))))))))
        revert H; refine ggI ?_; intro g29 H
        refine dr [0, 1, 2, 3, 4] [] [7, 8] 9 rfl rfl rfl rfl (xv 0 [0, 1, 2, 3, 4] [] rfl (EV.ld (v := .agg #[.int .i64 t28_0, .slice At28_1 t28_1.length ct28_1, .slice At28_2 t28_2.length ct28_2, .slice At28_3 t28_3.length ct28_3, .int .i64 t28_4]) 3 (some 5) rfl rfl rfl) rfl rfl rfl rfl (xv 1 [0, 1, 2, 3, 4] [] rfl (EV.ld (v := .agg #[.int .i64 t28_5, .slice At28_6 t28_6.length ct28_6, .slice At28_7 t28_7.length ct28_7, .slice At28_8 t28_8.length ct28_8, .int .i64 t28_9]) 4 (some 5) rfl rfl rfl) rfl rfl rfl rfl (xv 3 [0, 1, 2, 3, 4] [] rfl (EV.fa 0 rfl) rfl rfl rfl rfl (xv 4 [0, 1, 2, 3, 4] [] rfl (EV.ld 1 none rfl rfl rfl) rfl rfl rfl rfl ?_))))
        refine one2 2 5 rfl rfl rfl rfl ?_ ?_
        ·
         refine op_lit (s := 5) (by_ := 88) k44 ([(⟨t28_0, t28_1, t28_2, t28_3, t28_4⟩ : S44), (⟨t28_5, t28_6, t28_7, t28_8, t28_9⟩ : S44)] : List S44) [[(At28_1, ct28_1), (At28_2, ct28_2), (At28_3, ct28_3)], [(At28_6, ct28_6), (At28_7, ct28_7), (At28_8, ct28_8)]] [5, 6, 7, 8, 9, 10] 10 [.tmp 123, .tmp 124] rfl rfl rfl rfl rfl rfl rfl rfl rfl rfl rfl rfl rfl dq rfl fun A125_30 c125_30 => (nmE (en := [.sl 2 k44 At1_0 ct1_0 t1_0 2 true, celE At1_0 ((0 : Int).toNat * 5) [.int .i64 ((rd_T44 t1_0 0).f0), .slice A_8 ((rd_T44 t1_0 0).f1).length c_8, .slice A_9 ((rd_T44 t1_0 0).f2).length c_9, .slice A_10 ((rd_T44 t1_0 0).f3).length c_10, .int .i64 ((rd_T44 t1_0 0).f4)] 2, .sl 1 k70 A_8 c_8 ((rd_T44 t1_0 0).f1) 2 true, .sl 1 k70 A_9 c_9 ((rd_T44 t1_0 0).f2) 2 true, .sl 1 .bool A_10 c_10 ((rd_T44 t1_0 0).f3) 2 true, .sl 2 k70 At28_1 ct28_1 t28_1 10 true, .sl 2 k70 At28_2 ct28_2 t28_2 10 true, .sl 2 .bool At28_3 ct28_3 t28_3 10 true, .sl 2 k70 At28_6 ct28_6 t28_6 10 true, .sl 2 k70 At28_7 ct28_7 t28_7 10 true, .sl 2 .bool At28_8 ct28_8 t28_8 10 true, .sl 2 k44 A125_30 c125_30 ([(⟨t28_0, t28_1, t28_2, t28_3, t28_4⟩ : S44), (⟨t28_5, t28_6, t28_7, t28_8, t28_9⟩ : S44)] : List S44) 10 true]) (by kernel_rfl) (xs [0, 1, 2, 3, 4] [] rfl rfl rfl (one1 5 rfl rfl (cutp (l' := t1_0.drop (1 : Int).toNat) 1 (t1_0.length : Int) 0 rfl dq g29 (Int.le_refl _) rfl 1 dq (.inl dq) ctl (ov (EV.ct 1 (t1_0.length : Int) 0 rfl rfl rfl rfl dq g29 (Int.le_refl _) rfl rfl ctnl) rfl (xs [0, 1, 2, 3, 4] [] rfl rfl rfl (one1 6 rfl rfl ?_)))))))
         revert H; refine ggI ?_; intro g31 H
         refine op_app (k := k44) (s := 5) (by_ := 88) 11 12 rfl rfl rfl rfl (ap2 g31 dq) (ap2n g31 dq) (.inr ⟨dq, dq, rfl, dq⟩) true (fun _ => .inr ⟨rfl, rfl, dq⟩) rfl rfl fun A129_32 c129_32 => (nmE (en := [.sl 2 k44 At1_0 ct1_0 t1_0 10 true, celE At1_0 ((0 : Int).toNat * 5) [.int .i64 ((rd_T44 t1_0 0).f0), .slice A_8 ((rd_T44 t1_0 0).f1).length c_8, .slice A_9 ((rd_T44 t1_0 0).f2).length c_9, .slice A_10 ((rd_T44 t1_0 0).f3).length c_10, .int .i64 ((rd_T44 t1_0 0).f4)] 10, .sl 1 k70 A_8 c_8 ((rd_T44 t1_0 0).f1) 10 true, .sl 1 k70 A_9 c_9 ((rd_T44 t1_0 0).f2) 10 true, .sl 1 .bool A_10 c_10 ((rd_T44 t1_0 0).f3) 10 true, .sl 1 k44 (cutA At1_0 ct1_0 (1 : Int).toNat 5) (ct1_0 - (1 : Int).toNat) (t1_0.drop (1 : Int).toNat) 10 true, .sl 2 k44 A129_32 c129_32 (([(⟨t28_0, t28_1, t28_2, t28_3, t28_4⟩ : S44), (⟨t28_5, t28_6, t28_7, t28_8, t28_9⟩ : S44)] : List S44) ++ (t1_0.drop (1 : Int).toNat)) 10 true]) (by kernel_rfl) (xs [0, 1, 2, 3, 4] [] rfl rfl rfl (one1 7 rfl rfl (ov (EV.fa 0 rfl) rfl (xn rfl (one1 8 rfl rfl (op_st (cs' := [.slice A129_32 (([(⟨t28_0, t28_1, t28_2, t28_3, t28_4⟩ : S44), (⟨t28_5, t28_6, t28_7, t28_8, t28_9⟩ : S44)] : List S44) ++ (t1_0.drop (1 : Int).toNat)).length c129_32, .int .i64 t1_1, .int .i64 t1_2]) 1 rfl rfl rfl rfl rfl rfl (xn rfl (xd (pr [4, 8, 9] [0, 1, 2] [2, 3, 4, 6] rfl rfl rfl rfl (gs (dr [0, 1, 2] [0, 1, 2, 3] [6] 7 rfl rfl rfl rfl (xv 0 [0, 1, 2] [0, 1, 2, 3] rfl (EV.fa 1 rfl) rfl rfl rfl rfl (xv 1 [0, 1, 2] [0, 1, 2, 3] rfl (EV.ld 1 none rfl rfl rfl) rfl rfl rfl rfl (xv 2 [0, 1, 2] [0, 1, 2, 3] rfl (EV.ld (v := .agg #[.int .i64 ((rd_T44 t1_0 0).f0), .slice A_8 ((rd_T44 t1_0 0).f1).length c_8, .slice A_9 ((rd_T44 t1_0 0).f2).length c_9, .slice A_10 ((rd_T44 t1_0 0).f3).length c_10, .int .i64 ((rd_T44 t1_0 0).f4)]) 2 (some 5) rfl rfl rfl) rfl rfl rfl rfl (one1 3 rfl rfl ?_))))))))))))))))
         revert H; refine bdI ?_; rintro t33 A33 H
         refine op_call (impl_TaskCost.ok k ((rd_T44 t1_0 0).f0) ((rd_T44 t1_0 0).f1) A_8 c_8 ((rd_T44 t1_0 0).f2) A_9 c_9 ((rd_T44 t1_0 0).f3) A_10 c_10 ((rd_T44 t1_0 0).f4) _ A33) [⟨0, 0, 0, false⟩, ⟨1, 0, 0, false⟩, ⟨2, 0, 0, false⟩] 11 rfl rfl rfl rfl rfl ?_
         rintro _ _ _ ⟨rfl, rfl, rfl⟩
         refine xs [0, 1, 2] [0, 1, 2, 3] rfl rfl rfl (xv 4 [0, 1, 2] [0, 1, 2, 3] rfl (EV.add rfl rfl) rfl rfl rfl rfl (xv 5 [0, 1, 2] [0, 1, 2, 3] rfl (EV.fa 1 rfl) rfl rfl rfl rfl (one1 6 rfl rfl (op_st (cs' := [.slice A129_32 (([(⟨t28_0, t28_1, t28_2, t28_3, t28_4⟩ : S44), (⟨t28_5, t28_6, t28_7, t28_8, t28_9⟩ : S44)] : List S44) ++ (t1_0.drop (1 : Int).toNat)).length c129_32, .int .i64 (wrap64 (t1_1 + t33)), .int .i64 t1_2]) 1 rfl rfl rfl rfl rfl rfl (xn rfl (xd (pr [4, 8] [0, 1] [3] rfl rfl rfl rfl (gs (rg (sv (EV.fa 2 rfl) rfl (sv (EV.ld 1 none rfl rfl rfl) rfl (sv (EV.add rfl rfl) rfl (sv (EV.fa 2 rfl) rfl (so rfl (op_st (cs' := [.slice A129_32 (([(⟨t28_0, t28_1, t28_2, t28_3, t28_4⟩ : S44), (⟨t28_5, t28_6, t28_7, t28_8, t28_9⟩ : S44)] : List S44) ++ (t1_0.drop (1 : Int).toNat)).length c129_32, .int .i64 (wrap64 (t1_1 + t33)), .int .i64 (wrap64 (t1_2 + 1))]) 1 rfl rfl rfl rfl rfl rfl (re (gs (rg (sv (EV.ld (v := .agg #[.slice A129_32 (([(⟨t28_0, t28_1, t28_2, t28_3, t28_4⟩ : S44), (⟨t28_5, t28_6, t28_7, t28_8, t28_9⟩ : S44)] : List S44) ++ (t1_0.drop (1 : Int).toNat)).length c129_32, .int .i64 (wrap64 (t1_1 + t33)), .int .i64 (wrap64 (t1_2 + 1))]) 1 (some 3) rfl rfl rfl) rfl (so rfl (op_st (cs' := [.slice A129_32 (([(⟨t28_0, t28_1, t28_2, t28_3, t28_4⟩ : S44), (⟨t28_5, t28_6, t28_7, t28_8, t28_9⟩ : S44)] : List S44) ++ (t1_0.drop (1 : Int).toNat)).length c129_32, .int .i64 (wrap64 (t1_1 + t33)), .int .i64 (wrap64 (t1_2 + 1))]) 0 rfl rfl rfl rfl rfl rfl (sv (EV.as rfl) rfl (sv (EV.as rfl) rfl (sv (EV.as rfl) rfl (re (pr [4, 5, 6, 7] [0] [0] rfl rfl rfl rfl (nil_ k92 11 dq ?_)))))))))))))))))))))))))))
         cases H
         exact rt Try.func54 rfl (.cell 0 (some 3) rfl rfl rfl (.tmp rfl (.tmp rfl (.tmp rfl .nil)))) rfl [] [⟨0, 1, 1, true⟩, ⟨1, 2, 2, true⟩] rfl rfl rfl rfl rfl ⟨_, _, _, _, rfl, rfl, rfl⟩
        ·
         refine cutp (l' := t1_0.drop (1 : Int).toNat) 1 (t1_0.length : Int) 0 rfl dq g29 (Int.le_refl _) rfl 1 dq (.inl dq) ctl (ov (EV.ct 1 (t1_0.length : Int) 0 rfl rfl rfl rfl dq g29 (Int.le_refl _) rfl rfl ctnl) rfl (xs [0, 1, 2, 3, 4] [] rfl rfl rfl (one1 2 rfl rfl (op_lit (s := 5) (by_ := 88) k44 ([(⟨t28_0, t28_1, t28_2, t28_3, t28_4⟩ : S44), (⟨t28_5, t28_6, t28_7, t28_8, t28_9⟩ : S44)] : List S44) [[(At28_1, ct28_1), (At28_2, ct28_2), (At28_3, ct28_3)], [(At28_6, ct28_6), (At28_7, ct28_7), (At28_8, ct28_8)]] [5, 6, 7, 8, 9, 10] 10 [.tmp 123, .tmp 124] rfl rfl rfl rfl rfl rfl rfl rfl rfl rfl rfl rfl rfl dq rfl fun A125_34 c125_34 => (nmE (en := [.sl 2 k44 At1_0 ct1_0 t1_0 2 true, celE At1_0 ((0 : Int).toNat * 5) [.int .i64 ((rd_T44 t1_0 0).f0), .slice A_8 ((rd_T44 t1_0 0).f1).length c_8, .slice A_9 ((rd_T44 t1_0 0).f2).length c_9, .slice A_10 ((rd_T44 t1_0 0).f3).length c_10, .int .i64 ((rd_T44 t1_0 0).f4)] 2, .sl 1 k70 A_8 c_8 ((rd_T44 t1_0 0).f1) 2 true, .sl 1 k70 A_9 c_9 ((rd_T44 t1_0 0).f2) 2 true, .sl 1 .bool A_10 c_10 ((rd_T44 t1_0 0).f3) 2 true, .sl 2 k70 At28_1 ct28_1 t28_1 10 true, .sl 2 k70 At28_2 ct28_2 t28_2 10 true, .sl 2 .bool At28_3 ct28_3 t28_3 10 true, .sl 2 k70 At28_6 ct28_6 t28_6 10 true, .sl 2 k70 At28_7 ct28_7 t28_7 10 true, .sl 2 .bool At28_8 ct28_8 t28_8 10 true, .sl 1 k44 (cutA At1_0 ct1_0 (1 : Int).toNat 5) (ct1_0 - (1 : Int).toNat) (t1_0.drop (1 : Int).toNat) 2 true, .sl 2 k44 A125_34 c125_34 ([(⟨t28_0, t28_1, t28_2, t28_3, t28_4⟩ : S44), (⟨t28_5, t28_6, t28_7, t28_8, t28_9⟩ : S44)] : List S44) 10 true]) (by kernel_rfl) (xs [0, 1, 2, 3, 4] [] rfl rfl rfl (one1 6 rfl rfl ?_)))))))
         revert H; refine ggI ?_; intro g35 H
         refine op_app (k := k44) (s := 5) (by_ := 88) 12 11 rfl rfl rfl rfl (ap2 g35 dq) (ap2n g35 dq) (.inr ⟨dq, dq, rfl, dq⟩) true (fun _ => .inr ⟨rfl, rfl, dq⟩) rfl rfl fun A129_36 c129_36 => (nmE (en := [.sl 2 k44 At1_0 ct1_0 t1_0 10 true, celE At1_0 ((0 : Int).toNat * 5) [.int .i64 ((rd_T44 t1_0 0).f0), .slice A_8 ((rd_T44 t1_0 0).f1).length c_8, .slice A_9 ((rd_T44 t1_0 0).f2).length c_9, .slice A_10 ((rd_T44 t1_0 0).f3).length c_10, .int .i64 ((rd_T44 t1_0 0).f4)] 10, .sl 1 k70 A_8 c_8 ((rd_T44 t1_0 0).f1) 10 true, .sl 1 k70 A_9 c_9 ((rd_T44 t1_0 0).f2) 10 true, .sl 1 .bool A_10 c_10 ((rd_T44 t1_0 0).f3) 10 true, .sl 1 k44 (cutA At1_0 ct1_0 (1 : Int).toNat 5) (ct1_0 - (1 : Int).toNat) (t1_0.drop (1 : Int).toNat) 10 true, .sl 2 k44 A129_36 c129_36 (([(⟨t28_0, t28_1, t28_2, t28_3, t28_4⟩ : S44), (⟨t28_5, t28_6, t28_7, t28_8, t28_9⟩ : S44)] : List S44) ++ (t1_0.drop (1 : Int).toNat)) 10 true]) (by kernel_rfl) (xs [0, 1, 2, 3, 4] [] rfl rfl rfl (one1 7 rfl rfl (ov (EV.fa 0 rfl) rfl (xn rfl (one1 8 rfl rfl (op_st (cs' := [.slice A129_36 (([(⟨t28_0, t28_1, t28_2, t28_3, t28_4⟩ : S44), (⟨t28_5, t28_6, t28_7, t28_8, t28_9⟩ : S44)] : List S44) ++ (t1_0.drop (1 : Int).toNat)).length c129_36, .int .i64 t1_1, .int .i64 t1_2]) 1 rfl rfl rfl rfl rfl rfl (xn rfl (xd (pr [4, 8, 9] [0, 1, 2] [2, 3, 4, 6] rfl rfl rfl rfl (gs (dr [0, 1, 2] [0, 1, 2, 3] [6] 7 rfl rfl rfl rfl (xv 0 [0, 1, 2] [0, 1, 2, 3] rfl (EV.fa 1 rfl) rfl rfl rfl rfl (xv 1 [0, 1, 2] [0, 1, 2, 3] rfl (EV.ld 1 none rfl rfl rfl) rfl rfl rfl rfl (xv 2 [0, 1, 2] [0, 1, 2, 3] rfl (EV.ld (v := .agg #[.int .i64 ((rd_T44 t1_0 0).f0), .slice A_8 ((rd_T44 t1_0 0).f1).length c_8, .slice A_9 ((rd_T44 t1_0 0).f2).length c_9, .slice A_10 ((rd_T44 t1_0 0).f3).length c_10, .int .i64 ((rd_T44 t1_0 0).f4)]) 2 (some 5) rfl rfl rfl) rfl rfl rfl rfl (one1 3 rfl rfl ?_))))))))))))))))
         revert H; refine bdI ?_; rintro t37 A37 H
         refine op_call (impl_TaskCost.ok k ((rd_T44 t1_0 0).f0) ((rd_T44 t1_0 0).f1) A_8 c_8 ((rd_T44 t1_0 0).f2) A_9 c_9 ((rd_T44 t1_0 0).f3) A_10 c_10 ((rd_T44 t1_0 0).f4) _ A37) [⟨0, 0, 0, false⟩, ⟨1, 0, 0, false⟩, ⟨2, 0, 0, false⟩] 11 rfl rfl rfl rfl rfl ?_
         rintro _ _ _ ⟨rfl, rfl, rfl⟩
         refine xs [0, 1, 2] [0, 1, 2, 3] rfl rfl rfl (xv 4 [0, 1, 2] [0, 1, 2, 3] rfl (EV.add rfl rfl) rfl rfl rfl rfl (xv 5 [0, 1, 2] [0, 1, 2, 3] rfl (EV.fa 1 rfl) rfl rfl rfl rfl (one1 6 rfl rfl (op_st (cs' := [.slice A129_36 (([(⟨t28_0, t28_1, t28_2, t28_3, t28_4⟩ : S44), (⟨t28_5, t28_6, t28_7, t28_8, t28_9⟩ : S44)] : List S44) ++ (t1_0.drop (1 : Int).toNat)).length c129_36, .int .i64 (wrap64 (t1_1 + t37)), .int .i64 t1_2]) 1 rfl rfl rfl rfl rfl rfl (xn rfl (xd (pr [4, 8] [0, 1] [3] rfl rfl rfl rfl (gs (rg (sv (EV.fa 2 rfl) rfl (sv (EV.ld 1 none rfl rfl rfl) rfl (sv (EV.add rfl rfl) rfl (sv (EV.fa 2 rfl) rfl (so rfl (op_st (cs' := [.slice A129_36 (([(⟨t28_0, t28_1, t28_2, t28_3, t28_4⟩ : S44), (⟨t28_5, t28_6, t28_7, t28_8, t28_9⟩ : S44)] : List S44) ++ (t1_0.drop (1 : Int).toNat)).length c129_36, .int .i64 (wrap64 (t1_1 + t37)), .int .i64 (wrap64 (t1_2 + 1))]) 1 rfl rfl rfl rfl rfl rfl (re (gs (rg (sv (EV.ld (v := .agg #[.slice A129_36 (([(⟨t28_0, t28_1, t28_2, t28_3, t28_4⟩ : S44), (⟨t28_5, t28_6, t28_7, t28_8, t28_9⟩ : S44)] : List S44) ++ (t1_0.drop (1 : Int).toNat)).length c129_36, .int .i64 (wrap64 (t1_1 + t37)), .int .i64 (wrap64 (t1_2 + 1))]) 1 (some 3) rfl rfl rfl) rfl (so rfl (op_st (cs' := [.slice A129_36 (([(⟨t28_0, t28_1, t28_2, t28_3, t28_4⟩ : S44), (⟨t28_5, t28_6, t28_7, t28_8, t28_9⟩ : S44)] : List S44) ++ (t1_0.drop (1 : Int).toNat)).length c129_36, .int .i64 (wrap64 (t1_1 + t37)), .int .i64 (wrap64 (t1_2 + 1))]) 0 rfl rfl rfl rfl rfl rfl (sv (EV.as rfl) rfl (sv (EV.as rfl) rfl (sv (EV.as rfl) rfl (re (pr [4, 5, 6, 7] [0] [0] rfl rfl rfl rfl (nil_ k92 11 dq ?_)))))))))))))))))))))))))))
         cases H
         exact rt Try.func54 rfl (.cell 0 (some 3) rfl rfl rfl (.tmp rfl (.tmp rfl (.tmp rfl .nil)))) rfl [] [⟨0, 1, 1, true⟩, ⟨1, 2, 2, true⟩] rfl rfl rfl rfl rfl ⟨_, _, _, _, rfl, rfl, rfl⟩
      ·
       refine gt rfl (nT c18) (gs (rg (sv (EV.fa 0 rfl) rfl (sv (EV.ld 1 none rfl rfl rfl) rfl ?_))))
       revert H; refine ggI ?_; intro g38 H
       refine cutp (l' := t1_0.drop (1 : Int).toNat) 1 (t1_0.length : Int) 0 rfl dq g38 (Int.le_refl _) rfl 1 dq (.inl dq) ctl (sv (EV.ct 1 (t1_0.length : Int) 0 rfl rfl rfl rfl dq g38 (Int.le_refl _) rfl rfl ctnl) rfl (sv (EV.fa 0 rfl) rfl (so rfl (op_st (cs' := [.slice (cutA At1_0 ct1_0 (1 : Int).toNat 5) (t1_0.drop (1 : Int).toNat).length (ct1_0 - (1 : Int).toNat), .int .i64 t1_1, .int .i64 t1_2]) 1 rfl rfl rfl rfl rfl rfl (re (pr [4, 8, 9, 10] [0, 1, 2] [2, 3, 4, 5] rfl rfl rfl rfl (gs (rg (sv (EV.ld (v := .agg #[.int .i64 ((rd_T44 t1_0 0).f0), .slice A_8 ((rd_T44 t1_0 0).f1).length c_8, .slice A_9 ((rd_T44 t1_0 0).f2).length c_9, .slice A_10 ((rd_T44 t1_0 0).f3).length c_10, .int .i64 ((rd_T44 t1_0 0).f4)]) 2 (some 5) rfl rfl rfl) rfl (sv (EV.fa 2 rfl) rfl (sv (EV.ld 2 none rfl rfl rfl) rfl ?_)))))))))))
       revert H; refine bdI ?_; rintro ⟨t39_0, t39_1, t39_2, t39_3, t39_4, t39_5⟩ A39 H
       refine so rfl (op_call (impl_JoinChunk.ok k ((rd_T44 t1_0 0).f0) ((rd_T44 t1_0 0).f1) A_8 c_8 ((rd_T44 t1_0 0).f2) A_9 c_9 ((rd_T44 t1_0 0).f3) A_10 c_10 ((rd_T44 t1_0 0).f4) ((rd_T44 t1_0 0).f2) A_9 c_9 _ _ _ _ _ _ A39) [⟨0, 0, 0, false⟩, ⟨1, 0, 0, false⟩, ⟨2, 0, 0, false⟩, ⟨1, 0, 0, false⟩] 3 rfl rfl rfl rfl rfl ?_)
       rintro _ _ _ ⟨At39_0, ct39_0, At39_2, ct39_2, At39_3, ct39_3, At39_4, ct39_4, rfl, rfl, rfl⟩
       refine sv (EV.mv rfl) rfl (sv (EV.ex rfl rfl) rfl (sv (EV.ex rfl rfl) rfl (so rfl (op_alloc (cs := [.int .i64 0, .slice none 0 0, .slice none 0 0, .slice none 0 0, .int .i64 0]) (by kernel_rfl) rfl fun b12 => (sv (EV.as rfl) rfl (so rfl (op_st (cs' := [.int .i64 t39_1, .slice At39_2 t39_2.length ct39_2, .slice At39_3 t39_3.length ct39_3, .slice At39_4 t39_4.length ct39_4, .int .i64 t39_5]) 3 rfl rfl rfl rfl rfl rfl (re (pr [4, 8, 9, 10, 11, 12] [0, 1, 2, 3] [0, 1, 2, 3, 4, 5, 6, 7] rfl rfl rfl rfl (gs (rg (sv (EV.fa 2 rfl) rfl (sv (EV.ld 2 none rfl rfl rfl) rfl ?_)))))))))))))
       revert H; refine bdI ?_; rintro t40 A40 H
       refine so rfl (op_call (impl_TotalCost.ok k ((rd_T44 t1_0 0).f2) A_9 c_9 _ A40) [⟨1, 0, 0, false⟩] 8 rfl rfl rfl rfl rfl ?_)
       rintro _ _ _ ⟨rfl, rfl, rfl⟩
       refine sv (EV.as rfl) rfl (re ?_)
       refine jo (fun S => ∃ (m : Nat) (x2_11 : List S92) (Ax2_11 : Option Addr) (cx2_11 : Nat) (x2_13 : Int) (x2_4_0 : List S44) (Ax2_4_0 : Option Addr) (cx2_4_0 : Nat) (x2_4_1 : Int) (x2_4_2 : Int) (x2_8_0 : List S44) (Ax2_8_0 : Option Addr) (cx2_8_0 : Nat) (x2_8_1 : Int) (x2_8_2 : Int) (x2_12_0 : Int) (x2_12_1 : List S70) (Ax2_12_1 : Option Addr) (cx2_12_1 : Nat) (x2_12_2 : List S70) (Ax2_12_2 : Option Addr) (cx2_12_2 : Nat) (x2_12_3 : List Bool) (Ax2_12_3 : Option Addr) (cx2_12_3 : Nat) (x2_12_4 : Int), impl_StepJoiner.j0 m x2_11 x2_13 x2_4_0 x2_4_1 x2_4_2 x2_8_0 x2_8_1 x2_8_2 x2_12_0 x2_12_1 x2_12_2 x2_12_3 x2_12_4 = some (r0, r1, r2, r3, r4, r5) ∧ S = ⟨[(4, .pointer (some ⟨b4, 0, none⟩)), (8, .pointer (some ⟨b8, 0, none⟩)), (11, .slice Ax2_11 x2_11.length cx2_11), (12, .pointer (some ⟨b12, 0, none⟩)), (13, .int .i64 x2_13)], [⟨b4, 73, [.slice Ax2_4_0 x2_4_0.length cx2_4_0, .int .i64 x2_4_1, .int .i64 x2_4_2]⟩, ⟨b8, 73, [.slice Ax2_8_0 x2_8_0.length cx2_8_0, .int .i64 x2_8_1, .int .i64 x2_8_2]⟩, ⟨b12, 44, [.int .i64 x2_12_0, .slice Ax2_12_1 x2_12_1.length cx2_12_1, .slice Ax2_12_2 x2_12_2.length cx2_12_2, .slice Ax2_12_3 x2_12_3.length cx2_12_3, .int .i64 x2_12_4]⟩], [.sl 2 k92 Ax2_11 cx2_11 x2_11 1 true, .sl 2 k44 Ax2_4_0 cx2_4_0 x2_4_0 2 true, .sl 1 k44 Ax2_8_0 cx2_8_0 x2_8_0 3 true, .sl 2 k70 Ax2_12_1 cx2_12_1 x2_12_1 4 true, .sl 2 k70 Ax2_12_2 cx2_12_2 x2_12_2 5 true, .sl 2 .bool Ax2_12_3 cx2_12_3 x2_12_3 6 true]⟩) (fun S hS => ?_) (fun jh0 => ?_)
       ·
        clear H
        obtain ⟨m41, x2_11, Ax2_11, cx2_11, x2_13, x2_4_0, Ax2_4_0, cx2_4_0, x2_4_1, x2_4_2, x2_8_0, Ax2_8_0, cx2_8_0, x2_8_1, x2_8_2, x2_12_0, x2_12_1, Ax2_12_1, cx2_12_1, x2_12_2, Ax2_12_2, cx2_12_2, x2_12_3, Ax2_12_3, cx2_12_3, x2_12_4, H, rfl⟩ := hS
        rcases m41 with _ | m41
        · rw [impl_StepJoiner.j0] at H; cases H
        rw [impl_StepJoiner.j0] at H
        refine gs (dr [1, 2] [1, 2, 3, 4, 5] [8, 9] 10 rfl rfl rfl rfl (xv 0 [1, 2] [1, 2, 3, 4, 5] rfl (EV.ld (v := .agg #[.slice Ax2_8_0 x2_8_0.length cx2_8_0, .int .i64 x2_8_1, .int .i64 x2_8_2]) 0 (some 3) rfl rfl rfl) rfl rfl rfl rfl (xv 1 [1, 2] [1, 2, 3, 4, 5] rfl (EV.mv rfl) rfl rfl rfl rfl (xv 2 [1, 2] [1, 2, 3, 4, 5] rfl (EV.ld (v := .agg #[.int .i64 x2_12_0, .slice Ax2_12_1 x2_12_1.length cx2_12_1, .slice Ax2_12_2 x2_12_2.length cx2_12_2, .slice Ax2_12_3 x2_12_3.length cx2_12_3, .int .i64 x2_12_4]) 1 (some 5) rfl rfl rfl) rfl rfl rfl rfl (xv 5 [1, 2] [1, 2, 3, 4, 5] rfl (EV.mv rfl) rfl rfl rfl rfl (one1 3 rfl rfl ?_))))))
        revert H; refine bdI ?_; rintro t42 A42 H
        refine op_call (impl_UnmatchedRows.ok m41 x2_12_0 x2_12_1 Ax2_12_1 cx2_12_1 x2_12_2 Ax2_12_2 cx2_12_2 x2_12_3 Ax2_12_3 cx2_12_3 x2_12_4 _ A42) [⟨3, 0, 0, false⟩, ⟨4, 0, 0, false⟩, ⟨5, 0, 0, false⟩] 7 rfl rfl rfl rfl rfl ?_
        rintro _ _ _ ⟨At42, ct42, rfl, rfl, rfl⟩
        refine xs [1, 2] [1, 2, 3, 4, 5] rfl rfl rfl (one1 4 rfl rfl ?_)
        revert H; refine ggI ?_; intro g43 H
        refine op_app (k := k92) (s := 7) (by_ := 56) 0 6 rfl rfl rfl rfl (ap2 g43 dq) (ap2n g43 dq) (.inl rfl) true (fun _ => .inl rfl) rfl rfl fun A89_44 c89_44 => (nmE (en := [.sl 2 k44 Ax2_4_0 cx2_4_0 x2_4_0 2 true, .sl 1 k44 Ax2_8_0 cx2_8_0 x2_8_0 3 true, .sl 2 k70 Ax2_12_1 cx2_12_1 x2_12_1 4 true, .sl 2 k70 Ax2_12_2 cx2_12_2 x2_12_2 5 true, .sl 2 .bool Ax2_12_3 cx2_12_3 x2_12_3 6 true, .sl 2 k92 At42 ct42 t42 8 true, .sl 2 k92 A89_44 c89_44 (x2_11 ++ t42) 1 true]) (by kernel_rfl) (xs [1, 2] [0, 1, 2, 3, 4] rfl rfl rfl (one1 6 rfl rfl (op_st (cs' := [.slice Ax2_8_0 x2_8_0.length cx2_8_0, .int .i64 x2_8_1, .int .i64 x2_8_2]) 0 rfl rfl rfl rfl rfl rfl (xs [1, 2] [0, 1, 2, 3, 4] rfl rfl rfl (one1 7 rfl rfl (ov (EV.as rfl) rfl (xs [1, 2] [0, 1, 2, 3, 4] rfl rfl rfl (one1 8 rfl rfl (ov (EV.as rfl) rfl (xn rfl (one1 9 rfl rfl (ov (EV.as rfl) rfl (xn rfl (xd (pr [4, 5, 6, 7] [0] [1, 6] rfl rfl rfl rfl ?_))))))))))))))))
        cases H
        exact rt Try.func54 rfl (.cell 0 (some 3) rfl rfl rfl (.tmp rfl (.tmp rfl (.tmp rfl .nil)))) rfl [] [⟨0, 1, 1, true⟩, ⟨1, 2, 2, true⟩] rfl rfl rfl rfl rfl ⟨_, _, _, _, rfl, rfl, rfl⟩
       ·
        refine gs (rg (sv (EV.mv rfl) rfl (sv (EV.eql rfl rfl) rfl (re ?_))))
        revert H; refine ifsI ?_ ?_ <;> intro c45 H
        ·
         refine gt rfl (dT c45) (rg (sv (EV.fa 1 rfl) rfl (sv (EV.ld 2 none rfl rfl rfl) rfl ?_)))
         revert H; refine bdI ?_; rintro t46 A46 H
         refine so rfl (op_call (impl_TotalCost.ok k ((rd_T44 t1_0 0).f1) A_8 c_8 _ A46) [⟨0, 0, 0, false⟩] 8 rfl rfl rfl rfl rfl ?_)
         rintro _ _ _ ⟨rfl, rfl, rfl⟩
         exact sv (EV.as rfl) rfl (re (pr [4, 8, 11, 12, 13] [0, 1, 3] [3, 4, 5, 6, 7] rfl rfl rfl rfl (nil_ k44 8 dq (wk [4, 8, 11, 12, 13] [0, 1, 2] [⟨1, 2, 1, true⟩, ⟨5, 2, 2, true⟩, ⟨0, 1, 3, true⟩, ⟨2, 2, 4, true⟩, ⟨3, 2, 5, true⟩, ⟨4, 2, 6, true⟩] (jh0 _ ⟨_, t39_0, At39_0, ct39_0, t46, [], none, 0, 0, 0, t1_0.drop (1 : Int).toNat, (cutA At1_0 ct1_0 (1 : Int).toNat 5), (ct1_0 - (1 : Int).toNat), t1_1, t1_2, t39_1, t39_2, At39_2, ct39_2, t39_3, At39_3, ct39_3, t39_4, At39_4, ct39_4, t39_5, H, rfl⟩)))))
        ·
         exact gf rfl (dF c45) (gk (nil_ k44 8 dq (wk [4, 8, 11, 12, 13] [0, 1, 3] [⟨4, 2, 1, true⟩, ⟨8, 2, 2, true⟩, ⟨3, 1, 3, true⟩, ⟨5, 2, 4, true⟩, ⟨6, 2, 5, true⟩, ⟨7, 2, 6, true⟩] (jh0 _ ⟨_, t39_0, At39_0, ct39_0, t40, [], none, 0, 0, 0, t1_0.drop (1 : Int).toNat, (cutA At1_0 ct1_0 (1 : Int).toNat 5), (ct1_0 - (1 : Int).toNat), t1_1, t1_2, t39_1, t39_2, At39_2, ct39_2, t39_3, At39_3, ct39_3, t39_4, At39_4, ct39_4, t39_5, H, rfl⟩))))
   ·
    obtain rfl := bF c6
    refine gt rfl rfl (gs (rg (sv (EV.ld (v := .agg #[.slice At1_0 t1_0.length ct1_0, .int .i64 t1_1, .int .i64 t1_2]) 1 (some 3) rfl rfl rfl) rfl (so rfl (op_st (cs' := [.slice At1_0 t1_0.length ct1_0, .int .i64 t1_1, .int .i64 t1_2]) 0 rfl rfl rfl rfl rfl rfl (sv (EV.as rfl) rfl (sv (EV.as rfl) rfl (sv (EV.as rfl) rfl (re (nil_ k92 3 dq ?_))))))))))
    cases H
    exact rt Try.func54 rfl (.cell 0 (some 3) rfl rfl rfl (.tmp rfl (.tmp rfl (.tmp rfl .nil)))) rfl [] [⟨0, 1, 1, true⟩, ⟨1, 2, 2, true⟩] rfl rfl rfl rfl rfl ⟨_, _, _, _, rfl, rfl, rfl⟩
 ·
  obtain rfl := bF c3
  refine ts 26 rfl rfl (sk rfl (sk rfl (sk rfl (sk rfl (sv (EV.pt rfl rfl rfl) rfl (sv (EV.mv rfl) rfl (sk rfl (sk rfl (sk rfl (sv (EV.pt rfl rfl rfl) rfl (re (pr [1, 4, 8, 36] [1, 2] [1] rfl rfl rfl rfl (gt rfl rfl (gs (rg (sv (EV.ld (v := .agg #[.slice At1_0 t1_0.length ct1_0, .int .i64 t1_1, .int .i64 t1_2]) 1 (some 3) rfl rfl rfl) rfl (so rfl (op_st (cs' := [.slice At1_0 t1_0.length ct1_0, .int .i64 t1_1, .int .i64 t1_2]) 0 rfl rfl rfl rfl rfl rfl (sv (EV.as rfl) rfl (sv (EV.as rfl) rfl (sv (EV.as rfl) rfl (re (nil_ k92 3 dq ?_)))))))))))))))))))))))
  cases H
  exact rt Try.func54 rfl (.cell 0 (some 3) rfl rfl rfl (.tmp rfl (.tmp rfl (.tmp rfl .nil)))) rfl [] [⟨0, 1, 1, true⟩, ⟨1, 2, 2, true⟩] rfl rfl rfl rfl rfl ⟨_, _, _, _, rfl, rfl, rfl⟩
end Go.Proofs.Ytajjeemkdjfilaa.K
namespace Go.Proofs.Ytajjeemkdjfilaa.K
open Go Go.RowKit
set_option linter.unusedVariables false
set_option linter.unusedSimpArgs false
def impl_runJoiner.l0 : Nat → (List S44) → Int → Int → (List S92) → Int → Int → Int → (List S92) → Int → Int → Int → (List Int) → Option ((List S92) × Int × Int × Int × Bool)
 | 0, _, _, _, _, _, _, _, _, _, _, _, _ => none
 | k + 1, x4_2_0, x4_2_1, x4_2_2, x4_4_0, x4_4_1, x4_4_2, x4_4_3, x4_6_0, x4_6_1, x4_6_2, x4_6_3, l1 => if (x4_2_0.length : Int) > 0 then (if (l1.length : Int) ≠ 0 then (if 0 ≤ (Int.tmod x4_6_1 (l1.length : Int)) then (if (Int.tmod x4_6_1 (l1.length : Int)) < (l1.length : Int) then ((impl_StepJoiner.f k x4_2_0 x4_2_1 x4_2_2 (rdOf 0 l1 (Int.tmod x4_6_1 (l1.length : Int)))).bind fun bt5 => (if bt5.2.2.2.2.2 = true then (if x4_6_0.length + bt5.2.2.2.1.length ≤ 2513169434916 then (impl_runJoiner.l0 k bt5.1 bt5.2.1 bt5.2.2.1 x4_4_0 x4_4_1 x4_4_2 x4_4_3 (x4_6_0 ++ bt5.2.2.2.1) (wrap64 (x4_6_1 + 1)) (mx x4_6_2 bt5.2.2.2.2.1) x4_6_3 l1) else none) else (some ([], 0, 0, 0, false)))) else none) else none) else none) else (some (x4_6_0, x4_6_1, x4_6_2, x4_2_1, true))
def impl_runJoiner.f (k : Nat) (l0_0 : List S44) (a0_1 : Int) (a0_2 : Int) (l1 : List Int) : Option ((List S92) × Int × Int × Int × Bool) := impl_runJoiner.l0 k l0_0 a0_1 a0_2 [] 0 0 0 [] 0 0 0 l1
set_option maxHeartbeats 4000000 in
set_option maxRecDepth 100000 in
theorem impl_runJoiner.ok (k : Nat) (l0_0 : List S44) (Al0_0 : Option Addr) (cl0_0 : Nat) (a0_1 : Int) (a0_2 : Int) (l1 : List Int) (Al1 : Option Addr) (cl1 : Nat) (r0 : List S92) (r1 : Int) (r2 : Int) (r3 : Int) (r4 : Bool) (H : impl_runJoiner.f k l0_0 a0_1 a0_2 l1 = some (r0, r1, r2, r3, r4)) : Fn Try.prog 67 [.agg #[.slice Al0_0 l0_0.length cl0_0, .int .i64 a0_1, .int .i64 a0_2], .slice Al1 l1.length cl1] [] [.sl 0 k44 Al0_0 cl0_0 l0_0 0 false, .sl 0 (.int .i64) Al1 cl1 l1 0 false] (fun v bx en => ∃ A0 c0, v = .tuple #[.agg #[.slice A0 r0.length c0, .int .i64 r1, .int .i64 r2, .int .i64 r3], .bool r4] ∧ bx = [] ∧ en = [.sl 2 k92 A0 c0 r0 1 true]) := by
 refine fn_ 53 Try.func67 rfl rfl rfl (fun base T w0 => ?_)
 rw [impl_runJoiner.f] at H
 refine gs (rg (so rfl (op_box (cs := [.slice Al0_0 l0_0.length cl0_0, .int .i64 a0_1, .int .i64 a0_2]) rfl rfl rfl fun b2 => (so rfl (op_alloc (cs := [.slice none 0 0, .int .i64 0, .int .i64 0, .int .i64 0]) (by kernel_rfl) rfl fun b4 => (sv (EV.as rfl) rfl (re (gs (rg (sv (EV.bd (v := .agg #[.slice none 0 0, .int .i64 0, .int .i64 0, .int .i64 0]) rfl (by kernel_rfl)) rfl (so rfl (op_alloc (cs := [.slice none 0 0, .int .i64 0, .int .i64 0, .int .i64 0]) (by kernel_rfl) rfl fun b6 => (so rfl (op_st (cs' := [.slice none 0 0, .int .i64 0, .int .i64 0, .int .i64 0]) 2 rfl rfl rfl rfl rfl rfl (re (gs (gb (nil_ k92 1 dq (nil_ k92 2 dq ?_)))))))))))))))))))
 refine lo (fun kk S => ∃ (x4_2_0 : List S44) (Ax4_2_0 : Option Addr) (cx4_2_0 : Nat) (x4_2_1 : Int) (x4_2_2 : Int) (x4_4_0 : List S92) (Ax4_4_0 : Option Addr) (cx4_4_0 : Nat) (x4_4_1 : Int) (x4_4_2 : Int) (x4_4_3 : Int) (x4_6_0 : List S92) (Ax4_6_0 : Option Addr) (cx4_6_0 : Nat) (x4_6_1 : Int) (x4_6_2 : Int) (x4_6_3 : Int), impl_runJoiner.l0 kk x4_2_0 x4_2_1 x4_2_2 x4_4_0 x4_4_1 x4_4_2 x4_4_3 x4_6_0 x4_6_1 x4_6_2 x4_6_3 l1 = some (r0, r1, r2, r3, r4) ∧ S = ⟨[(1, .slice Al1 l1.length cl1), (2, .pointer (some ⟨b2, 0, none⟩)), (4, .pointer (some ⟨b4, 0, none⟩)), (6, .pointer (some ⟨b6, 0, none⟩))], [⟨b2, 73, [.slice Ax4_2_0 x4_2_0.length cx4_2_0, .int .i64 x4_2_1, .int .i64 x4_2_2]⟩, ⟨b4, 30, [.slice Ax4_4_0 x4_4_0.length cx4_4_0, .int .i64 x4_4_1, .int .i64 x4_4_2, .int .i64 x4_4_3]⟩, ⟨b6, 30, [.slice Ax4_6_0 x4_6_0.length cx4_6_0, .int .i64 x4_6_1, .int .i64 x4_6_2, .int .i64 x4_6_3]⟩], [.sl 0 k44 Ax4_2_0 cx4_2_0 x4_2_0 0 false, .sl 2 k92 Ax4_4_0 cx4_4_0 x4_4_0 1 true, .sl 2 k92 Ax4_6_0 cx4_6_0 x4_6_0 2 true, .sl 0 (.int .i64) Al1 cl1 l1 0 false]⟩) (fun S hS => ?_) (fun n0 ih0 S hS => ?_) ⟨l0_0, Al0_0, cl0_0, a0_1, a0_2, [], none, 0, 0, 0, 0, [], none, 0, 0, 0, 0, H, rfl⟩ (fun h => wk [1, 2, 4, 6] [0, 1, 2] [⟨0, 0, 0, false⟩, ⟨2, 2, 1, true⟩, ⟨3, 2, 2, true⟩, ⟨1, 0, 0, false⟩] h)
 · clear H; obtain ⟨_, _, _, _, _, _, _, _, _, _, _, _, _, _, _, _, _, H, _⟩ := hS; rw [impl_runJoiner.l0] at H; cases H
 clear H
 obtain ⟨x4_2_0, Ax4_2_0, cx4_2_0, x4_2_1, x4_2_2, x4_4_0, Ax4_4_0, cx4_4_0, x4_4_1, x4_4_2, x4_4_3, x4_6_0, Ax4_6_0, cx4_6_0, x4_6_1, x4_6_2, x4_6_3, H, rfl⟩ := hS
 rw [impl_runJoiner.l0] at H
 refine gs (gs (rg (sv (EV.fa 0 rfl) rfl (sv (EV.ld 0 none rfl rfl rfl) rfl (sv (EV.ln rfl) rfl (sv (EV.gtr rfl rfl) rfl (re ?_)))))))
 revert H; refine ifsI ?_ ?_ <;> intro c1 H
 ·
  refine gt rfl (dT c1) (gk (gb (gs ?_)))
  revert H; refine ggI ?_; intro g2 H
  refine dr [0, 1, 2] [0, 1, 2, 3] [19] 20 rfl rfl rfl rfl (xv 0 [0, 1, 2] [0, 1, 2, 3] rfl (EV.ld (v := .agg #[.slice Ax4_2_0 x4_2_0.length cx4_2_0, .int .i64 x4_2_1, .int .i64 x4_2_2]) 0 (some 3) rfl rfl rfl) rfl rfl rfl rfl (xv 1 [0, 1, 2] [0, 1, 2, 3] rfl (EV.mv rfl) rfl rfl rfl rfl (xv 2 [0, 1, 2] [0, 1, 2, 3] rfl (EV.fa 1 rfl) rfl rfl rfl rfl (xv 3 [0, 1, 2] [0, 1, 2, 3] rfl (EV.ld 2 none rfl rfl rfl) rfl rfl rfl rfl (xv 4 [0, 1, 2] [0, 1, 2, 3] rfl (EV.mv rfl) rfl rfl rfl rfl (xv 5 [0, 1, 2] [0, 1, 2, 3] rfl (EV.ln rfl) rfl rfl rfl rfl (xv 6 [0, 1, 2] [0, 1, 2, 3] rfl (EV.rem rfl rfl g2) rfl rfl rfl rfl ?_)))))))
  revert H; refine ggI ?_; intro g3 H
  revert H; refine ggI ?_; intro g4 H
  refine xv 7 [0, 1, 2] [0, 1, 2, 3] rfl (EV.ix 3 rfl rfl rfl g3 g4 rfl) rfl rfl rfl rfl (xv 8 [0, 1, 2] [0, 1, 2, 3] rfl (EV.le (v := .int .i64 (rdOf 0 l1 (Int.tmod x4_6_1 (l1.length : Int)))) (Int.tmod x4_6_1 (l1.length : Int)) 0 none 3 0 rfl rfl rfl g3 g4 rfl rfl rfl) rfl rfl rfl rfl ?_)
  refine one2 9 15 rfl rfl rfl rfl ?_ ?_
  ·
   revert H; refine bdI ?_; rintro ⟨t5_0, t5_1, t5_2, t5_3, t5_4, t5_5⟩ A5 H
   refine op_call (impl_StepJoiner.ok n0 x4_2_0 Ax4_2_0 cx4_2_0 x4_2_1 x4_2_2 (rdOf 0 l1 (Int.tmod x4_6_1 (l1.length : Int))) _ _ _ _ _ _ A5) [⟨0, 0, 0, false⟩] 3 rfl rfl rfl rfl rfl ?_
   rintro _ _ _ ⟨At5_0, ct5_0, At5_3, ct5_3, rfl, rfl, rfl⟩
   refine xs [0, 1, 2] [0, 1, 2, 3] rfl rfl rfl (xv 10 [0, 1, 2] [0, 1, 2, 3] rfl (EV.mv rfl) rfl rfl rfl rfl (xv 11 [0, 1, 2] [0, 1, 2, 3] rfl (EV.ex rfl rfl) rfl rfl rfl rfl (xv 12 [0, 1, 2] [0, 1, 2, 3] rfl (EV.ex rfl rfl) rfl rfl rfl rfl (xv 13 [0, 1, 2] [0, 1, 2, 3] rfl (EV.ex rfl rfl) rfl rfl rfl rfl (xv 14 [0, 1, 2] [0, 1, 2, 3] rfl (EV.ex rfl rfl) rfl rfl rfl rfl (one1 15 rfl rfl (op_alloc (cs := [.slice none 0 0, .int .i64 0, .int .i64 0]) (by kernel_rfl) rfl fun b7 => (xs [0, 1, 2] [0, 1, 2, 3] rfl rfl rfl (one1 16 rfl rfl (op_st (cs' := [.slice At5_0 t5_0.length ct5_0, .int .i64 t5_1, .int .i64 t5_2]) 3 rfl rfl rfl rfl rfl rfl (xs [0, 1, 2] [0, 1, 2, 3] rfl rfl rfl (one1 17 rfl rfl (ov (EV.as rfl) rfl (xs [0, 1, 2] [0, 1, 2, 3] rfl rfl rfl (one1 18 rfl rfl (ov (EV.as rfl) rfl (xs [0, 1, 2] [0, 1, 2, 3] rfl rfl rfl (one1 19 rfl rfl (ov (EV.as rfl) rfl (xn rfl (xd (pr [1, 2, 4, 6, 7, 8, 9, 10] [0, 1, 2, 3] [0, 1, 2, 3, 4, 5] rfl rfl rfl rfl (gs (gs (rg (sv (EV.mv rfl) rfl (sv (EV.nt rfl) rfl (re ?_))))))))))))))))))))))))))))
   revert H; refine ifsI ?_ ?_ <;> intro c6 H
   ·
    subst c6
    refine gf rfl rfl (gk (gs (rg (sv (EV.ld (v := .agg #[.slice At5_0 t5_0.length ct5_0, .int .i64 t5_1, .int .i64 t5_2]) 3 (some 3) rfl rfl rfl) rfl (so rfl (op_st (cs' := [.slice At5_0 t5_0.length ct5_0, .int .i64 t5_1, .int .i64 t5_2]) 0 rfl rfl rfl rfl rfl rfl (re (gs (rg (sv (EV.fa 0 rfl) rfl (sv (EV.ld 2 none rfl rfl rfl) rfl (sv (EV.mv rfl) rfl ?_))))))))))))
    revert H; refine ggI ?_; intro g7 H
    exact so rfl (op_app (k := k92) (s := 7) (by_ := 56) 2 5 rfl rfl rfl rfl (ap2 g7 dq) (ap2n g7 dq) (.inl rfl) true (fun _ => .inl rfl) rfl rfl fun A38_8 c38_8 => (nmE (en := [.sl 0 k44 Ax4_2_0 cx4_2_0 x4_2_0 0 false, .sl 2 k92 Ax4_4_0 cx4_4_0 x4_4_0 1 true, .sl 0 (.int .i64) Al1 cl1 l1 0 false, .sl 1 k44 At5_0 ct5_0 t5_0 4 true, .sl 2 k92 At5_3 ct5_3 t5_3 5 true, .sl 2 k92 A38_8 c38_8 (x4_6_0 ++ t5_3) 2 true]) (by kernel_rfl) (sv (EV.fa 0 rfl) rfl (so rfl (op_st (cs' := [.slice A38_8 (x4_6_0 ++ t5_3).length c38_8, .int .i64 x4_6_1, .int .i64 x4_6_2, .int .i64 x4_6_3]) 2 rfl rfl rfl rfl rfl rfl (re (pr [1, 2, 4, 6, 9] [0, 1, 2] [1, 2, 3, 5] rfl rfl rfl rfl (gs (rg (sv (EV.fa 1 rfl) rfl (sv (EV.ld 2 none rfl rfl rfl) rfl (sv (EV.add rfl rfl) rfl (sv (EV.fa 1 rfl) rfl (so rfl (op_st (cs' := [.slice A38_8 (x4_6_0 ++ t5_3).length c38_8, .int .i64 (wrap64 (x4_6_1 + 1)), .int .i64 x4_6_2, .int .i64 x4_6_3]) 2 rfl rfl rfl rfl rfl rfl (re (rg (sv (EV.fa 2 rfl) rfl (sv (EV.ld 2 none rfl rfl rfl) rfl (sv (EV.mv rfl) rfl (sv (EV.mx rfl rfl) rfl (sv (EV.fa 2 rfl) rfl (so rfl (op_st (cs' := [.slice A38_8 (x4_6_0 ++ t5_3).length c38_8, .int .i64 (wrap64 (x4_6_1 + 1)), .int .i64 (mx x4_6_2 t5_4), .int .i64 x4_6_3]) 2 rfl rfl rfl rfl rfl rfl (re (pr [1, 2, 4, 6] [0, 1, 2] [0, 1, 2, 3] rfl rfl rfl rfl (ge (wk [1, 2, 4, 6] [0, 1, 2] [⟨2, 0, 0, false⟩, ⟨0, 2, 1, true⟩, ⟨3, 2, 2, true⟩, ⟨1, 0, 0, false⟩] (ih0 _ (by omega) _ ⟨t5_0, At5_0, ct5_0, t5_1, t5_2, x4_4_0, Ax4_4_0, cx4_4_0, x4_4_1, x4_4_2, x4_4_3, x4_6_0 ++ t5_3, A38_8, c38_8, wrap64 (x4_6_1 + 1), mx x4_6_2 t5_4, x4_6_3, H, rfl⟩)))))))))))))))))))))))))))))
   ·
    obtain rfl := bF c6
    refine gt rfl rfl (gs (rg (sv (EV.bd (v := .agg #[.slice none 0 0, .int .i64 0, .int .i64 0, .int .i64 0]) rfl (by kernel_rfl)) rfl (so rfl (op_st (cs' := [.slice none 0 0, .int .i64 0, .int .i64 0, .int .i64 0]) 1 rfl rfl rfl rfl rfl rfl (sv (EV.as rfl) rfl (re (pr [4, 5] [1] [] rfl rfl rfl rfl (nil_ k92 1 dq ?_)))))))))
    cases H
    exact rt Try.func67 rfl (.cell 0 (some 4) rfl rfl rfl (.tmp rfl .nil)) rfl [] [⟨0, 2, 1, true⟩] rfl rfl rfl rfl rfl ⟨_, _, rfl, rfl, rfl⟩
  ·
   refine op_alloc (cs := [.slice none 0 0, .int .i64 0, .int .i64 0]) (by kernel_rfl) rfl fun b7 => (xs [0, 1, 2] [0, 1, 2, 3] rfl rfl rfl (one1 9 rfl rfl ?_))
   revert H; refine bdI ?_; rintro ⟨t9_0, t9_1, t9_2, t9_3, t9_4, t9_5⟩ A9 H
   refine op_call (impl_StepJoiner.ok n0 x4_2_0 Ax4_2_0 cx4_2_0 x4_2_1 x4_2_2 (rdOf 0 l1 (Int.tmod x4_6_1 (l1.length : Int))) _ _ _ _ _ _ A9) [⟨0, 0, 0, false⟩] 3 rfl rfl rfl rfl rfl ?_
   rintro _ _ _ ⟨At9_0, ct9_0, At9_3, ct9_3, rfl, rfl, rfl⟩
   refine xs [0, 1, 2] [0, 1, 2, 3] rfl rfl rfl (xv 10 [0, 1, 2] [0, 1, 2, 3] rfl (EV.mv rfl) rfl rfl rfl rfl (xv 11 [0, 1, 2] [0, 1, 2, 3] rfl (EV.ex rfl rfl) rfl rfl rfl rfl (xv 12 [0, 1, 2] [0, 1, 2, 3] rfl (EV.ex rfl rfl) rfl rfl rfl rfl (xv 13 [0, 1, 2] [0, 1, 2, 3] rfl (EV.ex rfl rfl) rfl rfl rfl rfl (xv 14 [0, 1, 2] [0, 1, 2, 3] rfl (EV.ex rfl rfl) rfl rfl rfl rfl (one1 16 rfl rfl (op_st (cs' := [.slice At9_0 t9_0.length ct9_0, .int .i64 t9_1, .int .i64 t9_2]) 3 rfl rfl rfl rfl rfl rfl (xs [0, 1, 2] [0, 1, 2, 3] rfl rfl rfl (one1 17 rfl rfl (ov (EV.as rfl) rfl (xs [0, 1, 2] [0, 1, 2, 3] rfl rfl rfl (one1 18 rfl rfl (ov (EV.as rfl) rfl (xs [0, 1, 2] [0, 1, 2, 3] rfl rfl rfl (one1 19 rfl rfl (ov (EV.as rfl) rfl (xn rfl (xd (pr [1, 2, 4, 6, 7, 8, 9, 10] [0, 1, 2, 3] [0, 1, 2, 3, 4, 5] rfl rfl rfl rfl (gs (gs (rg (sv (EV.mv rfl) rfl (sv (EV.nt rfl) rfl (re ?_)))))))))))))))))))))))))
   revert H; refine ifsI ?_ ?_ <;> intro c10 H
   ·
    subst c10
    refine gf rfl rfl (gk (gs (rg (sv (EV.ld (v := .agg #[.slice At9_0 t9_0.length ct9_0, .int .i64 t9_1, .int .i64 t9_2]) 3 (some 3) rfl rfl rfl) rfl (so rfl (op_st (cs' := [.slice At9_0 t9_0.length ct9_0, .int .i64 t9_1, .int .i64 t9_2]) 0 rfl rfl rfl rfl rfl rfl (re (gs (rg (sv (EV.fa 0 rfl) rfl (sv (EV.ld 2 none rfl rfl rfl) rfl (sv (EV.mv rfl) rfl ?_))))))))))))
    revert H; refine ggI ?_; intro g11 H
    exact so rfl (op_app (k := k92) (s := 7) (by_ := 56) 2 5 rfl rfl rfl rfl (ap2 g11 dq) (ap2n g11 dq) (.inl rfl) true (fun _ => .inl rfl) rfl rfl fun A38_12 c38_12 => (nmE (en := [.sl 0 k44 Ax4_2_0 cx4_2_0 x4_2_0 0 false, .sl 2 k92 Ax4_4_0 cx4_4_0 x4_4_0 1 true, .sl 0 (.int .i64) Al1 cl1 l1 0 false, .sl 1 k44 At9_0 ct9_0 t9_0 4 true, .sl 2 k92 At9_3 ct9_3 t9_3 5 true, .sl 2 k92 A38_12 c38_12 (x4_6_0 ++ t9_3) 2 true]) (by kernel_rfl) (sv (EV.fa 0 rfl) rfl (so rfl (op_st (cs' := [.slice A38_12 (x4_6_0 ++ t9_3).length c38_12, .int .i64 x4_6_1, .int .i64 x4_6_2, .int .i64 x4_6_3]) 2 rfl rfl rfl rfl rfl rfl (re (pr [1, 2, 4, 6, 9] [0, 1, 2] [1, 2, 3, 5] rfl rfl rfl rfl (gs (rg (sv (EV.fa 1 rfl) rfl (sv (EV.ld 2 none rfl rfl rfl) rfl (sv (EV.add rfl rfl) rfl (sv (EV.fa 1 rfl) rfl (so rfl (op_st (cs' := [.slice A38_12 (x4_6_0 ++ t9_3).length c38_12, .int .i64 (wrap64 (x4_6_1 + 1)), .int .i64 x4_6_2, .int .i64 x4_6_3]) 2 rfl rfl rfl rfl rfl rfl (re (rg (sv (EV.fa 2 rfl) rfl (sv (EV.ld 2 none rfl rfl rfl) rfl (sv (EV.mv rfl) rfl (sv (EV.mx rfl rfl) rfl (sv (EV.fa 2 rfl) rfl (so rfl (op_st (cs' := [.slice A38_12 (x4_6_0 ++ t9_3).length c38_12, .int .i64 (wrap64 (x4_6_1 + 1)), .int .i64 (mx x4_6_2 t9_4), .int .i64 x4_6_3]) 2 rfl rfl rfl rfl rfl rfl (re (pr [1, 2, 4, 6] [0, 1, 2] [0, 1, 2, 3] rfl rfl rfl rfl (ge (wk [1, 2, 4, 6] [0, 1, 2] [⟨2, 0, 0, false⟩, ⟨0, 2, 1, true⟩, ⟨3, 2, 2, true⟩, ⟨1, 0, 0, false⟩] (ih0 _ (by omega) _ ⟨t9_0, At9_0, ct9_0, t9_1, t9_2, x4_4_0, Ax4_4_0, cx4_4_0, x4_4_1, x4_4_2, x4_4_3, x4_6_0 ++ t9_3, A38_12, c38_12, wrap64 (x4_6_1 + 1), mx x4_6_2 t9_4, x4_6_3, H, rfl⟩)))))))))))))))))))))))))))))
   ·
    obtain rfl := bF c10
    refine gt rfl rfl (gs (rg (sv (EV.bd (v := .agg #[.slice none 0 0, .int .i64 0, .int .i64 0, .int .i64 0]) rfl (by kernel_rfl)) rfl (so rfl (op_st (cs' := [.slice none 0 0, .int .i64 0, .int .i64 0, .int .i64 0]) 1 rfl rfl rfl rfl rfl rfl (sv (EV.as rfl) rfl (re (pr [4, 5] [1] [] rfl rfl rfl rfl (nil_ k92 1 dq ?_)))))))))
    cases H
    exact rt Try.func67 rfl (.cell 0 (some 4) rfl rfl rfl (.tmp rfl .nil)) rfl [] [⟨0, 2, 1, true⟩] rfl rfl rfl rfl rfl ⟨_, _, rfl, rfl, rfl⟩
 ·
  refine gf rfl (dF c1) (gx rfl (gs (rg (sv (EV.fa 1 rfl) rfl (sv (EV.ld 0 none rfl rfl rfl) rfl (sv (EV.fa 3 rfl) rfl (so rfl (op_st (cs' := [.slice Ax4_6_0 x4_6_0.length cx4_6_0, .int .i64 x4_6_1, .int .i64 x4_6_2, .int .i64 x4_2_1]) 2 rfl rfl rfl rfl rfl rfl (re (pr [4, 6] [1, 2] [1, 2] rfl rfl rfl rfl (gs (rg (sv (EV.ld (v := .agg #[.slice Ax4_6_0 x4_6_0.length cx4_6_0, .int .i64 x4_6_1, .int .i64 x4_6_2, .int .i64 x4_2_1]) 1 (some 4) rfl rfl rfl) rfl (so rfl (op_st (cs' := [.slice Ax4_6_0 x4_6_0.length cx4_6_0, .int .i64 x4_6_1, .int .i64 x4_6_2, .int .i64 x4_2_1]) 0 rfl rfl rfl rfl rfl rfl (sv (EV.as rfl) rfl (re ?_)))))))))))))))))
  cases H
  exact rt Try.func67 rfl (.cell 0 (some 4) rfl rfl rfl (.tmp rfl .nil)) rfl [] [⟨1, 2, 1, true⟩] rfl rfl rfl rfl rfl ⟨_, _, rfl, rfl, rfl⟩
end Go.Proofs.Ytajjeemkdjfilaa.K
namespace Go.Proofs.Ytajjeemkdjfilaa.K
open Go Go.RowKit
set_option linter.unusedVariables false
set_option linter.unusedSimpArgs false
def impl_RunJoin.f (k : Nat) (a0 : Int) (l1 : List S70) (l2 : List S70) (l3 : List Int) : Option ((List S92) × Int × Int × Int × Bool) := (impl_NewJoiner.f k a0 l1 l2).bind fun bt1 => (if bt1.2.2.2 = true then ((impl_areGrants.f k l3).bind fun t3 => (if t3 = true then ((impl_runJoiner.f k bt1.1 bt1.2.1 bt1.2.2.1 l3).bind fun bt5 => (some (bt5.1, bt5.2.1, bt5.2.2.1, bt5.2.2.2.1, bt5.2.2.2.2))) else (some ([], 0, 0, 0, false)))) else (some ([], 0, 0, 0, false)))
set_option maxHeartbeats 4000000 in
set_option maxRecDepth 100000 in
theorem impl_RunJoin.ok (k : Nat) (a0 : Int) (l1 : List S70) (Al1 : Option Addr) (cl1 : Nat) (l2 : List S70) (Al2 : Option Addr) (cl2 : Nat) (l3 : List Int) (Al3 : Option Addr) (cl3 : Nat) (r0 : List S92) (r1 : Int) (r2 : Int) (r3 : Int) (r4 : Bool) (H : impl_RunJoin.f k a0 l1 l2 l3 = some (r0, r1, r2, r3, r4)) : Fn Try.prog 11 [.int .i64 a0, .slice Al1 l1.length cl1, .slice Al2 l2.length cl2, .slice Al3 l3.length cl3] [] [.sl 0 k70 Al1 cl1 l1 0 false, .sl 0 k70 Al2 cl2 l2 0 false, .sl 0 (.int .i64) Al3 cl3 l3 0 false] (fun v bx en => ∃ A0 c0, v = .tuple #[.agg #[.slice A0 r0.length c0, .int .i64 r1, .int .i64 r2, .int .i64 r3], .bool r4] ∧ bx = [] ∧ en = [.sl 2 k92 A0 c0 r0 1 true]) := by
 refine fn_ 32 Try.func11 rfl rfl rfl (fun base T w0 => ?_)
 rw [impl_RunJoin.f] at H
 refine gs (rg (so rfl (op_alloc (cs := [.slice none 0 0, .int .i64 0, .int .i64 0, .int .i64 0]) (by kernel_rfl) rfl fun b8 => (sv (EV.as rfl) rfl (re (gs (rg (sv (EV.mv rfl) rfl (sv (EV.mv rfl) rfl (sv (EV.mv rfl) rfl ?_))))))))))
 revert H; refine bdI ?_; rintro ⟨t1_0, t1_1, t1_2, t1_3⟩ A1 H
 refine so rfl (op_call (impl_NewJoiner.ok k a0 l1 Al1 cl1 l2 Al2 cl2 _ _ _ _ A1) [⟨0, 0, 0, false⟩, ⟨1, 0, 0, false⟩] 1 rfl rfl rfl rfl rfl ?_)
 rintro _ _ _ ⟨At1_0, ct1_0, rfl, rfl, rfl⟩
 refine sv (EV.mv rfl) rfl (sv (EV.ex rfl rfl) rfl (sv (EV.ex rfl rfl) rfl (so rfl (op_alloc (cs := [.slice none 0 0, .int .i64 0, .int .i64 0]) (by kernel_rfl) rfl fun b10 => (so rfl (op_st (cs' := [.slice At1_0 t1_0.length ct1_0, .int .i64 t1_1, .int .i64 t1_2]) 1 rfl rfl rfl rfl rfl rfl (sv (EV.as rfl) rfl (re (pr [3, 8, 10, 11] [0, 1] [2, 3] rfl rfl rfl rfl (gs (gs (rg (sv (EV.mv rfl) rfl (sv (EV.nt rfl) rfl (sv (EV.mv rfl) rfl ?_)))))))))))))))
 revert H; refine ifsI ?_ ?_ <;> intro c2 H
 ·
  subst c2
  refine ts 21 rfl rfl (sv (EV.mv rfl) rfl ?_)
  revert H; refine bdI ?_; rintro t3 A3 H
  refine so rfl (op_call (impl_areGrants.ok k l3 Al3 cl3 _ A3) [⟨0, 0, 0, false⟩] 3 rfl rfl rfl rfl rfl ?_)
  rintro _ _ _ ⟨rfl, rfl, rfl⟩
  refine sv (EV.nt rfl) rfl (sv (EV.pf rfl rfl rfl) rfl (re (pr [3, 8, 10, 25] [0, 1] [0, 1] rfl rfl rfl rfl ?_)))
  revert H; refine ifsI ?_ ?_ <;> intro c4 H
  ·
   subst c4
   refine gf rfl rfl (gk (gs (rg (sv (EV.ld (v := .agg #[.slice At1_0 t1_0.length ct1_0, .int .i64 t1_1, .int .i64 t1_2]) 1 (some 3) rfl rfl rfl) rfl (sv (EV.mv rfl) rfl ?_)))))
   revert H; refine bdI ?_; rintro ⟨t5_0, t5_1, t5_2, t5_3, t5_4⟩ A5 H
   refine so rfl (op_call (impl_runJoiner.ok k t1_0 At1_0 ct1_0 t1_1 t1_2 l3 Al3 cl3 _ _ _ _ _ A5) [⟨1, 0, 0, false⟩, ⟨0, 0, 0, false⟩] 3 rfl rfl rfl rfl rfl ?_)
   rintro _ _ _ ⟨At5_0, ct5_0, rfl, rfl, rfl⟩
   refine sv (EV.ex rfl rfl) rfl (sv (EV.ex rfl rfl) rfl (so rfl (op_st (cs' := [.slice At5_0 t5_0.length ct5_0, .int .i64 t5_1, .int .i64 t5_2, .int .i64 t5_3]) 0 rfl rfl rfl rfl rfl rfl (sv (EV.as rfl) rfl (re (pr [8, 9] [0] [2] rfl rfl rfl rfl ?_))))))
   cases H
   exact rt Try.func11 rfl (.cell 0 (some 4) rfl rfl rfl (.tmp rfl .nil)) rfl [] [⟨0, 2, 1, true⟩] rfl rfl rfl rfl rfl ⟨_, _, rfl, rfl, rfl⟩
  ·
   obtain rfl := bF c4
   refine gt rfl rfl (gs (rg (sv (EV.bd (v := .agg #[.slice none 0 0, .int .i64 0, .int .i64 0, .int .i64 0]) rfl (by kernel_rfl)) rfl (so rfl (op_st (cs' := [.slice none 0 0, .int .i64 0, .int .i64 0, .int .i64 0]) 0 rfl rfl rfl rfl rfl rfl (sv (EV.as rfl) rfl (re (nil_ k92 3 dq ?_))))))))
   cases H
   exact rt Try.func11 rfl (.cell 0 (some 4) rfl rfl rfl (.tmp rfl .nil)) rfl [] [⟨2, 2, 1, true⟩] rfl rfl rfl rfl rfl ⟨_, _, rfl, rfl, rfl⟩
 ·
  obtain rfl := bF c2
  refine ts 21 rfl rfl (sk rfl (sk rfl (sk rfl (sv (EV.pt rfl rfl rfl) rfl (re (pr [3, 8, 10, 25] [0, 1] [0, 1] rfl rfl rfl rfl (gt rfl rfl (gs (rg (sv (EV.bd (v := .agg #[.slice none 0 0, .int .i64 0, .int .i64 0, .int .i64 0]) rfl (by kernel_rfl)) rfl (so rfl (op_st (cs' := [.slice none 0 0, .int .i64 0, .int .i64 0, .int .i64 0]) 0 rfl rfl rfl rfl rfl rfl (sv (EV.as rfl) rfl (re (nil_ k92 3 dq ?_)))))))))))))))
  cases H
  exact rt Try.func11 rfl (.cell 0 (some 4) rfl rfl rfl (.tmp rfl .nil)) rfl [] [⟨2, 2, 1, true⟩] rfl rfl rfl rfl rfl ⟨_, _, rfl, rfl, rfl⟩
end Go.Proofs.Ytajjeemkdjfilaa.K
namespace Go.Proofs.Ytajjeemkdjfilaa.K
open Go Go.RowKit
set_option linter.unusedVariables false
set_option linter.unusedSimpArgs false
def spec_l1In.f (a0 : Int) (a1 : Int) (a2 : Int) : Option (Bool) := if a0 ≥ a1 then (some (decide (a0 ≤ a2))) else (some false)
set_option maxHeartbeats 4000000 in
set_option maxRecDepth 100000 in
theorem spec_l1In.ok (a0 : Int) (a1 : Int) (a2 : Int) (r0 : Bool) (H : spec_l1In.f a0 a1 a2 = some r0) : Fn Try.prog 72 [.int .i64 a0, .int .i64 a1, .int .i64 a2] [] [] (fun v bx en => v = .bool r0 ∧ bx = [] ∧ en = []) := by
 refine fn_ 15 Try.func72 rfl rfl rfl (fun base T w0 => ?_)
 rw [spec_l1In.f] at H
 refine gs (rg (sv (EV.as rfl) rfl (re (gs (rg (sv (EV.mv rfl) rfl (sv (EV.mv rfl) rfl (sv (EV.geq rfl rfl) rfl (sv (EV.mv rfl) rfl ?_)))))))))
 revert H; refine ifsI ?_ ?_ <;> intro c1 H
 ·
  refine ts 10 rfl (dT c1) (sv (EV.mv rfl) rfl (sv (EV.mv rfl) rfl (sv (EV.leq rfl rfl) rfl (sv (EV.pt rfl rfl rfl) rfl (sv (EV.as rfl) rfl (re (pr [6] [] [] rfl rfl rfl rfl ?_)))))))
  cases H
  exact rt Try.func72 rfl (.tmp rfl .nil) rfl [] [] rfl rfl rfl rfl rfl ⟨rfl, rfl, rfl⟩
 ·
  refine ts 10 rfl (dF c1) (sk rfl (sk rfl (sk rfl (sv (EV.pf rfl rfl rfl) rfl (sv (EV.as rfl) rfl (re (pr [6] [] [] rfl rfl rfl rfl ?_)))))))
  cases H
  exact rt Try.func72 rfl (.tmp rfl .nil) rfl [] [] rfl rfl rfl rfl rfl ⟨rfl, rfl, rfl⟩
end Go.Proofs.Ytajjeemkdjfilaa.K
namespace Go.Proofs.Ytajjeemkdjfilaa.K
open Go Go.RowKit
set_option linter.unusedVariables false
set_option linter.unusedSimpArgs false
def spec_IsValidJoinKind.f (a0 : Int) : Option (Bool) := (spec_l1In.f a0 1 4).bind fun t1 => (some t1)
set_option maxHeartbeats 4000000 in
set_option maxRecDepth 100000 in
theorem spec_IsValidJoinKind.ok (a0 : Int) (r0 : Bool) (H : spec_IsValidJoinKind.f a0 = some r0) : Fn Try.prog 14 [.int .i64 a0] [] [] (fun v bx en => v = .bool r0 ∧ bx = [] ∧ en = []) := by
 refine fn_ 5 Try.func14 rfl rfl rfl (fun base T w0 => ?_)
 rw [spec_IsValidJoinKind.f] at H
 refine gs (rg (sv (EV.as rfl) rfl (re (gs (rg (sv (EV.mv rfl) rfl ?_))))))
 revert H; refine bdI ?_; rintro t1 A1 H
 refine so rfl (op_call (spec_l1In.ok a0 1 4 _ A1) [] 1 rfl rfl rfl rfl rfl ?_)
 rintro _ _ _ ⟨rfl, rfl, rfl⟩
 refine sv (EV.as rfl) rfl (re ?_)
 cases H
 exact rt Try.func14 rfl (.tmp rfl .nil) rfl [] [] rfl rfl rfl rfl rfl ⟨rfl, rfl, rfl⟩
end Go.Proofs.Ytajjeemkdjfilaa.K
namespace Go.Proofs.Ytajjeemkdjfilaa.K
open Go Go.RowKit
set_option linter.unusedVariables false
set_option linter.unusedSimpArgs false
def spec_IsValidRow.f (a0_0 : Int) (a0_1 : Int) (a0_2 : Int) : Option (Bool) := (spec_l1In.f a0_0 0 9).bind fun t1 => (if t1 = true then ((spec_l1In.f a0_1 0 99).bind fun t3 => (if t3 = true then ((spec_l1In.f a0_2 0 3).bind fun t5 => (some t5)) else (some false))) else (some false))
set_option maxHeartbeats 4000000 in
set_option maxRecDepth 100000 in
theorem spec_IsValidRow.ok (a0_0 : Int) (a0_1 : Int) (a0_2 : Int) (r0 : Bool) (H : spec_IsValidRow.f a0_0 a0_1 a0_2 = some r0) : Fn Try.prog 73 [.agg #[.int .i64 a0_0, .int .i64 a0_1, .int .i64 a0_2]] [] [] (fun v bx en => v = .bool r0 ∧ bx = [] ∧ en = []) := by
 refine fn_ 16 Try.func73 rfl rfl rfl (fun base T w0 => ?_)
 rw [spec_IsValidRow.f] at H
 refine gs (rg (so rfl (op_box (cs := [.int .i64 a0_0, .int .i64 a0_1, .int .i64 a0_2]) rfl rfl rfl fun b1 => (sv (EV.as rfl) rfl (re (gs (rg (sv (EV.fa 0 rfl) rfl (sv (EV.ld 0 none rfl rfl rfl) rfl ?_)))))))))
 revert H; refine bdI ?_; rintro t1 A1 H
 refine so rfl (op_call (spec_l1In.ok a0_0 0 9 _ A1) [] 1 rfl rfl rfl rfl rfl ?_)
 rintro _ _ _ ⟨rfl, rfl, rfl⟩
 refine sv (EV.mv rfl) rfl ?_
 revert H; refine ifsI ?_ ?_ <;> intro c2 H
 ·
  subst c2
  refine ts 6 rfl rfl (sv (EV.fa 1 rfl) rfl (sv (EV.ld 0 none rfl rfl rfl) rfl ?_))
  revert H; refine bdI ?_; rintro t3 A3 H
  refine so rfl (op_call (spec_l1In.ok a0_1 0 99 _ A3) [] 1 rfl rfl rfl rfl rfl ?_)
  rintro _ _ _ ⟨rfl, rfl, rfl⟩
  refine sv (EV.pt rfl rfl rfl) rfl (sv (EV.mv rfl) rfl ?_)
  revert H; refine ifsI ?_ ?_ <;> intro c4 H
  ·
   subst c4
   refine ts 11 rfl rfl (sv (EV.fa 2 rfl) rfl (sv (EV.ld 0 none rfl rfl rfl) rfl ?_))
   revert H; refine bdI ?_; rintro t5 A5 H
   refine so rfl (op_call (spec_l1In.ok a0_2 0 3 _ A5) [] 1 rfl rfl rfl rfl rfl ?_)
   rintro _ _ _ ⟨rfl, rfl, rfl⟩
   refine sv (EV.pt rfl rfl rfl) rfl (sv (EV.as rfl) rfl (re (pr [2] [] [] rfl rfl rfl rfl ?_)))
   cases H
   exact rt Try.func73 rfl (.tmp rfl .nil) rfl [] [] rfl rfl rfl rfl rfl ⟨rfl, rfl, rfl⟩
  ·
   obtain rfl := bF c4
   refine ts 11 rfl rfl (sk rfl (sk rfl (sk rfl (sv (EV.pf rfl rfl rfl) rfl (sv (EV.as rfl) rfl (re (pr [2] [] [] rfl rfl rfl rfl ?_)))))))
   cases H
   exact rt Try.func73 rfl (.tmp rfl .nil) rfl [] [] rfl rfl rfl rfl rfl ⟨rfl, rfl, rfl⟩
 ·
  obtain rfl := bF c2
  refine ts 6 rfl rfl (sk rfl (sk rfl (sk rfl (sv (EV.pf rfl rfl rfl) rfl (sv (EV.mv rfl) rfl (sk rfl (sk rfl (sk rfl (sv (EV.pf rfl rfl rfl) rfl (sv (EV.as rfl) rfl (re (pr [2] [] [] rfl rfl rfl rfl ?_))))))))))))
  cases H
  exact rt Try.func73 rfl (.tmp rfl .nil) rfl [] [] rfl rfl rfl rfl rfl ⟨rfl, rfl, rfl⟩
end Go.Proofs.Ytajjeemkdjfilaa.K
namespace Go.Proofs.Ytajjeemkdjfilaa.K
open Go Go.RowKit
set_option linter.unusedVariables false
set_option linter.unusedSimpArgs false
def spec_AreValidRows.l0 : Nat → Int → (List S70) → Option (Bool)
 | 0, _, _ => none
 | k + 1, x2_3, l0 => if x2_3 < (l0.length : Int) then (if 0 ≤ x2_3 then ((spec_IsValidRow.f ((rd_T70 l0 x2_3).f0) ((rd_T70 l0 x2_3).f1) ((rd_T70 l0 x2_3).f2)).bind fun t3 => (if t3 = true then (spec_AreValidRows.l0 k (wrap64 (x2_3 + 1)) l0) else (some false))) else none) else (some (decide ((l0.length : Int) ≤ 24)))
def spec_AreValidRows.f (k : Nat) (l0 : List S70) : Option (Bool) := spec_AreValidRows.l0 k 0 l0
set_option maxHeartbeats 4000000 in
set_option maxRecDepth 100000 in
theorem spec_AreValidRows.ok (k : Nat) (l0 : List S70) (Al0 : Option Addr) (cl0 : Nat) (r0 : Bool) (H : spec_AreValidRows.f k l0 = some r0) : Fn Try.prog 15 [.slice Al0 l0.length cl0] [] [.sl 0 k70 Al0 cl0 l0 0 false] (fun v bx en => v = .bool r0 ∧ bx = [] ∧ en = []) := by
 refine fn_ 19 Try.func15 rfl rfl rfl (fun base T w0 => ?_)
 rw [spec_AreValidRows.f] at H
 refine gs (rg (sv (EV.as rfl) rfl (re (gs (gs (rg (sv (EV.as rfl) rfl (re (gb ?_)))))))))
 refine lo (fun kk S => ∃ (x2_3 : Int), spec_AreValidRows.l0 kk x2_3 l0 = some r0 ∧ S = ⟨[(0, .slice Al0 l0.length cl0), (3, .int .i64 x2_3)], [], [.sl 0 k70 Al0 cl0 l0 0 false]⟩) (fun S hS => ?_) (fun n0 ih0 S hS => ?_) ⟨0, H, rfl⟩ (fun h => wk [0, 3] [] [⟨0, 0, 0, false⟩] h)
 · clear H; obtain ⟨_, H, _⟩ := hS; rw [spec_AreValidRows.l0] at H; cases H
 clear H
 obtain ⟨x2_3, H, rfl⟩ := hS
 rw [spec_AreValidRows.l0] at H
 refine gs (gs (rg (sv (EV.mv rfl) rfl (sv (EV.mv rfl) rfl (sv (EV.ln rfl) rfl (sv (EV.lss rfl rfl) rfl (re ?_)))))))
 revert H; refine ifsI ?_ ?_ <;> intro c1 H
 ·
  refine gt rfl (dT c1) (gk (gs (gb (gs (rg (sv (EV.mv rfl) rfl (sv (EV.mv rfl) rfl ?_)))))))
  revert H; refine ggI ?_; intro g2 H
  refine sv (EV.ix 0 rfl rfl rfl g2 c1 rfl) rfl (sv (EV.le (v := .agg #[.int .i64 ((rd_T70 l0 x2_3).f0), .int .i64 ((rd_T70 l0 x2_3).f1), .int .i64 ((rd_T70 l0 x2_3).f2)]) x2_3 0 (some 3) 0 z70 rfl rfl rfl g2 c1 rfl rfl rfl) rfl ?_)
  revert H; refine bdI ?_; rintro t3 A3 H
  refine so rfl (op_call (spec_IsValidRow.ok ((rd_T70 l0 x2_3).f0) ((rd_T70 l0 x2_3).f1) ((rd_T70 l0 x2_3).f2) _ A3) [] 1 rfl rfl rfl rfl rfl ?_)
  rintro _ _ _ ⟨rfl, rfl, rfl⟩
  refine sv (EV.nt rfl) rfl (re (pr [0, 3, 15] [] [0] rfl rfl rfl rfl ?_))
  revert H; refine ifsI ?_ ?_ <;> intro c4 H
  ·
   subst c4
   exact gf rfl rfl (gk (ge (rg (sv (EV.mv rfl) rfl (sv (EV.add rfl rfl) rfl (sv (EV.as rfl) rfl (re (wk [0, 3] [] [⟨0, 0, 0, false⟩] (ih0 _ (by omega) _ ⟨wrap64 (x2_3 + 1), H, rfl⟩)))))))))
  ·
   obtain rfl := bF c4
   refine gt rfl rfl (gs (rg (sv (EV.as rfl) rfl (re ?_))))
   cases H
   exact rt Try.func15 rfl (.tmp rfl .nil) rfl [] [] rfl rfl rfl rfl rfl ⟨rfl, rfl, rfl⟩
 ·
  refine gf rfl (dF c1) (gx rfl (gs (rg (sv (EV.mv rfl) rfl (sv (EV.ln rfl) rfl (sv (EV.leq rfl rfl) rfl (sv (EV.as rfl) rfl (re (pr [2] [] [] rfl rfl rfl rfl ?_)))))))))
  cases H
  exact rt Try.func15 rfl (.tmp rfl .nil) rfl [] [] rfl rfl rfl rfl rfl ⟨rfl, rfl, rfl⟩
end Go.Proofs.Ytajjeemkdjfilaa.K
namespace Go.Proofs.Ytajjeemkdjfilaa.K
open Go Go.RowKit
set_option linter.unusedVariables false
set_option linter.unusedSimpArgs false
def spec_NewTask.f (k : Nat) (a0 : Int) (l1 : List S70) (l2 : List S70) : Option (Int × (List S70) × (List S70) × (List Bool) × Int × Bool) := (spec_IsValidJoinKind.f a0).bind fun t1 => (if t1 = true then ((spec_AreValidRows.f k l1).bind fun t3 => (if t3 = true then ((spec_AreValidRows.f k l2).bind fun t5 => (if t5 = true then (if l1.length ≤ 5864062014805 then (if l2.length ≤ 5864062014805 then (if 0 ≤ (l1.length : Int) then (if (l1.length : Int).toNat ≤ 140737488355328 then (some (a0, l1, l2, List.replicate (l1.length : Int).toNat false, 0, true)) else none) else none) else none) else none) else (some (0, [], [], [], 0, false)))) else (some (0, [], [], [], 0, false)))) else (some (0, [], [], [], 0, false)))
set_option maxHeartbeats 4000000 in
set_option maxRecDepth 100000 in
theorem spec_NewTask.ok (k : Nat) (a0 : Int) (l1 : List S70) (Al1 : Option Addr) (cl1 : Nat) (l2 : List S70) (Al2 : Option Addr) (cl2 : Nat) (r0 : Int) (r1 : List S70) (r2 : List S70) (r3 : List Bool) (r4 : Int) (r5 : Bool) (H : spec_NewTask.f k a0 l1 l2 = some (r0, r1, r2, r3, r4, r5)) : Fn Try.prog 90 [.int .i64 a0, .slice Al1 l1.length cl1, .slice Al2 l2.length cl2] [] [.sl 0 k70 Al1 cl1 l1 0 false, .sl 0 k70 Al2 cl2 l2 0 false] (fun v bx en => ∃ A1 c1 A2 c2 A3 c3, v = .tuple #[.agg #[.int .i64 r0, .slice A1 r1.length c1, .slice A2 r2.length c2, .slice A3 r3.length c3, .int .i64 r4], .bool r5] ∧ bx = [] ∧ en = [.sl 2 k70 A1 c1 r1 1 true, .sl 2 k70 A2 c2 r2 2 true, .sl 2 .bool A3 c3 r3 3 true]) := by
 refine fn_ 33 Try.func90 rfl rfl rfl (fun base T w0 => ?_)
 rw [spec_NewTask.f] at H
 refine gs (rg (so rfl (op_alloc (cs := [.int .i64 0, .slice none 0 0, .slice none 0 0, .slice none 0 0, .int .i64 0]) (by kernel_rfl) rfl fun b6 => (sv (EV.as rfl) rfl (re (gs (gs (rg (sv (EV.mv rfl) rfl ?_)))))))))
 revert H; refine bdI ?_; rintro t1 A1 H
 refine so rfl (op_call (spec_IsValidJoinKind.ok a0 _ A1) [] 1 rfl rfl rfl rfl rfl ?_)
 rintro _ _ _ ⟨rfl, rfl, rfl⟩
 refine sv (EV.nt rfl) rfl (sv (EV.mv rfl) rfl ?_)
 revert H; refine ifsI ?_ ?_ <;> intro c2 H
 ·
  subst c2
  refine ts 11 rfl rfl (sv (EV.mv rfl) rfl ?_)
  revert H; refine bdI ?_; rintro t3 A3 H
  refine so rfl (op_call (spec_AreValidRows.ok k l1 Al1 cl1 _ A3) [⟨0, 0, 0, false⟩] 1 rfl rfl rfl rfl rfl ?_)
  rintro _ _ _ ⟨rfl, rfl, rfl⟩
  refine sv (EV.nt rfl) rfl (sv (EV.pf rfl rfl rfl) rfl (sv (EV.mv rfl) rfl ?_))
  revert H; refine ifsI ?_ ?_ <;> intro c4 H
  ·
   subst c4
   refine ts 16 rfl rfl (sv (EV.mv rfl) rfl ?_)
   revert H; refine bdI ?_; rintro t5 A5 H
   refine so rfl (op_call (spec_AreValidRows.ok k l2 Al2 cl2 _ A5) [⟨1, 0, 0, false⟩] 1 rfl rfl rfl rfl rfl ?_)
   rintro _ _ _ ⟨rfl, rfl, rfl⟩
   refine sv (EV.nt rfl) rfl (sv (EV.pf rfl rfl rfl) rfl (re (pr [0, 1, 2, 6, 20] [0] [0, 1] rfl rfl rfl rfl ?_)))
   revert H; refine ifsI ?_ ?_ <;> intro c6 H
   ·
    subst c6
    refine gf rfl rfl (gk (gs ?_))
    revert H; refine ggI ?_; intro g7 H
    revert H; refine ggI ?_; intro g8 H
    revert H; refine ggI ?_; intro g9 H
    revert H; refine ggI ?_; intro g10 H
    refine dj (fun S => ∃ (A25_12 : Option Addr) (c25_12 : Nat) (A28_14 : Option Addr) (c28_14 : Nat) (A31_15 : Option Addr) (c31_15 : Nat), S = ⟨[(6, .pointer (some ⟨b6, 0, none⟩)), (7, .bool true)], [⟨b6, 44, [.int .i64 a0, .slice A25_12 l1.length c25_12, .slice A28_14 l2.length c28_14, .slice A31_15 (List.replicate (l1.length : Int).toNat false).length c31_15, .int .i64 0]⟩], [.sl 0 k70 Al1 cl1 l1 0 false, .sl 0 k70 Al2 cl2 l2 0 false, .sl 2 k70 A25_12 c25_12 l1 1 true, .sl 2 k70 A28_14 c28_14 l2 2 true, .sl 2 .bool A31_15 c31_15 (List.replicate (l1.length : Int).toNat false) 3 true]⟩) (fun S hS => ?_) (fun dj0 => ?_)
    ·
     obtain ⟨A25_12, c25_12, A28_14, c28_14, A31_15, c31_15, rfl⟩ := hS
     cases H
     exact rt Try.func90 rfl (.cell 0 (some 5) rfl rfl rfl (.tmp rfl .nil)) rfl [] [⟨2, 2, 1, true⟩, ⟨3, 2, 2, true⟩, ⟨4, 2, 3, true⟩] rfl rfl rfl rfl rfl ⟨_, _, _, _, _, _, rfl, rfl, rfl⟩
    ·
     refine dr [0] [0, 1] [11, 12] 13 rfl rfl rfl rfl (xv 0 [0] [0, 1] rfl (EV.mv rfl) rfl rfl rfl rfl (xv 2 [0] [0, 1] rfl (EV.mv rfl) rfl rfl rfl rfl (xv 5 [0] [0, 1] rfl (EV.mv rfl) rfl rfl rfl rfl (xv 7 [0] [0, 1] rfl (EV.mv rfl) rfl rfl rfl rfl (xv 8 [0] [0, 1] rfl (EV.ln rfl) rfl rfl rfl rfl ?_)))))
     refine dl 3 #[true, true, true, true, true, true, true, true, true, true, false, false, false] (fun S => ∃ (A25_12 : Option Addr) (c25_12 : Nat) (A28_14 : Option Addr) (c28_14 : Nat) (A31_15 : Option Addr) (c31_15 : Nat), S = ⟨[(6, .pointer (some ⟨b6, 0, none⟩)), (22, .int .i64 a0), (25, .slice A25_12 l1.length c25_12), (28, .slice A28_14 l2.length c28_14), (31, .slice A31_15 (List.replicate (l1.length : Int).toNat false).length c31_15)], [⟨b6, 44, [.int .i64 0, .slice none 0 0, .slice none 0 0, .slice none 0 0, .int .i64 0]⟩], [.sl 0 k70 Al1 cl1 l1 0 false, .sl 0 k70 Al2 cl2 l2 0 false, .sl 2 k70 A25_12 c25_12 l1 1 true, .sl 2 k70 A28_14 c28_14 l2 2 true, .sl 2 .bool A31_15 c31_15 (List.replicate (l1.length : Int).toNat false) 3 true]⟩) (fun S hS => ?_) (fun hn0 => ?_)
     ·
      obtain ⟨A25_12, c25_12, A28_14, c28_14, A31_15, c31_15, rfl⟩ := hS
      exact one1 10 rfl rfl (ov (EV.bd (v := .agg #[.int .i64 a0, .slice A25_12 l1.length c25_12, .slice A28_14 l2.length c28_14, .slice A31_15 (List.replicate (l1.length : Int).toNat false).length c31_15, .int .i64 0]) rfl (by kernel_rfl)) rfl (xs [0] [0, 1] rfl rfl rfl (one1 11 rfl rfl (op_st (cs' := [.int .i64 a0, .slice A25_12 l1.length c25_12, .slice A28_14 l2.length c28_14, .slice A31_15 (List.replicate (l1.length : Int).toNat false).length c31_15, .int .i64 0]) 0 rfl rfl rfl rfl rfl rfl (xn rfl (one1 12 rfl rfl (ov (EV.as rfl) rfl (xn rfl (xd (wk [6, 7] [0] [⟨0, 0, 0, false⟩, ⟨1, 0, 0, false⟩, ⟨2, 2, 1, true⟩, ⟨3, 2, 2, true⟩, ⟨4, 2, 3, true⟩] (dj0 _ ⟨A25_12, c25_12, A28_14, c28_14, A31_15, c31_15, rfl⟩)))))))))))
     refine dl 4 #[true, true, true, true, true, true, false, true, true, true, false, false, false] (fun S => ∃ (A25_12 : Option Addr) (c25_12 : Nat) (A26_13 : Option Addr) (c26_13 : Nat) (A31_16 : Option Addr) (c31_16 : Nat), S = ⟨[(6, .pointer (some ⟨b6, 0, none⟩)), (22, .int .i64 a0), (25, .slice A25_12 l1.length c25_12), (26, .slice A26_13 0 c26_13), (27, .slice Al2 l2.length cl2), (31, .slice A31_16 (List.replicate (l1.length : Int).toNat false).length c31_16)], [⟨b6, 44, [.int .i64 0, .slice none 0 0, .slice none 0 0, .slice none 0 0, .int .i64 0]⟩], [.sl 0 k70 Al1 cl1 l1 0 false, .sl 0 k70 Al2 cl2 l2 0 false, .sl 2 k70 A25_12 c25_12 l1 1 true, .sl 2 k70 A26_13 c26_13 [] 2 true, .sl 2 .bool A31_16 c31_16 (List.replicate (l1.length : Int).toNat false) 3 true]⟩) (fun S hS => ?_) (fun hn1 => ?_)
     ·
      obtain ⟨A25_12, c25_12, A26_13, c26_13, A31_16, c31_16, rfl⟩ := hS
      exact one1 6 rfl rfl (op_app (k := k70) (s := 3) (by_ := 24) 3 1 rfl rfl rfl rfl (ap0 g8 dq) (ap0n g8 dq) (.inl rfl) true (fun _ => .inl rfl) rfl rfl fun A28_11 c28_11 => (nmE (en := [.sl 0 k70 Al1 cl1 l1 0 false, .sl 0 k70 Al2 cl2 l2 0 false, .sl 2 k70 A25_12 c25_12 l1 1 true, .sl 2 .bool A31_16 c31_16 (List.replicate (l1.length : Int).toNat false) 3 true, .sl 2 k70 A28_11 c28_11 l2 2 true]) (by kernel_rfl) (xs [0] [0, 1] rfl rfl rfl (da (wk [6, 22, 25, 28, 31] [0] [⟨0, 0, 0, false⟩, ⟨1, 0, 0, false⟩, ⟨2, 2, 1, true⟩, ⟨4, 2, 2, true⟩, ⟨3, 2, 3, true⟩] (hn0 _ ⟨A25_12, c25_12, A28_11, c28_11, A31_16, c31_16, rfl⟩))))))
     refine dl 5 #[true, true, true, true, true, true, false, true, true, false, false, false, false] (fun S => ∃ (A25_12 : Option Addr) (c25_12 : Nat) (A26_13 : Option Addr) (c26_13 : Nat), S = ⟨[(6, .pointer (some ⟨b6, 0, none⟩)), (22, .int .i64 a0), (25, .slice A25_12 l1.length c25_12), (26, .slice A26_13 0 c26_13), (27, .slice Al2 l2.length cl2), (30, .int .i64 (l1.length : Int))], [⟨b6, 44, [.int .i64 0, .slice none 0 0, .slice none 0 0, .slice none 0 0, .int .i64 0]⟩], [.sl 0 k70 Al1 cl1 l1 0 false, .sl 0 k70 Al2 cl2 l2 0 false, .sl 2 k70 A25_12 c25_12 l1 1 true, .sl 2 k70 A26_13 c26_13 [] 2 true]⟩) (fun S hS => ?_) (fun hn2 => ?_)
     ·
      obtain ⟨A25_12, c25_12, A26_13, c26_13, rfl⟩ := hS
      refine one2 6 9 rfl rfl rfl rfl ?_ ?_
      ·
       exact op_app (k := k70) (s := 3) (by_ := 24) 3 1 rfl rfl rfl rfl (ap0 g8 dq) (ap0n g8 dq) (.inl rfl) true (fun _ => .inl rfl) rfl rfl fun A28_12 c28_12 => (nmE (en := [.sl 0 k70 Al1 cl1 l1 0 false, .sl 0 k70 Al2 cl2 l2 0 false, .sl 2 k70 A25_12 c25_12 l1 1 true, .sl 2 k70 A28_12 c28_12 l2 2 true]) (by kernel_rfl) (xs [0] [0, 1] rfl rfl rfl (one1 9 rfl rfl (op_mk (s := 1) (by_ := 1) .bool false 3 rfl rfl g9 (mk1 g10 dq) (mk2 g10 dq) mk42 rfl rfl dq rfl fun A31_13 c31_13 => (xs [0] [0, 1] rfl rfl rfl (da (wk [6, 22, 25, 28, 31] [0] [⟨0, 0, 0, false⟩, ⟨1, 0, 0, false⟩, ⟨2, 2, 1, true⟩, ⟨3, 2, 2, true⟩, ⟨4, 2, 3, true⟩] (hn0 _ ⟨A25_12, c25_12, A28_12, c28_12, A31_13, c31_13, rfl⟩))))))))
      ·
       exact op_mk (s := 1) (by_ := 1) .bool false 3 rfl rfl g9 (mk1 g10 dq) (mk2 g10 dq) mk42 rfl rfl dq rfl fun A31_14 c31_14 => (xs [0] [0, 1] rfl rfl rfl (da (wk [6, 22, 25, 26, 27, 31] [0] [⟨0, 0, 0, false⟩, ⟨1, 0, 0, false⟩, ⟨2, 2, 1, true⟩, ⟨3, 2, 2, true⟩, ⟨4, 2, 3, true⟩] (hn1 _ ⟨A25_12, c25_12, A26_13, c26_13, A31_14, c31_14, rfl⟩))))
     refine dl 5 #[true, true, true, true, false, true, false, true, true, true, false, false, false] (fun S => ∃ (A25_12 : Option Addr) (c25_12 : Nat) (A31_18 : Option Addr) (c31_18 : Nat), S = ⟨[(6, .pointer (some ⟨b6, 0, none⟩)), (22, .int .i64 a0), (25, .slice A25_12 l1.length c25_12), (27, .slice Al2 l2.length cl2), (31, .slice A31_18 (List.replicate (l1.length : Int).toNat false).length c31_18)], [⟨b6, 44, [.int .i64 0, .slice none 0 0, .slice none 0 0, .slice none 0 0, .int .i64 0]⟩], [.sl 0 k70 Al1 cl1 l1 0 false, .sl 0 k70 Al2 cl2 l2 0 false, .sl 2 k70 A25_12 c25_12 l1 1 true, .sl 2 .bool A31_18 c31_18 (List.replicate (l1.length : Int).toNat false) 2 true]⟩) (fun S hS => ?_) (fun hn3 => ?_)
     ·
      obtain ⟨A25_12, c25_12, A31_18, c31_18, rfl⟩ := hS
      exact one1 4 rfl rfl (op_lit (s := 3) (by_ := 24) k70 ([] : List S70) [] [] 3 [] rfl rfl rfl rfl rfl rfl rfl rfl rfl rfl rfl rfl rfl dq rfl fun A26_15 c26_15 => (xs [0] [0, 1] rfl rfl rfl (da (wk [6, 22, 25, 26, 27, 31] [0] [⟨0, 0, 0, false⟩, ⟨1, 0, 0, false⟩, ⟨2, 2, 1, true⟩, ⟨4, 2, 2, true⟩, ⟨3, 2, 3, true⟩] (hn1 _ ⟨A25_12, c25_12, A26_15, c26_15, A31_18, c31_18, rfl⟩)))))
     refine dl 5 #[true, true, true, false, true, true, false, true, true, true, false, false, false] (fun S => ∃ (A23_11 : Option Addr) (c23_11 : Nat) (A26_20 : Option Addr) (c26_20 : Nat) (A31_22 : Option Addr) (c31_22 : Nat), S = ⟨[(6, .pointer (some ⟨b6, 0, none⟩)), (22, .int .i64 a0), (23, .slice A23_11 0 c23_11), (24, .slice Al1 l1.length cl1), (26, .slice A26_20 0 c26_20), (27, .slice Al2 l2.length cl2), (31, .slice A31_22 (List.replicate (l1.length : Int).toNat false).length c31_22)], [⟨b6, 44, [.int .i64 0, .slice none 0 0, .slice none 0 0, .slice none 0 0, .int .i64 0]⟩], [.sl 0 k70 Al1 cl1 l1 0 false, .sl 0 k70 Al2 cl2 l2 0 false, .sl 2 k70 A23_11 c23_11 [] 1 true, .sl 2 k70 A26_20 c26_20 [] 2 true, .sl 2 .bool A31_22 c31_22 (List.replicate (l1.length : Int).toNat false) 3 true]⟩) (fun S hS => ?_) (fun hn4 => ?_)
     ·
      obtain ⟨A23_11, c23_11, A26_20, c26_20, A31_22, c31_22, rfl⟩ := hS
      exact one1 3 rfl rfl (op_app (k := k70) (s := 3) (by_ := 24) 2 0 rfl rfl rfl rfl (ap0 g7 dq) (ap0n g7 dq) (.inl rfl) true (fun _ => .inl rfl) rfl rfl fun A25_16 c25_16 => (nmE (en := [.sl 0 k70 Al1 cl1 l1 0 false, .sl 0 k70 Al2 cl2 l2 0 false, .sl 2 k70 A26_20 c26_20 [] 2 true, .sl 2 .bool A31_22 c31_22 (List.replicate (l1.length : Int).toNat false) 3 true, .sl 2 k70 A25_16 c25_16 l1 1 true]) (by kernel_rfl) (xs [0] [0, 1] rfl rfl rfl (da (wk [6, 22, 25, 26, 27, 31] [0] [⟨0, 0, 0, false⟩, ⟨1, 0, 0, false⟩, ⟨4, 2, 1, true⟩, ⟨2, 2, 2, true⟩, ⟨3, 2, 3, true⟩] (hn1 _ ⟨A25_16, c25_16, A26_20, c26_20, A31_22, c31_22, rfl⟩))))))
     refine dl 6 #[true, true, true, false, true, true, false, true, true, false, false, false, false] (fun S => ∃ (A23_11 : Option Addr) (c23_11 : Nat) (A26_20 : Option Addr) (c26_20 : Nat), S = ⟨[(6, .pointer (some ⟨b6, 0, none⟩)), (22, .int .i64 a0), (23, .slice A23_11 0 c23_11), (24, .slice Al1 l1.length cl1), (26, .slice A26_20 0 c26_20), (27, .slice Al2 l2.length cl2), (30, .int .i64 (l1.length : Int))], [⟨b6, 44, [.int .i64 0, .slice none 0 0, .slice none 0 0, .slice none 0 0, .int .i64 0]⟩], [.sl 0 k70 Al1 cl1 l1 0 false, .sl 0 k70 Al2 cl2 l2 0 false, .sl 2 k70 A23_11 c23_11 [] 1 true, .sl 2 k70 A26_20 c26_20 [] 2 true]⟩) (fun S hS => ?_) (fun hn5 => ?_)
     ·
      obtain ⟨A23_11, c23_11, A26_20, c26_20, rfl⟩ := hS
      refine one2 3 9 rfl rfl rfl rfl ?_ ?_
      ·
       exact op_app (k := k70) (s := 3) (by_ := 24) 2 0 rfl rfl rfl rfl (ap0 g7 dq) (ap0n g7 dq) (.inl rfl) true (fun _ => .inl rfl) rfl rfl fun A25_17 c25_17 => (nmE (en := [.sl 0 k70 Al1 cl1 l1 0 false, .sl 0 k70 Al2 cl2 l2 0 false, .sl 2 k70 A26_20 c26_20 [] 2 true, .sl 2 k70 A25_17 c25_17 l1 1 true]) (by kernel_rfl) (xs [0] [0, 1] rfl rfl rfl (da (wk [6, 22, 25, 26, 27, 30] [0] [⟨0, 0, 0, false⟩, ⟨1, 0, 0, false⟩, ⟨3, 2, 1, true⟩, ⟨2, 2, 2, true⟩] (hn2 _ ⟨A25_17, c25_17, A26_20, c26_20, rfl⟩)))))
      ·
       exact op_mk (s := 1) (by_ := 1) .bool false 3 rfl rfl g9 (mk1 g10 dq) (mk2 g10 dq) mk42 rfl rfl dq rfl fun A31_18 c31_18 => (xs [0] [0, 1] rfl rfl rfl (da (wk [6, 22, 23, 24, 26, 27, 31] [0] [⟨0, 0, 0, false⟩, ⟨1, 0, 0, false⟩, ⟨2, 2, 1, true⟩, ⟨3, 2, 2, true⟩, ⟨4, 2, 3, true⟩] (hn4 _ ⟨A23_11, c23_11, A26_20, c26_20, A31_18, c31_18, rfl⟩))))
     refine dl 6 #[true, true, true, false, false, true, false, true, true, true, false, false, false] (fun S => ∃ (A23_11 : Option Addr) (c23_11 : Nat) (A31_24 : Option Addr) (c31_24 : Nat), S = ⟨[(6, .pointer (some ⟨b6, 0, none⟩)), (22, .int .i64 a0), (23, .slice A23_11 0 c23_11), (24, .slice Al1 l1.length cl1), (27, .slice Al2 l2.length cl2), (31, .slice A31_24 (List.replicate (l1.length : Int).toNat false).length c31_24)], [⟨b6, 44, [.int .i64 0, .slice none 0 0, .slice none 0 0, .slice none 0 0, .int .i64 0]⟩], [.sl 0 k70 Al1 cl1 l1 0 false, .sl 0 k70 Al2 cl2 l2 0 false, .sl 2 k70 A23_11 c23_11 [] 1 true, .sl 2 .bool A31_24 c31_24 (List.replicate (l1.length : Int).toNat false) 2 true]⟩) (fun S hS => ?_) (fun hn6 => ?_)
     ·
      obtain ⟨A23_11, c23_11, A31_24, c31_24, rfl⟩ := hS
      refine one2 3 4 rfl rfl rfl rfl ?_ ?_
      ·
       exact op_app (k := k70) (s := 3) (by_ := 24) 2 0 rfl rfl rfl rfl (ap0 g7 dq) (ap0n g7 dq) (.inl rfl) true (fun _ => .inl rfl) rfl rfl fun A25_19 c25_19 => (nmE (en := [.sl 0 k70 Al1 cl1 l1 0 false, .sl 0 k70 Al2 cl2 l2 0 false, .sl 2 .bool A31_24 c31_24 (List.replicate (l1.length : Int).toNat false) 2 true, .sl 2 k70 A25_19 c25_19 l1 1 true]) (by kernel_rfl) (xs [0] [0, 1] rfl rfl rfl (da (wk [6, 22, 25, 27, 31] [0] [⟨0, 0, 0, false⟩, ⟨1, 0, 0, false⟩, ⟨3, 2, 1, true⟩, ⟨2, 2, 2, true⟩] (hn3 _ ⟨A25_19, c25_19, A31_24, c31_24, rfl⟩)))))
      ·
       exact op_lit (s := 3) (by_ := 24) k70 ([] : List S70) [] [] 3 [] rfl rfl rfl rfl rfl rfl rfl rfl rfl rfl rfl rfl rfl dq rfl fun A26_20 c26_20 => (xs [0] [0, 1] rfl rfl rfl (da (wk [6, 22, 23, 24, 26, 27, 31] [0] [⟨0, 0, 0, false⟩, ⟨1, 0, 0, false⟩, ⟨2, 2, 1, true⟩, ⟨4, 2, 2, true⟩, ⟨3, 2, 3, true⟩] (hn4 _ ⟨A23_11, c23_11, A26_20, c26_20, A31_24, c31_24, rfl⟩))))
     refine dl 6 #[true, false, true, false, true, true, false, true, true, true, false, false, false] (fun S => ∃ (A26_27 : Option Addr) (c26_27 : Nat) (A31_29 : Option Addr) (c31_29 : Nat), S = ⟨[(6, .pointer (some ⟨b6, 0, none⟩)), (22, .int .i64 a0), (24, .slice Al1 l1.length cl1), (26, .slice A26_27 0 c26_27), (27, .slice Al2 l2.length cl2), (31, .slice A31_29 (List.replicate (l1.length : Int).toNat false).length c31_29)], [⟨b6, 44, [.int .i64 0, .slice none 0 0, .slice none 0 0, .slice none 0 0, .int .i64 0]⟩], [.sl 0 k70 Al1 cl1 l1 0 false, .sl 0 k70 Al2 cl2 l2 0 false, .sl 2 k70 A26_27 c26_27 [] 1 true, .sl 2 .bool A31_29 c31_29 (List.replicate (l1.length : Int).toNat false) 2 true]⟩) (fun S hS => ?_) (fun hn7 => ?_)
     ·
      obtain ⟨A26_27, c26_27, A31_29, c31_29, rfl⟩ := hS
      exact one1 1 rfl rfl (op_lit (s := 3) (by_ := 24) k70 ([] : List S70) [] [] 3 [] rfl rfl rfl rfl rfl rfl rfl rfl rfl rfl rfl rfl rfl dq rfl fun A23_21 c23_21 => (xs [0] [0, 1] rfl rfl rfl (da (wk [6, 22, 23, 24, 26, 27, 31] [0] [⟨0, 0, 0, false⟩, ⟨1, 0, 0, false⟩, ⟨4, 2, 1, true⟩, ⟨2, 2, 2, true⟩, ⟨3, 2, 3, true⟩] (hn4 _ ⟨A23_21, c23_21, A26_27, c26_27, A31_29, c31_29, rfl⟩)))))
     refine one3 1 4 9 rfl rfl rfl rfl rfl rfl ?_ ?_ ?_
     ·
      refine op_lit (s := 3) (by_ := 24) k70 ([] : List S70) [] [] 1 [] rfl rfl rfl rfl rfl rfl rfl rfl rfl rfl rfl rfl rfl dq rfl fun A23_22 c23_22 => (xs [0] [0, 1] rfl rfl rfl ?_)
      refine one3 3 4 9 rfl rfl rfl rfl rfl rfl ?_ ?_ ?_
      ·
       refine op_app (k := k70) (s := 3) (by_ := 24) 2 0 rfl rfl rfl rfl (ap0 g7 dq) (ap0n g7 dq) (.inl rfl) true (fun _ => .inl rfl) rfl rfl fun A25_23 c25_23 => (nmE (en := [.sl 0 k70 Al1 cl1 l1 0 false, .sl 0 k70 Al2 cl2 l2 0 false, .sl 2 k70 A25_23 c25_23 l1 1 true]) (by kernel_rfl) (xs [0] [0, 1] rfl rfl rfl ?_))
       refine one2 4 9 rfl rfl rfl rfl ?_ ?_
       ·
        exact op_lit (s := 3) (by_ := 24) k70 ([] : List S70) [] [] 2 [] rfl rfl rfl rfl rfl rfl rfl rfl rfl rfl rfl rfl rfl dq rfl fun A26_24 c26_24 => (xs [0] [0, 1] rfl rfl rfl (da (wk [6, 22, 25, 26, 27, 30] [0] [⟨0, 0, 0, false⟩, ⟨1, 0, 0, false⟩, ⟨2, 2, 1, true⟩, ⟨3, 2, 2, true⟩] (hn2 _ ⟨A25_23, c25_23, A26_24, c26_24, rfl⟩))))
       ·
        exact op_mk (s := 1) (by_ := 1) .bool false 2 rfl rfl g9 (mk1 g10 dq) (mk2 g10 dq) mk42 rfl rfl dq rfl fun A31_25 c31_25 => (xs [0] [0, 1] rfl rfl rfl (da (wk [6, 22, 25, 27, 31] [0] [⟨0, 0, 0, false⟩, ⟨1, 0, 0, false⟩, ⟨2, 2, 1, true⟩, ⟨3, 2, 2, true⟩] (hn3 _ ⟨A25_23, c25_23, A31_25, c31_25, rfl⟩))))
      ·
       exact op_lit (s := 3) (by_ := 24) k70 ([] : List S70) [] [] 2 [] rfl rfl rfl rfl rfl rfl rfl rfl rfl rfl rfl rfl rfl dq rfl fun A26_26 c26_26 => (xs [0] [0, 1] rfl rfl rfl (da (wk [6, 22, 23, 24, 26, 27, 30] [0] [⟨0, 0, 0, false⟩, ⟨1, 0, 0, false⟩, ⟨2, 2, 1, true⟩, ⟨3, 2, 2, true⟩] (hn5 _ ⟨A23_22, c23_22, A26_26, c26_26, rfl⟩))))
      ·
       exact op_mk (s := 1) (by_ := 1) .bool false 2 rfl rfl g9 (mk1 g10 dq) (mk2 g10 dq) mk42 rfl rfl dq rfl fun A31_27 c31_27 => (xs [0] [0, 1] rfl rfl rfl (da (wk [6, 22, 23, 24, 27, 31] [0] [⟨0, 0, 0, false⟩, ⟨1, 0, 0, false⟩, ⟨2, 2, 1, true⟩, ⟨3, 2, 2, true⟩] (hn6 _ ⟨A23_22, c23_22, A31_27, c31_27, rfl⟩))))
     ·
      refine op_lit (s := 3) (by_ := 24) k70 ([] : List S70) [] [] 1 [] rfl rfl rfl rfl rfl rfl rfl rfl rfl rfl rfl rfl rfl dq rfl fun A26_28 c26_28 => (xs [0] [0, 1] rfl rfl rfl ?_)
      refine one2 1 9 rfl rfl rfl rfl ?_ ?_
      ·
       exact op_lit (s := 3) (by_ := 24) k70 ([] : List S70) [] [] 2 [] rfl rfl rfl rfl rfl rfl rfl rfl rfl rfl rfl rfl rfl dq rfl fun A23_29 c23_29 => (xs [0] [0, 1] rfl rfl rfl (da (wk [6, 22, 23, 24, 26, 27, 30] [0] [⟨0, 0, 0, false⟩, ⟨1, 0, 0, false⟩, ⟨3, 2, 1, true⟩, ⟨2, 2, 2, true⟩] (hn5 _ ⟨A23_29, c23_29, A26_28, c26_28, rfl⟩))))
      ·
       exact op_mk (s := 1) (by_ := 1) .bool false 2 rfl rfl g9 (mk1 g10 dq) (mk2 g10 dq) mk42 rfl rfl dq rfl fun A31_30 c31_30 => (xs [0] [0, 1] rfl rfl rfl (da (wk [6, 22, 24, 26, 27, 31] [0] [⟨0, 0, 0, false⟩, ⟨1, 0, 0, false⟩, ⟨2, 2, 1, true⟩, ⟨3, 2, 2, true⟩] (hn7 _ ⟨A26_28, c26_28, A31_30, c31_30, rfl⟩))))
     ·
      refine op_mk (s := 1) (by_ := 1) .bool false 1 rfl rfl g9 (mk1 g10 dq) (mk2 g10 dq) mk42 rfl rfl dq rfl fun A31_31 c31_31 => (xs [0] [0, 1] rfl rfl rfl ?_)
      refine one2 1 4 rfl rfl rfl rfl ?_ ?_
      ·
       exact op_lit (s := 3) (by_ := 24) k70 ([] : List S70) [] [] 2 [] rfl rfl rfl rfl rfl rfl rfl rfl rfl rfl rfl rfl rfl dq rfl fun A23_32 c23_32 => (xs [0] [0, 1] rfl rfl rfl (da (wk [6, 22, 23, 24, 27, 31] [0] [⟨0, 0, 0, false⟩, ⟨1, 0, 0, false⟩, ⟨3, 2, 1, true⟩, ⟨2, 2, 2, true⟩] (hn6 _ ⟨A23_32, c23_32, A31_31, c31_31, rfl⟩))))
      ·
       exact op_lit (s := 3) (by_ := 24) k70 ([] : List S70) [] [] 2 [] rfl rfl rfl rfl rfl rfl rfl rfl rfl rfl rfl rfl rfl dq rfl fun A26_33 c26_33 => (xs [0] [0, 1] rfl rfl rfl (da (wk [6, 22, 24, 26, 27, 31] [0] [⟨0, 0, 0, false⟩, ⟨1, 0, 0, false⟩, ⟨3, 2, 1, true⟩, ⟨2, 2, 2, true⟩] (hn7 _ ⟨A26_33, c26_33, A31_31, c31_31, rfl⟩))))
   ·
    obtain rfl := bF c6
    refine gt rfl rfl (gs (rg (sv (EV.bd (v := .agg #[.int .i64 0, .slice none 0 0, .slice none 0 0, .slice none 0 0, .int .i64 0]) rfl (by kernel_rfl)) rfl (so rfl (op_st (cs' := [.int .i64 0, .slice none 0 0, .slice none 0 0, .slice none 0 0, .int .i64 0]) 0 rfl rfl rfl rfl rfl rfl (sv (EV.as rfl) rfl (re (nil_ k70 1 dq (nil_ k70 2 dq (nil_ .bool 3 dq ?_))))))))))
    cases H
    exact rt Try.func90 rfl (.cell 0 (some 5) rfl rfl rfl (.tmp rfl .nil)) rfl [] [⟨2, 2, 1, true⟩, ⟨3, 2, 2, true⟩, ⟨4, 2, 3, true⟩] rfl rfl rfl rfl rfl ⟨_, _, _, _, _, _, rfl, rfl, rfl⟩
  ·
   obtain rfl := bF c4
   refine ts 16 rfl rfl (sk rfl (sk rfl (sk rfl (sv (EV.pt rfl rfl rfl) rfl (re (pr [0, 1, 2, 6, 20] [0] [0, 1] rfl rfl rfl rfl (gt rfl rfl (gs (rg (sv (EV.bd (v := .agg #[.int .i64 0, .slice none 0 0, .slice none 0 0, .slice none 0 0, .int .i64 0]) rfl (by kernel_rfl)) rfl (so rfl (op_st (cs' := [.int .i64 0, .slice none 0 0, .slice none 0 0, .slice none 0 0, .int .i64 0]) 0 rfl rfl rfl rfl rfl rfl (sv (EV.as rfl) rfl (re (nil_ k70 1 dq (nil_ k70 2 dq (nil_ .bool 3 dq ?_)))))))))))))))))
   cases H
   exact rt Try.func90 rfl (.cell 0 (some 5) rfl rfl rfl (.tmp rfl .nil)) rfl [] [⟨2, 2, 1, true⟩, ⟨3, 2, 2, true⟩, ⟨4, 2, 3, true⟩] rfl rfl rfl rfl rfl ⟨_, _, _, _, _, _, rfl, rfl, rfl⟩
 ·
  obtain rfl := bF c2
  refine ts 11 rfl rfl (sk rfl (sk rfl (sk rfl (sv (EV.pt rfl rfl rfl) rfl (sv (EV.mv rfl) rfl (sk rfl (sk rfl (sk rfl (sv (EV.pt rfl rfl rfl) rfl (re (pr [0, 1, 2, 6, 20] [0] [0, 1] rfl rfl rfl rfl (gt rfl rfl (gs (rg (sv (EV.bd (v := .agg #[.int .i64 0, .slice none 0 0, .slice none 0 0, .slice none 0 0, .int .i64 0]) rfl (by kernel_rfl)) rfl (so rfl (op_st (cs' := [.int .i64 0, .slice none 0 0, .slice none 0 0, .slice none 0 0, .int .i64 0]) 0 rfl rfl rfl rfl rfl rfl (sv (EV.as rfl) rfl (re (nil_ k70 1 dq (nil_ k70 2 dq (nil_ .bool 3 dq ?_))))))))))))))))))))))
  cases H
  exact rt Try.func90 rfl (.cell 0 (some 5) rfl rfl rfl (.tmp rfl .nil)) rfl [] [⟨2, 2, 1, true⟩, ⟨3, 2, 2, true⟩, ⟨4, 2, 3, true⟩] rfl rfl rfl rfl rfl ⟨_, _, _, _, _, _, rfl, rfl, rfl⟩
end Go.Proofs.Ytajjeemkdjfilaa.K
namespace Go.Proofs.Ytajjeemkdjfilaa.K
open Go Go.RowKit
set_option linter.unusedVariables false
set_option linter.unusedSimpArgs false
def spec_NewJoiner.f (k : Nat) (a0 : Int) (l1 : List S70) (l2 : List S70) : Option ((List S44) × Int × Int × Bool) := (spec_NewTask.f k a0 l1 l2).bind fun bt1 => (if bt1.2.2.2.2.2 = true then (some (([(⟨bt1.1, bt1.2.1, bt1.2.2.1, bt1.2.2.2.1, bt1.2.2.2.2.1⟩ : S44)] : List S44), 0, 0, true)) else (some ([], 0, 0, false)))
set_option maxHeartbeats 4000000 in
set_option maxRecDepth 100000 in
theorem spec_NewJoiner.ok (k : Nat) (a0 : Int) (l1 : List S70) (Al1 : Option Addr) (cl1 : Nat) (l2 : List S70) (Al2 : Option Addr) (cl2 : Nat) (r0 : List S44) (r1 : Int) (r2 : Int) (r3 : Bool) (H : spec_NewJoiner.f k a0 l1 l2 = some (r0, r1, r2, r3)) : Fn Try.prog 68 [.int .i64 a0, .slice Al1 l1.length cl1, .slice Al2 l2.length cl2] [] [.sl 0 k70 Al1 cl1 l1 0 false, .sl 0 k70 Al2 cl2 l2 0 false] (fun v bx en => ∃ A0 c0, v = .tuple #[.agg #[.slice A0 r0.length c0, .int .i64 r1, .int .i64 r2], .bool r3] ∧ bx = [] ∧ en = [.sl 2 k44 A0 c0 r0 1 true]) := by
 refine fn_ 23 Try.func68 rfl rfl rfl (fun base T w0 => ?_)
 rw [spec_NewJoiner.f] at H
 refine gs (rg (so rfl (op_alloc (cs := [.slice none 0 0, .int .i64 0, .int .i64 0]) (by kernel_rfl) rfl fun b6 => (sv (EV.as rfl) rfl (re (gs (rg (sv (EV.mv rfl) rfl (sv (EV.mv rfl) rfl (sv (EV.mv rfl) rfl ?_))))))))))
 revert H; refine bdI ?_; rintro ⟨t1_0, t1_1, t1_2, t1_3, t1_4, t1_5⟩ A1 H
 refine so rfl (op_call (spec_NewTask.ok k a0 l1 Al1 cl1 l2 Al2 cl2 _ _ _ _ _ _ A1) [⟨0, 0, 0, false⟩, ⟨1, 0, 0, false⟩] 1 rfl rfl rfl rfl rfl ?_)
 rintro _ _ _ ⟨At1_1, ct1_1, At1_2, ct1_2, At1_3, ct1_3, rfl, rfl, rfl⟩
 refine sv (EV.mv rfl) rfl (sv (EV.ex rfl rfl) rfl (sv (EV.ex rfl rfl) rfl (so rfl (op_alloc (cs := [.int .i64 0, .slice none 0 0, .slice none 0 0, .slice none 0 0, .int .i64 0]) (by kernel_rfl) rfl fun b8 => (so rfl (op_st (cs' := [.int .i64 t1_0, .slice At1_1 t1_1.length ct1_1, .slice At1_2 t1_2.length ct1_2, .slice At1_3 t1_3.length ct1_3, .int .i64 t1_4]) 1 rfl rfl rfl rfl rfl rfl (sv (EV.as rfl) rfl (re (pr [6, 8, 9] [0, 1] [2, 3, 4] rfl rfl rfl rfl (gs (gs (rg (sv (EV.mv rfl) rfl (sv (EV.nt rfl) rfl (re ?_)))))))))))))))
 revert H; refine ifsI ?_ ?_ <;> intro c2 H
 ·
  subst c2
  refine gf rfl rfl (gk (gs (rg (sv (EV.ld (v := .agg #[.int .i64 t1_0, .slice At1_1 t1_1.length ct1_1, .slice At1_2 t1_2.length ct1_2, .slice At1_3 t1_3.length ct1_3, .int .i64 t1_4]) 1 (some 5) rfl rfl rfl) rfl (so rfl (op_lit (s := 5) (by_ := 88) k44 ([(⟨t1_0, t1_1, t1_2, t1_3, t1_4⟩ : S44)] : List S44) [[(At1_1, ct1_1), (At1_2, ct1_2), (At1_3, ct1_3)]] [0, 1, 2] 5 [.tmp 20] rfl rfl rfl rfl rfl rfl rfl rfl rfl rfl rfl rfl rfl dq rfl fun A21_3 c21_3 => (nmE (en := [.sl 2 k70 At1_1 ct1_1 t1_1 5 true, .sl 2 k70 At1_2 ct1_2 t1_2 5 true, .sl 2 .bool At1_3 ct1_3 t1_3 5 true, .sl 2 k44 A21_3 c21_3 ([(⟨t1_0, t1_1, t1_2, t1_3, t1_4⟩ : S44)] : List S44) 5 true]) (by kernel_rfl) (sv (EV.bd (v := .agg #[.slice A21_3 ([(⟨t1_0, t1_1, t1_2, t1_3, t1_4⟩ : S44)] : List S44).length c21_3, .int .i64 0, .int .i64 0]) rfl (by kernel_rfl)) rfl (so rfl (op_st (cs' := [.slice A21_3 ([(⟨t1_0, t1_1, t1_2, t1_3, t1_4⟩ : S44)] : List S44).length c21_3, .int .i64 0, .int .i64 0]) 0 rfl rfl rfl rfl rfl rfl (sv (EV.as rfl) rfl (re (pr [6, 7] [0] [3] rfl rfl rfl rfl ?_)))))))))))))
  cases H
  exact rt Try.func68 rfl (.cell 0 (some 3) rfl rfl rfl (.tmp rfl .nil)) rfl [] [⟨0, 2, 1, true⟩] rfl rfl rfl rfl rfl ⟨_, _, rfl, rfl, rfl⟩
 ·
  obtain rfl := bF c2
  refine gt rfl rfl (gs (rg (sv (EV.bd (v := .agg #[.slice none 0 0, .int .i64 0, .int .i64 0]) rfl (by kernel_rfl)) rfl (so rfl (op_st (cs' := [.slice none 0 0, .int .i64 0, .int .i64 0]) 0 rfl rfl rfl rfl rfl rfl (sv (EV.as rfl) rfl (re (nil_ k44 5 dq ?_))))))))
  cases H
  exact rt Try.func68 rfl (.cell 0 (some 3) rfl rfl rfl (.tmp rfl .nil)) rfl [] [⟨3, 2, 1, true⟩] rfl rfl rfl rfl rfl ⟨_, _, rfl, rfl, rfl⟩
end Go.Proofs.Ytajjeemkdjfilaa.K
namespace Go.Proofs.Ytajjeemkdjfilaa.K
open Go Go.RowKit
set_option linter.unusedVariables false
set_option linter.unusedSimpArgs false
def spec_l14Grants.l0 : Nat → Int → (List Int) → Option (Bool)
 | 0, _, _ => none
 | k + 1, x2_3, l0 => if x2_3 < (l0.length : Int) then (if 0 ≤ x2_3 then ((spec_l1In.f (rdOf 0 l0 x2_3) 8 60).bind fun t3 => (if t3 = true then (spec_l14Grants.l0 k (wrap64 (x2_3 + 1)) l0) else (some false))) else none) else (some (decide ((l0.length : Int) > 0)))
def spec_l14Grants.f (k : Nat) (l0 : List Int) : Option (Bool) := spec_l14Grants.l0 k 0 l0
set_option maxHeartbeats 4000000 in
set_option maxRecDepth 100000 in
theorem spec_l14Grants.ok (k : Nat) (l0 : List Int) (Al0 : Option Addr) (cl0 : Nat) (r0 : Bool) (H : spec_l14Grants.f k l0 = some r0) : Fn Try.prog 69 [.slice Al0 l0.length cl0] [] [.sl 0 (.int .i64) Al0 cl0 l0 0 false] (fun v bx en => v = .bool r0 ∧ bx = [] ∧ en = []) := by
 refine fn_ 19 Try.func69 rfl rfl rfl (fun base T w0 => ?_)
 rw [spec_l14Grants.f] at H
 refine gs (rg (sv (EV.as rfl) rfl (re (gs (gs (rg (sv (EV.as rfl) rfl (re (gb ?_)))))))))
 refine lo (fun kk S => ∃ (x2_3 : Int), spec_l14Grants.l0 kk x2_3 l0 = some r0 ∧ S = ⟨[(0, .slice Al0 l0.length cl0), (3, .int .i64 x2_3)], [], [.sl 0 (.int .i64) Al0 cl0 l0 0 false]⟩) (fun S hS => ?_) (fun n0 ih0 S hS => ?_) ⟨0, H, rfl⟩ (fun h => wk [0, 3] [] [⟨0, 0, 0, false⟩] h)
 · clear H; obtain ⟨_, H, _⟩ := hS; rw [spec_l14Grants.l0] at H; cases H
 clear H
 obtain ⟨x2_3, H, rfl⟩ := hS
 rw [spec_l14Grants.l0] at H
 refine gs (gs (rg (sv (EV.mv rfl) rfl (sv (EV.mv rfl) rfl (sv (EV.ln rfl) rfl (sv (EV.lss rfl rfl) rfl (re ?_)))))))
 revert H; refine ifsI ?_ ?_ <;> intro c1 H
 ·
  refine gt rfl (dT c1) (gk (gs (gb (gs (rg (sv (EV.mv rfl) rfl (sv (EV.mv rfl) rfl ?_)))))))
  revert H; refine ggI ?_; intro g2 H
  refine sv (EV.ix 0 rfl rfl rfl g2 c1 rfl) rfl (sv (EV.le (v := .int .i64 (rdOf 0 l0 x2_3)) x2_3 0 none 0 0 rfl rfl rfl g2 c1 rfl rfl rfl) rfl ?_)
  revert H; refine bdI ?_; rintro t3 A3 H
  refine so rfl (op_call (spec_l1In.ok (rdOf 0 l0 x2_3) 8 60 _ A3) [] 1 rfl rfl rfl rfl rfl ?_)
  rintro _ _ _ ⟨rfl, rfl, rfl⟩
  refine sv (EV.nt rfl) rfl (re (pr [0, 3, 15] [] [0] rfl rfl rfl rfl ?_))
  revert H; refine ifsI ?_ ?_ <;> intro c4 H
  ·
   subst c4
   exact gf rfl rfl (gk (ge (rg (sv (EV.mv rfl) rfl (sv (EV.add rfl rfl) rfl (sv (EV.as rfl) rfl (re (wk [0, 3] [] [⟨0, 0, 0, false⟩] (ih0 _ (by omega) _ ⟨wrap64 (x2_3 + 1), H, rfl⟩)))))))))
  ·
   obtain rfl := bF c4
   refine gt rfl rfl (gs (rg (sv (EV.as rfl) rfl (re ?_))))
   cases H
   exact rt Try.func69 rfl (.tmp rfl .nil) rfl [] [] rfl rfl rfl rfl rfl ⟨rfl, rfl, rfl⟩
 ·
  refine gf rfl (dF c1) (gx rfl (gs (rg (sv (EV.mv rfl) rfl (sv (EV.ln rfl) rfl (sv (EV.gtr rfl rfl) rfl (sv (EV.as rfl) rfl (re (pr [2] [] [] rfl rfl rfl rfl ?_)))))))))
  cases H
  exact rt Try.func69 rfl (.tmp rfl .nil) rfl [] [] rfl rfl rfl rfl rfl ⟨rfl, rfl, rfl⟩
end Go.Proofs.Ytajjeemkdjfilaa.K
namespace Go.Proofs.Ytajjeemkdjfilaa.K
open Go Go.RowKit
set_option linter.unusedVariables false
set_option linter.unusedSimpArgs false
def spec_l16Copy.f (a0_0 : Int) (l0_1 : List S70) (l0_2 : List S70) (l0_3 : List Bool) (a0_4 : Int) : Option (Int × (List S70) × (List S70) × (List Bool) × Int) := if l0_1.length ≤ 5864062014805 then (if l0_2.length ≤ 5864062014805 then (if l0_3.length ≤ 140737488355328 then (some (a0_0, l0_1, l0_2, l0_3, a0_4)) else none) else none) else none
set_option maxHeartbeats 4000000 in
set_option maxRecDepth 100000 in
theorem spec_l16Copy.ok (a0_0 : Int) (l0_1 : List S70) (Al0_1 : Option Addr) (cl0_1 : Nat) (l0_2 : List S70) (Al0_2 : Option Addr) (cl0_2 : Nat) (l0_3 : List Bool) (Al0_3 : Option Addr) (cl0_3 : Nat) (a0_4 : Int) (r0 : Int) (r1 : List S70) (r2 : List S70) (r3 : List Bool) (r4 : Int) (H : spec_l16Copy.f a0_0 l0_1 l0_2 l0_3 a0_4 = some (r0, r1, r2, r3, r4)) : Fn Try.prog 80 [.agg #[.int .i64 a0_0, .slice Al0_1 l0_1.length cl0_1, .slice Al0_2 l0_2.length cl0_2, .slice Al0_3 l0_3.length cl0_3, .int .i64 a0_4]] [] [.sl 0 k70 Al0_1 cl0_1 l0_1 0 false, .sl 0 k70 Al0_2 cl0_2 l0_2 0 false, .sl 0 .bool Al0_3 cl0_3 l0_3 0 false] (fun v bx en => ∃ A1 c1 A2 c2 A3 c3, v = .agg #[.int .i64 r0, .slice A1 r1.length c1, .slice A2 r2.length c2, .slice A3 r3.length c3, .int .i64 r4] ∧ bx = [] ∧ en = [.sl 2 k70 A1 c1 r1 1 true, .sl 2 k70 A2 c2 r2 2 true, .sl 2 .bool A3 c3 r3 3 true]) := by
 refine fn_ 20 Try.func80 rfl rfl rfl (fun base T w0 => ?_)
 rw [spec_l16Copy.f] at H
 refine gs (rg (so rfl (op_box (cs := [.int .i64 a0_0, .slice Al0_1 l0_1.length cl0_1, .slice Al0_2 l0_2.length cl0_2, .slice Al0_3 l0_3.length cl0_3, .int .i64 a0_4]) rfl rfl rfl fun b1 => (so rfl (op_alloc (cs := [.int .i64 0, .slice none 0 0, .slice none 0 0, .slice none 0 0, .int .i64 0]) (by kernel_rfl) rfl fun b2 => (re (gs ?_)))))))
 revert H; refine ggI ?_; intro g1 H
 revert H; refine ggI ?_; intro g2 H
 revert H; refine ggI ?_; intro g3 H
 refine dj (fun S => ∃ (A8_5 : Option Addr) (c8_5 : Nat) (A12_7 : Option Addr) (c12_7 : Nat) (A16_9 : Option Addr) (c16_9 : Nat), S = ⟨[(2, .pointer (some ⟨b2, 0, none⟩))], [⟨b1, 44, [.int .i64 a0_0, .slice Al0_1 l0_1.length cl0_1, .slice Al0_2 l0_2.length cl0_2, .slice Al0_3 l0_3.length cl0_3, .int .i64 a0_4]⟩, ⟨b2, 44, [.int .i64 a0_0, .slice A8_5 l0_1.length c8_5, .slice A12_7 l0_2.length c12_7, .slice A16_9 l0_3.length c16_9, .int .i64 a0_4]⟩], [.sl 0 k70 Al0_1 cl0_1 l0_1 0 false, .sl 0 k70 Al0_2 cl0_2 l0_2 0 false, .sl 0 .bool Al0_3 cl0_3 l0_3 0 false, .sl 2 k70 A8_5 c8_5 l0_1 1 true, .sl 2 k70 A12_7 c12_7 l0_2 2 true, .sl 2 .bool A16_9 c16_9 l0_3 3 true]⟩) (fun S hS => ?_) (fun dj0 => ?_)
 ·
  obtain ⟨A8_5, c8_5, A12_7, c12_7, A16_9, c16_9, rfl⟩ := hS
  cases H
  exact rt Try.func80 rfl (.cell 1 (some 5) rfl rfl rfl .nil) rfl [] [⟨3, 2, 1, true⟩, ⟨4, 2, 2, true⟩, ⟨5, 2, 3, true⟩] rfl rfl rfl rfl rfl ⟨_, _, _, _, _, _, rfl, rfl, rfl⟩
 ·
  refine dr [0, 1] [0, 1, 2] [17] 18 rfl rfl rfl rfl (xv 0 [0, 1] [0, 1, 2] rfl (EV.fa 0 rfl) rfl rfl rfl rfl (xv 1 [0, 1] [0, 1, 2] rfl (EV.ld 0 none rfl rfl rfl) rfl rfl rfl rfl (xv 3 [0, 1] [0, 1, 2] rfl (EV.fa 1 rfl) rfl rfl rfl rfl (xv 4 [0, 1] [0, 1, 2] rfl (EV.ld 0 none rfl rfl rfl) rfl rfl rfl rfl (xv 7 [0, 1] [0, 1, 2] rfl (EV.fa 2 rfl) rfl rfl rfl rfl (xv 8 [0, 1] [0, 1, 2] rfl (EV.ld 0 none rfl rfl rfl) rfl rfl rfl rfl (xv 11 [0, 1] [0, 1, 2] rfl (EV.fa 3 rfl) rfl rfl rfl rfl (xv 12 [0, 1] [0, 1, 2] rfl (EV.ld 0 none rfl rfl rfl) rfl rfl rfl rfl (xv 14 [0, 1] [0, 1, 2] rfl (EV.fa 4 rfl) rfl rfl rfl rfl (xv 15 [0, 1] [0, 1, 2] rfl (EV.ld 0 none rfl rfl rfl) rfl rfl rfl rfl ?_))))))))))
  refine dl 3 #[true, true, true, true, true, true, true, true, true, true, true, true, true, false, true, true, false, false] (fun S => ∃ (A8_5 : Option Addr) (c8_5 : Nat) (A12_7 : Option Addr) (c12_7 : Nat) (A13_8 : Option Addr) (c13_8 : Nat), S = ⟨[(2, .pointer (some ⟨b2, 0, none⟩)), (4, .int .i64 a0_0), (8, .slice A8_5 l0_1.length c8_5), (12, .slice A12_7 l0_2.length c12_7), (13, .slice A13_8 0 c13_8), (15, .slice Al0_3 l0_3.length cl0_3), (18, .int .i64 a0_4)], [⟨b1, 44, [.int .i64 a0_0, .slice Al0_1 l0_1.length cl0_1, .slice Al0_2 l0_2.length cl0_2, .slice Al0_3 l0_3.length cl0_3, .int .i64 a0_4]⟩, ⟨b2, 44, [.int .i64 0, .slice none 0 0, .slice none 0 0, .slice none 0 0, .int .i64 0]⟩], [.sl 0 k70 Al0_1 cl0_1 l0_1 0 false, .sl 0 k70 Al0_2 cl0_2 l0_2 0 false, .sl 0 .bool Al0_3 cl0_3 l0_3 0 false, .sl 2 k70 A8_5 c8_5 l0_1 1 true, .sl 2 k70 A12_7 c12_7 l0_2 2 true, .sl 2 .bool A13_8 c13_8 [] 3 true]⟩) (fun S hS => ?_) (fun hn0 => ?_)
  ·
   obtain ⟨A8_5, c8_5, A12_7, c12_7, A13_8, c13_8, rfl⟩ := hS
   exact one1 13 rfl rfl (op_app (k := .bool) (s := 1) (by_ := 1) 5 2 rfl rfl rfl rfl (ap0 g3 dq) (ap0n g3 dq) (.inl rfl) true (fun _ => .inl rfl) rfl rfl fun A16_4 c16_4 => (nmE (en := [.sl 0 k70 Al0_1 cl0_1 l0_1 0 false, .sl 0 k70 Al0_2 cl0_2 l0_2 0 false, .sl 0 .bool Al0_3 cl0_3 l0_3 0 false, .sl 2 k70 A8_5 c8_5 l0_1 1 true, .sl 2 k70 A12_7 c12_7 l0_2 2 true, .sl 2 .bool A16_4 c16_4 l0_3 3 true]) (by kernel_rfl) (xs [0, 1] [0, 1, 2] rfl rfl rfl (one1 16 rfl rfl (ov (EV.bd (v := .agg #[.int .i64 a0_0, .slice A8_5 l0_1.length c8_5, .slice A12_7 l0_2.length c12_7, .slice A16_4 l0_3.length c16_4, .int .i64 a0_4]) rfl (by kernel_rfl)) rfl (xs [0, 1] [0, 1, 2] rfl rfl rfl (one1 17 rfl rfl (op_st (cs' := [.int .i64 a0_0, .slice A8_5 l0_1.length c8_5, .slice A12_7 l0_2.length c12_7, .slice A16_4 l0_3.length c16_4, .int .i64 a0_4]) 1 rfl rfl rfl rfl rfl rfl (xn rfl (xd (wk [2] [0, 1] [⟨0, 0, 0, false⟩, ⟨1, 0, 0, false⟩, ⟨2, 0, 0, false⟩, ⟨3, 2, 1, true⟩, ⟨4, 2, 2, true⟩, ⟨5, 2, 3, true⟩] (dj0 _ ⟨A8_5, c8_5, A12_7, c12_7, A16_4, c16_4, rfl⟩))))))))))))
  refine dl 4 #[true, true, true, true, true, true, true, true, true, false, true, true, true, false, true, true, false, false] (fun S => ∃ (A8_5 : Option Addr) (c8_5 : Nat) (A9_6 : Option Addr) (c9_6 : Nat) (A13_10 : Option Addr) (c13_10 : Nat), S = ⟨[(2, .pointer (some ⟨b2, 0, none⟩)), (4, .int .i64 a0_0), (8, .slice A8_5 l0_1.length c8_5), (9, .slice A9_6 0 c9_6), (11, .slice Al0_2 l0_2.length cl0_2), (13, .slice A13_10 0 c13_10), (15, .slice Al0_3 l0_3.length cl0_3), (18, .int .i64 a0_4)], [⟨b1, 44, [.int .i64 a0_0, .slice Al0_1 l0_1.length cl0_1, .slice Al0_2 l0_2.length cl0_2, .slice Al0_3 l0_3.length cl0_3, .int .i64 a0_4]⟩, ⟨b2, 44, [.int .i64 0, .slice none 0 0, .slice none 0 0, .slice none 0 0, .int .i64 0]⟩], [.sl 0 k70 Al0_1 cl0_1 l0_1 0 false, .sl 0 k70 Al0_2 cl0_2 l0_2 0 false, .sl 0 .bool Al0_3 cl0_3 l0_3 0 false, .sl 2 k70 A8_5 c8_5 l0_1 1 true, .sl 2 k70 A9_6 c9_6 [] 2 true, .sl 2 .bool A13_10 c13_10 [] 3 true]⟩) (fun S hS => ?_) (fun hn1 => ?_)
  ·
   obtain ⟨A8_5, c8_5, A9_6, c9_6, A13_10, c13_10, rfl⟩ := hS
   exact one1 9 rfl rfl (op_app (k := k70) (s := 3) (by_ := 24) 4 1 rfl rfl rfl rfl (ap0 g2 dq) (ap0n g2 dq) (.inl rfl) true (fun _ => .inl rfl) rfl rfl fun A12_5 c12_5 => (nmE (en := [.sl 0 k70 Al0_1 cl0_1 l0_1 0 false, .sl 0 k70 Al0_2 cl0_2 l0_2 0 false, .sl 0 .bool Al0_3 cl0_3 l0_3 0 false, .sl 2 k70 A8_5 c8_5 l0_1 1 true, .sl 2 .bool A13_10 c13_10 [] 3 true, .sl 2 k70 A12_5 c12_5 l0_2 2 true]) (by kernel_rfl) (xs [0, 1] [0, 1, 2] rfl rfl rfl (da (wk [2, 4, 8, 12, 13, 15, 18] [0, 1] [⟨0, 0, 0, false⟩, ⟨1, 0, 0, false⟩, ⟨2, 0, 0, false⟩, ⟨3, 2, 1, true⟩, ⟨5, 2, 2, true⟩, ⟨4, 2, 3, true⟩] (hn0 _ ⟨A8_5, c8_5, A12_5, c12_5, A13_10, c13_10, rfl⟩))))))
  refine dl 5 #[true, true, true, true, true, true, true, true, true, false, false, true, true, false, true, true, false, false] (fun S => ∃ (A8_5 : Option Addr) (c8_5 : Nat) (A9_6 : Option Addr) (c9_6 : Nat), S = ⟨[(2, .pointer (some ⟨b2, 0, none⟩)), (4, .int .i64 a0_0), (8, .slice A8_5 l0_1.length c8_5), (9, .slice A9_6 0 c9_6), (11, .slice Al0_2 l0_2.length cl0_2), (15, .slice Al0_3 l0_3.length cl0_3), (18, .int .i64 a0_4)], [⟨b1, 44, [.int .i64 a0_0, .slice Al0_1 l0_1.length cl0_1, .slice Al0_2 l0_2.length cl0_2, .slice Al0_3 l0_3.length cl0_3, .int .i64 a0_4]⟩, ⟨b2, 44, [.int .i64 0, .slice none 0 0, .slice none 0 0, .slice none 0 0, .int .i64 0]⟩], [.sl 0 k70 Al0_1 cl0_1 l0_1 0 false, .sl 0 k70 Al0_2 cl0_2 l0_2 0 false, .sl 0 .bool Al0_3 cl0_3 l0_3 0 false, .sl 2 k70 A8_5 c8_5 l0_1 1 true, .sl 2 k70 A9_6 c9_6 [] 2 true]⟩) (fun S hS => ?_) (fun hn2 => ?_)
  ·
   obtain ⟨A8_5, c8_5, A9_6, c9_6, rfl⟩ := hS
   refine one2 9 10 rfl rfl rfl rfl ?_ ?_
   ·
    exact op_app (k := k70) (s := 3) (by_ := 24) 4 1 rfl rfl rfl rfl (ap0 g2 dq) (ap0n g2 dq) (.inl rfl) true (fun _ => .inl rfl) rfl rfl fun A12_6 c12_6 => (nmE (en := [.sl 0 k70 Al0_1 cl0_1 l0_1 0 false, .sl 0 k70 Al0_2 cl0_2 l0_2 0 false, .sl 0 .bool Al0_3 cl0_3 l0_3 0 false, .sl 2 k70 A8_5 c8_5 l0_1 1 true, .sl 2 k70 A12_6 c12_6 l0_2 2 true]) (by kernel_rfl) (xs [0, 1] [0, 1, 2] rfl rfl rfl (one1 10 rfl rfl (op_lit (s := 1) (by_ := 1) .bool ([] : List Bool) [] [] 3 [] rfl rfl rfl rfl rfl rfl rfl rfl rfl rfl rfl rfl rfl dq rfl fun A13_7 c13_7 => (xs [0, 1] [0, 1, 2] rfl rfl rfl (da (wk [2, 4, 8, 12, 13, 15, 18] [0, 1] [⟨0, 0, 0, false⟩, ⟨1, 0, 0, false⟩, ⟨2, 0, 0, false⟩, ⟨3, 2, 1, true⟩, ⟨4, 2, 2, true⟩, ⟨5, 2, 3, true⟩] (hn0 _ ⟨A8_5, c8_5, A12_6, c12_6, A13_7, c13_7, rfl⟩))))))))
   ·
    exact op_lit (s := 1) (by_ := 1) .bool ([] : List Bool) [] [] 3 [] rfl rfl rfl rfl rfl rfl rfl rfl rfl rfl rfl rfl rfl dq rfl fun A13_8 c13_8 => (xs [0, 1] [0, 1, 2] rfl rfl rfl (da (wk [2, 4, 8, 9, 11, 13, 15, 18] [0, 1] [⟨0, 0, 0, false⟩, ⟨1, 0, 0, false⟩, ⟨2, 0, 0, false⟩, ⟨3, 2, 1, true⟩, ⟨4, 2, 2, true⟩, ⟨5, 2, 3, true⟩] (hn1 _ ⟨A8_5, c8_5, A9_6, c9_6, A13_8, c13_8, rfl⟩))))
  refine dl 5 #[true, true, true, true, true, true, false, true, true, false, true, true, true, false, true, true, false, false] (fun S => ∃ (A8_5 : Option Addr) (c8_5 : Nat) (A13_12 : Option Addr) (c13_12 : Nat), S = ⟨[(2, .pointer (some ⟨b2, 0, none⟩)), (4, .int .i64 a0_0), (8, .slice A8_5 l0_1.length c8_5), (11, .slice Al0_2 l0_2.length cl0_2), (13, .slice A13_12 0 c13_12), (15, .slice Al0_3 l0_3.length cl0_3), (18, .int .i64 a0_4)], [⟨b1, 44, [.int .i64 a0_0, .slice Al0_1 l0_1.length cl0_1, .slice Al0_2 l0_2.length cl0_2, .slice Al0_3 l0_3.length cl0_3, .int .i64 a0_4]⟩, ⟨b2, 44, [.int .i64 0, .slice none 0 0, .slice none 0 0, .slice none 0 0, .int .i64 0]⟩], [.sl 0 k70 Al0_1 cl0_1 l0_1 0 false, .sl 0 k70 Al0_2 cl0_2 l0_2 0 false, .sl 0 .bool Al0_3 cl0_3 l0_3 0 false, .sl 2 k70 A8_5 c8_5 l0_1 1 true, .sl 2 .bool A13_12 c13_12 [] 2 true]⟩) (fun S hS => ?_) (fun hn3 => ?_)
  ·
   obtain ⟨A8_5, c8_5, A13_12, c13_12, rfl⟩ := hS
   exact one1 6 rfl rfl (op_lit (s := 3) (by_ := 24) k70 ([] : List S70) [] [] 3 [] rfl rfl rfl rfl rfl rfl rfl rfl rfl rfl rfl rfl rfl dq rfl fun A9_9 c9_9 => (xs [0, 1] [0, 1, 2] rfl rfl rfl (da (wk [2, 4, 8, 9, 11, 13, 15, 18] [0, 1] [⟨0, 0, 0, false⟩, ⟨1, 0, 0, false⟩, ⟨2, 0, 0, false⟩, ⟨3, 2, 1, true⟩, ⟨5, 2, 2, true⟩, ⟨4, 2, 3, true⟩] (hn1 _ ⟨A8_5, c8_5, A9_9, c9_9, A13_12, c13_12, rfl⟩)))))
  refine dl 5 #[true, true, true, true, true, false, true, true, true, false, true, true, true, false, true, true, false, false] (fun S => ∃ (A5_4 : Option Addr) (c5_4 : Nat) (A9_14 : Option Addr) (c9_14 : Nat) (A13_16 : Option Addr) (c13_16 : Nat), S = ⟨[(2, .pointer (some ⟨b2, 0, none⟩)), (4, .int .i64 a0_0), (5, .slice A5_4 0 c5_4), (7, .slice Al0_1 l0_1.length cl0_1), (9, .slice A9_14 0 c9_14), (11, .slice Al0_2 l0_2.length cl0_2), (13, .slice A13_16 0 c13_16), (15, .slice Al0_3 l0_3.length cl0_3), (18, .int .i64 a0_4)], [⟨b1, 44, [.int .i64 a0_0, .slice Al0_1 l0_1.length cl0_1, .slice Al0_2 l0_2.length cl0_2, .slice Al0_3 l0_3.length cl0_3, .int .i64 a0_4]⟩, ⟨b2, 44, [.int .i64 0, .slice none 0 0, .slice none 0 0, .slice none 0 0, .int .i64 0]⟩], [.sl 0 k70 Al0_1 cl0_1 l0_1 0 false, .sl 0 k70 Al0_2 cl0_2 l0_2 0 false, .sl 0 .bool Al0_3 cl0_3 l0_3 0 false, .sl 2 k70 A5_4 c5_4 [] 1 true, .sl 2 k70 A9_14 c9_14 [] 2 true, .sl 2 .bool A13_16 c13_16 [] 3 true]⟩) (fun S hS => ?_) (fun hn4 => ?_)
  ·
   obtain ⟨A5_4, c5_4, A9_14, c9_14, A13_16, c13_16, rfl⟩ := hS
   exact one1 5 rfl rfl (op_app (k := k70) (s := 3) (by_ := 24) 3 0 rfl rfl rfl rfl (ap0 g1 dq) (ap0n g1 dq) (.inl rfl) true (fun _ => .inl rfl) rfl rfl fun A8_10 c8_10 => (nmE (en := [.sl 0 k70 Al0_1 cl0_1 l0_1 0 false, .sl 0 k70 Al0_2 cl0_2 l0_2 0 false, .sl 0 .bool Al0_3 cl0_3 l0_3 0 false, .sl 2 k70 A9_14 c9_14 [] 2 true, .sl 2 .bool A13_16 c13_16 [] 3 true, .sl 2 k70 A8_10 c8_10 l0_1 1 true]) (by kernel_rfl) (xs [0, 1] [0, 1, 2] rfl rfl rfl (da (wk [2, 4, 8, 9, 11, 13, 15, 18] [0, 1] [⟨0, 0, 0, false⟩, ⟨1, 0, 0, false⟩, ⟨2, 0, 0, false⟩, ⟨5, 2, 1, true⟩, ⟨3, 2, 2, true⟩, ⟨4, 2, 3, true⟩] (hn1 _ ⟨A8_10, c8_10, A9_14, c9_14, A13_16, c13_16, rfl⟩))))))
  refine dl 6 #[true, true, true, true, true, false, true, true, true, false, false, true, true, false, true, true, false, false] (fun S => ∃ (A5_4 : Option Addr) (c5_4 : Nat) (A9_14 : Option Addr) (c9_14 : Nat), S = ⟨[(2, .pointer (some ⟨b2, 0, none⟩)), (4, .int .i64 a0_0), (5, .slice A5_4 0 c5_4), (7, .slice Al0_1 l0_1.length cl0_1), (9, .slice A9_14 0 c9_14), (11, .slice Al0_2 l0_2.length cl0_2), (15, .slice Al0_3 l0_3.length cl0_3), (18, .int .i64 a0_4)], [⟨b1, 44, [.int .i64 a0_0, .slice Al0_1 l0_1.length cl0_1, .slice Al0_2 l0_2.length cl0_2, .slice Al0_3 l0_3.length cl0_3, .int .i64 a0_4]⟩, ⟨b2, 44, [.int .i64 0, .slice none 0 0, .slice none 0 0, .slice none 0 0, .int .i64 0]⟩], [.sl 0 k70 Al0_1 cl0_1 l0_1 0 false, .sl 0 k70 Al0_2 cl0_2 l0_2 0 false, .sl 0 .bool Al0_3 cl0_3 l0_3 0 false, .sl 2 k70 A5_4 c5_4 [] 1 true, .sl 2 k70 A9_14 c9_14 [] 2 true]⟩) (fun S hS => ?_) (fun hn5 => ?_)
  ·
   obtain ⟨A5_4, c5_4, A9_14, c9_14, rfl⟩ := hS
   refine one2 5 10 rfl rfl rfl rfl ?_ ?_
   ·
    exact op_app (k := k70) (s := 3) (by_ := 24) 3 0 rfl rfl rfl rfl (ap0 g1 dq) (ap0n g1 dq) (.inl rfl) true (fun _ => .inl rfl) rfl rfl fun A8_11 c8_11 => (nmE (en := [.sl 0 k70 Al0_1 cl0_1 l0_1 0 false, .sl 0 k70 Al0_2 cl0_2 l0_2 0 false, .sl 0 .bool Al0_3 cl0_3 l0_3 0 false, .sl 2 k70 A9_14 c9_14 [] 2 true, .sl 2 k70 A8_11 c8_11 l0_1 1 true]) (by kernel_rfl) (xs [0, 1] [0, 1, 2] rfl rfl rfl (da (wk [2, 4, 8, 9, 11, 15, 18] [0, 1] [⟨0, 0, 0, false⟩, ⟨1, 0, 0, false⟩, ⟨2, 0, 0, false⟩, ⟨4, 2, 1, true⟩, ⟨3, 2, 2, true⟩] (hn2 _ ⟨A8_11, c8_11, A9_14, c9_14, rfl⟩)))))
   ·
    exact op_lit (s := 1) (by_ := 1) .bool ([] : List Bool) [] [] 3 [] rfl rfl rfl rfl rfl rfl rfl rfl rfl rfl rfl rfl rfl dq rfl fun A13_12 c13_12 => (xs [0, 1] [0, 1, 2] rfl rfl rfl (da (wk [2, 4, 5, 7, 9, 11, 13, 15, 18] [0, 1] [⟨0, 0, 0, false⟩, ⟨1, 0, 0, false⟩, ⟨2, 0, 0, false⟩, ⟨3, 2, 1, true⟩, ⟨4, 2, 2, true⟩, ⟨5, 2, 3, true⟩] (hn4 _ ⟨A5_4, c5_4, A9_14, c9_14, A13_12, c13_12, rfl⟩))))
  refine dl 6 #[true, true, true, true, true, false, false, true, true, false, true, true, true, false, true, true, false, false] (fun S => ∃ (A5_4 : Option Addr) (c5_4 : Nat) (A13_18 : Option Addr) (c13_18 : Nat), S = ⟨[(2, .pointer (some ⟨b2, 0, none⟩)), (4, .int .i64 a0_0), (5, .slice A5_4 0 c5_4), (7, .slice Al0_1 l0_1.length cl0_1), (11, .slice Al0_2 l0_2.length cl0_2), (13, .slice A13_18 0 c13_18), (15, .slice Al0_3 l0_3.length cl0_3), (18, .int .i64 a0_4)], [⟨b1, 44, [.int .i64 a0_0, .slice Al0_1 l0_1.length cl0_1, .slice Al0_2 l0_2.length cl0_2, .slice Al0_3 l0_3.length cl0_3, .int .i64 a0_4]⟩, ⟨b2, 44, [.int .i64 0, .slice none 0 0, .slice none 0 0, .slice none 0 0, .int .i64 0]⟩], [.sl 0 k70 Al0_1 cl0_1 l0_1 0 false, .sl 0 k70 Al0_2 cl0_2 l0_2 0 false, .sl 0 .bool Al0_3 cl0_3 l0_3 0 false, .sl 2 k70 A5_4 c5_4 [] 1 true, .sl 2 .bool A13_18 c13_18 [] 2 true]⟩) (fun S hS => ?_) (fun hn6 => ?_)
  ·
   obtain ⟨A5_4, c5_4, A13_18, c13_18, rfl⟩ := hS
   refine one2 5 6 rfl rfl rfl rfl ?_ ?_
   ·
    exact op_app (k := k70) (s := 3) (by_ := 24) 3 0 rfl rfl rfl rfl (ap0 g1 dq) (ap0n g1 dq) (.inl rfl) true (fun _ => .inl rfl) rfl rfl fun A8_13 c8_13 => (nmE (en := [.sl 0 k70 Al0_1 cl0_1 l0_1 0 false, .sl 0 k70 Al0_2 cl0_2 l0_2 0 false, .sl 0 .bool Al0_3 cl0_3 l0_3 0 false, .sl 2 .bool A13_18 c13_18 [] 2 true, .sl 2 k70 A8_13 c8_13 l0_1 1 true]) (by kernel_rfl) (xs [0, 1] [0, 1, 2] rfl rfl rfl (da (wk [2, 4, 8, 11, 13, 15, 18] [0, 1] [⟨0, 0, 0, false⟩, ⟨1, 0, 0, false⟩, ⟨2, 0, 0, false⟩, ⟨4, 2, 1, true⟩, ⟨3, 2, 2, true⟩] (hn3 _ ⟨A8_13, c8_13, A13_18, c13_18, rfl⟩)))))
   ·
    exact op_lit (s := 3) (by_ := 24) k70 ([] : List S70) [] [] 3 [] rfl rfl rfl rfl rfl rfl rfl rfl rfl rfl rfl rfl rfl dq rfl fun A9_14 c9_14 => (xs [0, 1] [0, 1, 2] rfl rfl rfl (da (wk [2, 4, 5, 7, 9, 11, 13, 15, 18] [0, 1] [⟨0, 0, 0, false⟩, ⟨1, 0, 0, false⟩, ⟨2, 0, 0, false⟩, ⟨3, 2, 1, true⟩, ⟨5, 2, 2, true⟩, ⟨4, 2, 3, true⟩] (hn4 _ ⟨A5_4, c5_4, A9_14, c9_14, A13_18, c13_18, rfl⟩))))
  refine dl 6 #[true, true, false, true, true, false, true, true, true, false, true, true, true, false, true, true, false, false] (fun S => ∃ (A9_21 : Option Addr) (c9_21 : Nat) (A13_23 : Option Addr) (c13_23 : Nat), S = ⟨[(2, .pointer (some ⟨b2, 0, none⟩)), (4, .int .i64 a0_0), (7, .slice Al0_1 l0_1.length cl0_1), (9, .slice A9_21 0 c9_21), (11, .slice Al0_2 l0_2.length cl0_2), (13, .slice A13_23 0 c13_23), (15, .slice Al0_3 l0_3.length cl0_3), (18, .int .i64 a0_4)], [⟨b1, 44, [.int .i64 a0_0, .slice Al0_1 l0_1.length cl0_1, .slice Al0_2 l0_2.length cl0_2, .slice Al0_3 l0_3.length cl0_3, .int .i64 a0_4]⟩, ⟨b2, 44, [.int .i64 0, .slice none 0 0, .slice none 0 0, .slice none 0 0, .int .i64 0]⟩], [.sl 0 k70 Al0_1 cl0_1 l0_1 0 false, .sl 0 k70 Al0_2 cl0_2 l0_2 0 false, .sl 0 .bool Al0_3 cl0_3 l0_3 0 false, .sl 2 k70 A9_21 c9_21 [] 1 true, .sl 2 .bool A13_23 c13_23 [] 2 true]⟩) (fun S hS => ?_) (fun hn7 => ?_)
  ·
   obtain ⟨A9_21, c9_21, A13_23, c13_23, rfl⟩ := hS
   exact one1 2 rfl rfl (op_lit (s := 3) (by_ := 24) k70 ([] : List S70) [] [] 3 [] rfl rfl rfl rfl rfl rfl rfl rfl rfl rfl rfl rfl rfl dq rfl fun A5_15 c5_15 => (xs [0, 1] [0, 1, 2] rfl rfl rfl (da (wk [2, 4, 5, 7, 9, 11, 13, 15, 18] [0, 1] [⟨0, 0, 0, false⟩, ⟨1, 0, 0, false⟩, ⟨2, 0, 0, false⟩, ⟨5, 2, 1, true⟩, ⟨3, 2, 2, true⟩, ⟨4, 2, 3, true⟩] (hn4 _ ⟨A5_15, c5_15, A9_21, c9_21, A13_23, c13_23, rfl⟩)))))
  refine one3 2 6 10 rfl rfl rfl rfl rfl rfl ?_ ?_ ?_
  ·
   refine op_lit (s := 3) (by_ := 24) k70 ([] : List S70) [] [] 1 [] rfl rfl rfl rfl rfl rfl rfl rfl rfl rfl rfl rfl rfl dq rfl fun A5_16 c5_16 => (xs [0, 1] [0, 1, 2] rfl rfl rfl ?_)
   refine one3 5 6 10 rfl rfl rfl rfl rfl rfl ?_ ?_ ?_
   ·
    refine op_app (k := k70) (s := 3) (by_ := 24) 3 0 rfl rfl rfl rfl (ap0 g1 dq) (ap0n g1 dq) (.inl rfl) true (fun _ => .inl rfl) rfl rfl fun A8_17 c8_17 => (nmE (en := [.sl 0 k70 Al0_1 cl0_1 l0_1 0 false, .sl 0 k70 Al0_2 cl0_2 l0_2 0 false, .sl 0 .bool Al0_3 cl0_3 l0_3 0 false, .sl 2 k70 A8_17 c8_17 l0_1 1 true]) (by kernel_rfl) (xs [0, 1] [0, 1, 2] rfl rfl rfl ?_))
    refine one2 6 10 rfl rfl rfl rfl ?_ ?_
    ·
     exact op_lit (s := 3) (by_ := 24) k70 ([] : List S70) [] [] 2 [] rfl rfl rfl rfl rfl rfl rfl rfl rfl rfl rfl rfl rfl dq rfl fun A9_18 c9_18 => (xs [0, 1] [0, 1, 2] rfl rfl rfl (da (wk [2, 4, 8, 9, 11, 15, 18] [0, 1] [⟨0, 0, 0, false⟩, ⟨1, 0, 0, false⟩, ⟨2, 0, 0, false⟩, ⟨3, 2, 1, true⟩, ⟨4, 2, 2, true⟩] (hn2 _ ⟨A8_17, c8_17, A9_18, c9_18, rfl⟩))))
    ·
     exact op_lit (s := 1) (by_ := 1) .bool ([] : List Bool) [] [] 2 [] rfl rfl rfl rfl rfl rfl rfl rfl rfl rfl rfl rfl rfl dq rfl fun A13_19 c13_19 => (xs [0, 1] [0, 1, 2] rfl rfl rfl (da (wk [2, 4, 8, 11, 13, 15, 18] [0, 1] [⟨0, 0, 0, false⟩, ⟨1, 0, 0, false⟩, ⟨2, 0, 0, false⟩, ⟨3, 2, 1, true⟩, ⟨4, 2, 2, true⟩] (hn3 _ ⟨A8_17, c8_17, A13_19, c13_19, rfl⟩))))
   ·
    exact op_lit (s := 3) (by_ := 24) k70 ([] : List S70) [] [] 2 [] rfl rfl rfl rfl rfl rfl rfl rfl rfl rfl rfl rfl rfl dq rfl fun A9_20 c9_20 => (xs [0, 1] [0, 1, 2] rfl rfl rfl (da (wk [2, 4, 5, 7, 9, 11, 15, 18] [0, 1] [⟨0, 0, 0, false⟩, ⟨1, 0, 0, false⟩, ⟨2, 0, 0, false⟩, ⟨3, 2, 1, true⟩, ⟨4, 2, 2, true⟩] (hn5 _ ⟨A5_16, c5_16, A9_20, c9_20, rfl⟩))))
   ·
    exact op_lit (s := 1) (by_ := 1) .bool ([] : List Bool) [] [] 2 [] rfl rfl rfl rfl rfl rfl rfl rfl rfl rfl rfl rfl rfl dq rfl fun A13_21 c13_21 => (xs [0, 1] [0, 1, 2] rfl rfl rfl (da (wk [2, 4, 5, 7, 11, 13, 15, 18] [0, 1] [⟨0, 0, 0, false⟩, ⟨1, 0, 0, false⟩, ⟨2, 0, 0, false⟩, ⟨3, 2, 1, true⟩, ⟨4, 2, 2, true⟩] (hn6 _ ⟨A5_16, c5_16, A13_21, c13_21, rfl⟩))))
  ·
   refine op_lit (s := 3) (by_ := 24) k70 ([] : List S70) [] [] 1 [] rfl rfl rfl rfl rfl rfl rfl rfl rfl rfl rfl rfl rfl dq rfl fun A9_22 c9_22 => (xs [0, 1] [0, 1, 2] rfl rfl rfl ?_)
   refine one2 2 10 rfl rfl rfl rfl ?_ ?_
   ·
    exact op_lit (s := 3) (by_ := 24) k70 ([] : List S70) [] [] 2 [] rfl rfl rfl rfl rfl rfl rfl rfl rfl rfl rfl rfl rfl dq rfl fun A5_23 c5_23 => (xs [0, 1] [0, 1, 2] rfl rfl rfl (da (wk [2, 4, 5, 7, 9, 11, 15, 18] [0, 1] [⟨0, 0, 0, false⟩, ⟨1, 0, 0, false⟩, ⟨2, 0, 0, false⟩, ⟨4, 2, 1, true⟩, ⟨3, 2, 2, true⟩] (hn5 _ ⟨A5_23, c5_23, A9_22, c9_22, rfl⟩))))
   ·
    exact op_lit (s := 1) (by_ := 1) .bool ([] : List Bool) [] [] 2 [] rfl rfl rfl rfl rfl rfl rfl rfl rfl rfl rfl rfl rfl dq rfl fun A13_24 c13_24 => (xs [0, 1] [0, 1, 2] rfl rfl rfl (da (wk [2, 4, 7, 9, 11, 13, 15, 18] [0, 1] [⟨0, 0, 0, false⟩, ⟨1, 0, 0, false⟩, ⟨2, 0, 0, false⟩, ⟨3, 2, 1, true⟩, ⟨4, 2, 2, true⟩] (hn7 _ ⟨A9_22, c9_22, A13_24, c13_24, rfl⟩))))
  ·
   refine op_lit (s := 1) (by_ := 1) .bool ([] : List Bool) [] [] 1 [] rfl rfl rfl rfl rfl rfl rfl rfl rfl rfl rfl rfl rfl dq rfl fun A13_25 c13_25 => (xs [0, 1] [0, 1, 2] rfl rfl rfl ?_)
   refine one2 2 6 rfl rfl rfl rfl ?_ ?_
   ·
    exact op_lit (s := 3) (by_ := 24) k70 ([] : List S70) [] [] 2 [] rfl rfl rfl rfl rfl rfl rfl rfl rfl rfl rfl rfl rfl dq rfl fun A5_26 c5_26 => (xs [0, 1] [0, 1, 2] rfl rfl rfl (da (wk [2, 4, 5, 7, 11, 13, 15, 18] [0, 1] [⟨0, 0, 0, false⟩, ⟨1, 0, 0, false⟩, ⟨2, 0, 0, false⟩, ⟨4, 2, 1, true⟩, ⟨3, 2, 2, true⟩] (hn6 _ ⟨A5_26, c5_26, A13_25, c13_25, rfl⟩))))
   ·
    exact op_lit (s := 3) (by_ := 24) k70 ([] : List S70) [] [] 2 [] rfl rfl rfl rfl rfl rfl rfl rfl rfl rfl rfl rfl rfl dq rfl fun A9_27 c9_27 => (xs [0, 1] [0, 1, 2] rfl rfl rfl (da (wk [2, 4, 7, 9, 11, 13, 15, 18] [0, 1] [⟨0, 0, 0, false⟩, ⟨1, 0, 0, false⟩, ⟨2, 0, 0, false⟩, ⟨4, 2, 1, true⟩, ⟨3, 2, 2, true⟩] (hn7 _ ⟨A9_27, c9_27, A13_25, c13_25, rfl⟩))))
end Go.Proofs.Ytajjeemkdjfilaa.K
namespace Go.Proofs.Ytajjeemkdjfilaa.K
open Go Go.RowKit
set_option linter.unusedVariables false
set_option linter.unusedSimpArgs false
def spec_l19Copy.l0 : Nat → Int → Int → Int → (List S44) → Int → Int → (List S44) → Int → Int → (List S44) → Option ((List S44) × Int × Int)
 | 0, _, _, _, _, _, _, _, _, _, _ => none
 | k + 1, x2_4, x2_1_1, x2_1_2, x2_2_0, x2_2_1, x2_2_2, x2_3_0, x2_3_1, x2_3_2, l0_0 => if x2_4 < (l0_0.length : Int) then (if 0 ≤ x2_4 then ((spec_l16Copy.f ((rd_T44 l0_0 x2_4).f0) ((rd_T44 l0_0 x2_4).f1) ((rd_T44 l0_0 x2_4).f2) ((rd_T44 l0_0 x2_4).f3) ((rd_T44 l0_0 x2_4).f4)).bind fun bt6 => (if x2_3_0.length < 1599289640401 then (spec_l19Copy.l0 k (wrap64 (x2_4 + 1)) x2_1_1 x2_1_2 x2_2_0 x2_2_1 x2_2_2 (x2_3_0 ++ ([(⟨bt6.1, bt6.2.1, bt6.2.2.1, bt6.2.2.2.1, bt6.2.2.2.2⟩ : S44)] : List S44)) x2_3_1 x2_3_2 l0_0) else none)) else none) else (some (x2_3_0, x2_3_1, x2_3_2))
def spec_l19Copy.f (k : Nat) (l0_0 : List S44) (a0_1 : Int) (a0_2 : Int) : Option ((List S44) × Int × Int) := spec_l19Copy.l0 k 0 a0_1 a0_2 [] 0 0 [] a0_1 a0_2 l0_0
set_option maxHeartbeats 4000000 in
set_option maxRecDepth 100000 in
theorem spec_l19Copy.ok (k : Nat) (l0_0 : List S44) (Al0_0 : Option Addr) (cl0_0 : Nat) (a0_1 : Int) (a0_2 : Int) (r0 : List S44) (r1 : Int) (r2 : Int) (H : spec_l19Copy.f k l0_0 a0_1 a0_2 = some (r0, r1, r2)) : Fn Try.prog 104 [.agg #[.slice Al0_0 l0_0.length cl0_0, .int .i64 a0_1, .int .i64 a0_2]] [] [.sl 0 k44 Al0_0 cl0_0 l0_0 0 false] (fun v bx en => ∃ A0 c0, v = .agg #[.slice A0 r0.length c0, .int .i64 r1, .int .i64 r2] ∧ bx = [] ∧ en = [.sl 2 k44 A0 c0 r0 1 true]) := by
 refine fn_ 31 Try.func104 rfl rfl rfl (fun base T w0 => ?_)
 rw [spec_l19Copy.f] at H
 refine gs (rg (so rfl (op_box (cs := [.slice Al0_0 l0_0.length cl0_0, .int .i64 a0_1, .int .i64 a0_2]) rfl rfl rfl fun b1 => (so rfl (op_alloc (cs := [.slice none 0 0, .int .i64 0, .int .i64 0]) (by kernel_rfl) rfl fun b2 => (re (gs (rg (sv (EV.fa 1 rfl) rfl (sv (EV.ld 0 none rfl rfl rfl) rfl (sv (EV.fa 2 rfl) rfl (sv (EV.ld 0 none rfl rfl rfl) rfl (sv (EV.bd (v := .agg #[.slice none 0 0, .int .i64 a0_1, .int .i64 a0_2]) rfl (by kernel_rfl)) rfl (so rfl (op_alloc (cs := [.slice none 0 0, .int .i64 0, .int .i64 0]) (by kernel_rfl) rfl fun b3 => (so rfl (op_st (cs' := [.slice none 0 0, .int .i64 a0_1, .int .i64 a0_2]) 2 rfl rfl rfl rfl rfl rfl (re (pr [1, 2, 3] [0, 1, 2] [0] rfl rfl rfl rfl (gs (gs (rg (sv (EV.as rfl) rfl (re (gb (nil_ k44 1 dq (nil_ k44 2 dq ?_)))))))))))))))))))))))))))
 refine lo (fun kk S => ∃ (x2_4 : Int) (x2_1_1 : Int) (x2_1_2 : Int) (x2_2_0 : List S44) (Ax2_2_0 : Option Addr) (cx2_2_0 : Nat) (x2_2_1 : Int) (x2_2_2 : Int) (x2_3_0 : List S44) (Ax2_3_0 : Option Addr) (cx2_3_0 : Nat) (x2_3_1 : Int) (x2_3_2 : Int), spec_l19Copy.l0 kk x2_4 x2_1_1 x2_1_2 x2_2_0 x2_2_1 x2_2_2 x2_3_0 x2_3_1 x2_3_2 l0_0 = some (r0, r1, r2) ∧ S = ⟨[(1, .pointer (some ⟨b1, 0, none⟩)), (2, .pointer (some ⟨b2, 0, none⟩)), (3, .pointer (some ⟨b3, 0, none⟩)), (4, .int .i64 x2_4)], [⟨b1, 73, [.slice Al0_0 l0_0.length cl0_0, .int .i64 x2_1_1, .int .i64 x2_1_2]⟩, ⟨b2, 73, [.slice Ax2_2_0 x2_2_0.length cx2_2_0, .int .i64 x2_2_1, .int .i64 x2_2_2]⟩, ⟨b3, 73, [.slice Ax2_3_0 x2_3_0.length cx2_3_0, .int .i64 x2_3_1, .int .i64 x2_3_2]⟩], [.sl 2 k44 Ax2_2_0 cx2_2_0 x2_2_0 1 true, .sl 2 k44 Ax2_3_0 cx2_3_0 x2_3_0 2 true, .sl 0 k44 Al0_0 cl0_0 l0_0 0 false]⟩) (fun S hS => ?_) (fun n0 ih0 S hS => ?_) ⟨0, a0_1, a0_2, [], none, 0, 0, 0, [], none, 0, a0_1, a0_2, H, rfl⟩ (fun h => wk [1, 2, 3, 4] [0, 1, 2] [⟨1, 2, 1, true⟩, ⟨2, 2, 2, true⟩, ⟨0, 0, 0, false⟩] h)
 · clear H; obtain ⟨_, _, _, _, _, _, _, _, _, _, _, _, _, H, _⟩ := hS; rw [spec_l19Copy.l0] at H; cases H
 clear H
 obtain ⟨x2_4, x2_1_1, x2_1_2, x2_2_0, Ax2_2_0, cx2_2_0, x2_2_1, x2_2_2, x2_3_0, Ax2_3_0, cx2_3_0, x2_3_1, x2_3_2, H, rfl⟩ := hS
 rw [spec_l19Copy.l0] at H
 refine gs (gs (rg (sv (EV.mv rfl) rfl (sv (EV.fa 0 rfl) rfl (sv (EV.ld 0 none rfl rfl rfl) rfl (sv (EV.ln rfl) rfl (sv (EV.lss rfl rfl) rfl (re ?_))))))))
 revert H; refine ifsI ?_ ?_ <;> intro c1 H
 ·
  refine gt rfl (dT c1) (gk (gs (gb (gs (rg (sv (EV.fa 0 rfl) rfl (sv (EV.ld 0 none rfl rfl rfl) rfl (sv (EV.mv rfl) rfl ?_))))))))
  revert H; refine ggI ?_; intro g2 H
  refine sv (EV.ix 2 rfl rfl rfl g2 c1 rfl) rfl (opn (i := x2_4) 2 z44 rfl g2 c1 fun A_3 c_3 A_4 c_4 A_5 c_5 => (sv (EV.lc (v := .agg #[.int .i64 ((rd_T44 l0_0 x2_4).f0), .slice A_3 ((rd_T44 l0_0 x2_4).f1).length c_3, .slice A_4 ((rd_T44 l0_0 x2_4).f2).length c_4, .slice A_5 ((rd_T44 l0_0 x2_4).f3).length c_5, .int .i64 ((rd_T44 l0_0 x2_4).f4)]) 0 (some 5) 3 rfl rfl rfl rfl) rfl ?_))
  revert H; refine bdI ?_; rintro ⟨t6_0, t6_1, t6_2, t6_3, t6_4⟩ A6 H
  refine so rfl (op_call (spec_l16Copy.ok ((rd_T44 l0_0 x2_4).f0) ((rd_T44 l0_0 x2_4).f1) A_3 c_3 ((rd_T44 l0_0 x2_4).f2) A_4 c_4 ((rd_T44 l0_0 x2_4).f3) A_5 c_5 ((rd_T44 l0_0 x2_4).f4) _ _ _ _ _ A6) [⟨4, 0, 0, false⟩, ⟨5, 0, 0, false⟩, ⟨6, 0, 0, false⟩] 3 rfl rfl rfl rfl rfl ?_)
  rintro _ _ _ ⟨At6_1, ct6_1, At6_2, ct6_2, At6_3, ct6_3, rfl, rfl, rfl⟩
  refine so rfl (op_alloc (cs := [.int .i64 0, .slice none 0 0, .slice none 0 0, .slice none 0 0, .int .i64 0]) (by kernel_rfl) rfl fun b5 => (so rfl (op_st (cs' := [.int .i64 t6_0, .slice At6_1 t6_1.length ct6_1, .slice At6_2 t6_2.length ct6_2, .slice At6_3 t6_3.length ct6_3, .int .i64 t6_4]) 3 rfl rfl rfl rfl rfl rfl (re (pr [1, 2, 3, 4, 5] [0, 1, 2, 3] [0, 1, 2, 7, 8, 9] rfl rfl rfl rfl (rg (sv (EV.fa 0 rfl) rfl (sv (EV.ld 2 none rfl rfl rfl) rfl (sv (EV.ld (v := .agg #[.int .i64 t6_0, .slice At6_1 t6_1.length ct6_1, .slice At6_2 t6_2.length ct6_2, .slice At6_3 t6_3.length ct6_3, .int .i64 t6_4]) 3 (some 5) rfl rfl rfl) rfl (so rfl (op_lit (s := 5) (by_ := 88) k44 ([(⟨t6_0, t6_1, t6_2, t6_3, t6_4⟩ : S44)] : List S44) [[(At6_1, ct6_1), (At6_2, ct6_2), (At6_3, ct6_3)]] [3, 4, 5] 7 [.tmp 26] rfl rfl rfl rfl rfl rfl rfl rfl rfl rfl rfl rfl rfl dq rfl fun A27_7 c27_7 => (nmE (en := [.sl 2 k44 Ax2_2_0 cx2_2_0 x2_2_0 1 true, .sl 2 k44 Ax2_3_0 cx2_3_0 x2_3_0 2 true, .sl 0 k44 Al0_0 cl0_0 l0_0 0 false, .sl 2 k70 At6_1 ct6_1 t6_1 7 true, .sl 2 k70 At6_2 ct6_2 t6_2 7 true, .sl 2 .bool At6_3 ct6_3 t6_3 7 true, .sl 2 k44 A27_7 c27_7 ([(⟨t6_0, t6_1, t6_2, t6_3, t6_4⟩ : S44)] : List S44) 7 true]) (by kernel_rfl) ?_))))))))))))
  revert H; refine ggI ?_; intro g8 H
  exact so rfl (op_app (k := k44) (s := 5) (by_ := 88) 1 6 rfl rfl rfl rfl (ap1 g8 dq) (ap1n g8 dq) (.inr ⟨dq, dq, rfl, dq⟩) true (fun _ => .inr ⟨rfl, rfl, dq⟩) rfl rfl fun A28_9 c28_9 => (nmE (en := [.sl 2 k44 Ax2_2_0 cx2_2_0 x2_2_0 1 true, .sl 0 k44 Al0_0 cl0_0 l0_0 0 false, .sl 2 k70 At6_1 ct6_1 t6_1 2 true, .sl 2 k70 At6_2 ct6_2 t6_2 2 true, .sl 2 .bool At6_3 ct6_3 t6_3 2 true, .sl 2 k44 A27_7 c27_7 ([(⟨t6_0, t6_1, t6_2, t6_3, t6_4⟩ : S44)] : List S44) 2 true, .sl 2 k44 A28_9 c28_9 (x2_3_0 ++ ([(⟨t6_0, t6_1, t6_2, t6_3, t6_4⟩ : S44)] : List S44)) 2 true]) (by kernel_rfl) (sv (EV.fa 0 rfl) rfl (so rfl (op_st (cs' := [.slice A28_9 (x2_3_0 ++ ([(⟨t6_0, t6_1, t6_2, t6_3, t6_4⟩ : S44)] : List S44)).length c28_9, .int .i64 x2_3_1, .int .i64 x2_3_2]) 2 rfl rfl rfl rfl rfl rfl (re (pr [1, 2, 3, 4] [0, 1, 2] [0, 1, 6] rfl rfl rfl rfl (ge (rg (sv (EV.mv rfl) rfl (sv (EV.add rfl rfl) rfl (sv (EV.as rfl) rfl (re (wk [1, 2, 3, 4] [0, 1, 2] [⟨0, 2, 1, true⟩, ⟨2, 2, 2, true⟩, ⟨1, 0, 0, false⟩] (ih0 _ (by omega) _ ⟨wrap64 (x2_4 + 1), x2_1_1, x2_1_2, x2_2_0, Ax2_2_0, cx2_2_0, x2_2_1, x2_2_2, x2_3_0 ++ ([(⟨t6_0, t6_1, t6_2, t6_3, t6_4⟩ : S44)] : List S44), A28_9, c28_9, x2_3_1, x2_3_2, H, rfl⟩)))))))))))))))
 ·
  refine gf rfl (dF c1) (gx rfl (gs (rg (sv (EV.ld (v := .agg #[.slice Ax2_3_0 x2_3_0.length cx2_3_0, .int .i64 x2_3_1, .int .i64 x2_3_2]) 2 (some 3) rfl rfl rfl) rfl (so rfl (op_st (cs' := [.slice Ax2_3_0 x2_3_0.length cx2_3_0, .int .i64 x2_3_1, .int .i64 x2_3_2]) 1 rfl rfl rfl rfl rfl rfl (re (pr [2] [1] [1] rfl rfl rfl rfl ?_))))))))
  cases H
  exact rt Try.func104 rfl (.cell 0 (some 3) rfl rfl rfl .nil) rfl [] [⟨0, 2, 1, true⟩] rfl rfl rfl rfl rfl ⟨_, _, rfl, rfl, rfl⟩
end Go.Proofs.Ytajjeemkdjfilaa.K
namespace Go.Proofs.Ytajjeemkdjfilaa.K
open Go Go.RowKit
set_option linter.unusedVariables false
set_option linter.unusedSimpArgs false
def spec_IsValidTask.f (k : Nat) (a0_0 : Int) (l0_1 : List S70) (l0_2 : List S70) (l0_3 : List Bool) (a0_4 : Int) : Option (Bool) := (spec_IsValidJoinKind.f a0_0).bind fun t1 => (if t1 = true then ((spec_AreValidRows.f k l0_1).bind fun t3 => (if t3 = true then ((spec_AreValidRows.f k l0_2).bind fun t5 => (if t5 = true then (if (l0_3.length : Int) = (l0_1.length : Int) then ((spec_l1In.f a0_4 0 4).bind fun t8 => (some t8)) else (some false)) else (some false))) else (some false))) else (some false))
set_option maxHeartbeats 4000000 in
set_option maxRecDepth 100000 in
theorem spec_IsValidTask.ok (k : Nat) (a0_0 : Int) (l0_1 : List S70) (Al0_1 : Option Addr) (cl0_1 : Nat) (l0_2 : List S70) (Al0_2 : Option Addr) (cl0_2 : Nat) (l0_3 : List Bool) (Al0_3 : Option Addr) (cl0_3 : Nat) (a0_4 : Int) (r0 : Bool) (H : spec_IsValidTask.f k a0_0 l0_1 l0_2 l0_3 a0_4 = some r0) : Fn Try.prog 31 [.agg #[.int .i64 a0_0, .slice Al0_1 l0_1.length cl0_1, .slice Al0_2 l0_2.length cl0_2, .slice Al0_3 l0_3.length cl0_3, .int .i64 a0_4]] [] [.sl 0 k70 Al0_1 cl0_1 l0_1 0 false, .sl 0 k70 Al0_2 cl0_2 l0_2 0 false, .sl 0 .bool Al0_3 cl0_3 l0_3 0 false] (fun v bx en => v = .bool r0 ∧ bx = [] ∧ en = []) := by
 refine fn_ 30 Try.func31 rfl rfl rfl (fun base T w0 => ?_)
 rw [spec_IsValidTask.f] at H
 refine gs (rg (so rfl (op_box (cs := [.int .i64 a0_0, .slice Al0_1 l0_1.length cl0_1, .slice Al0_2 l0_2.length cl0_2, .slice Al0_3 l0_3.length cl0_3, .int .i64 a0_4]) rfl rfl rfl fun b1 => (sv (EV.as rfl) rfl (re (gs (rg (sv (EV.fa 0 rfl) rfl (sv (EV.ld 0 none rfl rfl rfl) rfl ?_)))))))))
 revert H; refine bdI ?_; rintro t1 A1 H
 refine so rfl (op_call (spec_IsValidJoinKind.ok a0_0 _ A1) [] 1 rfl rfl rfl rfl rfl ?_)
 rintro _ _ _ ⟨rfl, rfl, rfl⟩
 refine sv (EV.mv rfl) rfl ?_
 revert H; refine ifsI ?_ ?_ <;> intro c2 H
 ·
  subst c2
  refine ts 6 rfl rfl (sv (EV.fa 1 rfl) rfl (sv (EV.ld 0 none rfl rfl rfl) rfl ?_))
  revert H; refine bdI ?_; rintro t3 A3 H
  refine so rfl (op_call (spec_AreValidRows.ok k l0_1 Al0_1 cl0_1 _ A3) [⟨0, 0, 0, false⟩] 1 rfl rfl rfl rfl rfl ?_)
  rintro _ _ _ ⟨rfl, rfl, rfl⟩
  refine sv (EV.pt rfl rfl rfl) rfl (sv (EV.mv rfl) rfl ?_)
  revert H; refine ifsI ?_ ?_ <;> intro c4 H
  ·
   subst c4
   refine ts 11 rfl rfl (sv (EV.fa 2 rfl) rfl (sv (EV.ld 0 none rfl rfl rfl) rfl ?_))
   revert H; refine bdI ?_; rintro t5 A5 H
   refine so rfl (op_call (spec_AreValidRows.ok k l0_2 Al0_2 cl0_2 _ A5) [⟨1, 0, 0, false⟩] 1 rfl rfl rfl rfl rfl ?_)
   rintro _ _ _ ⟨rfl, rfl, rfl⟩
   refine sv (EV.pt rfl rfl rfl) rfl (sv (EV.mv rfl) rfl ?_)
   revert H; refine ifsI ?_ ?_ <;> intro c6 H
   ·
    subst c6
    refine ts 16 rfl rfl (sv (EV.fa 3 rfl) rfl (sv (EV.ld 0 none rfl rfl rfl) rfl (sv (EV.ln rfl) rfl (sv (EV.fa 1 rfl) rfl (sv (EV.ld 0 none rfl rfl rfl) rfl (sv (EV.ln rfl) rfl (sv (EV.eql rfl rfl) rfl (sv (EV.pt rfl rfl rfl) rfl (sv (EV.mv rfl) rfl ?_)))))))))
    revert H; refine ifsI ?_ ?_ <;> intro c7 H
    ·
     refine ts 25 rfl (dT c7) (sv (EV.fa 4 rfl) rfl (sv (EV.ld 0 none rfl rfl rfl) rfl ?_))
     revert H; refine bdI ?_; rintro t8 A8 H
     refine so rfl (op_call (spec_l1In.ok a0_4 0 4 _ A8) [] 1 rfl rfl rfl rfl rfl ?_)
     rintro _ _ _ ⟨rfl, rfl, rfl⟩
     refine sv (EV.pt rfl rfl rfl) rfl (sv (EV.as rfl) rfl (re (pr [2] [] [] rfl rfl rfl rfl ?_)))
     cases H
     exact rt Try.func31 rfl (.tmp rfl .nil) rfl [] [] rfl rfl rfl rfl rfl ⟨rfl, rfl, rfl⟩
    ·
     refine ts 25 rfl (dF c7) (sk rfl (sk rfl (sk rfl (sv (EV.pf rfl rfl rfl) rfl (sv (EV.as rfl) rfl (re (pr [2] [] [] rfl rfl rfl rfl ?_)))))))
     cases H
     exact rt Try.func31 rfl (.tmp rfl .nil) rfl [] [] rfl rfl rfl rfl rfl ⟨rfl, rfl, rfl⟩
   ·
    obtain rfl := bF c6
    refine ts 16 rfl rfl (sk rfl (sk rfl (sk rfl (sk rfl (sk rfl (sk rfl (sk rfl (sv (EV.pf rfl rfl rfl) rfl (sv (EV.mv rfl) rfl (sk rfl (sk rfl (sk rfl (sv (EV.pf rfl rfl rfl) rfl (sv (EV.as rfl) rfl (re (pr [2] [] [] rfl rfl rfl rfl ?_))))))))))))))))
    cases H
    exact rt Try.func31 rfl (.tmp rfl .nil) rfl [] [] rfl rfl rfl rfl rfl ⟨rfl, rfl, rfl⟩
  ·
   obtain rfl := bF c4
   refine ts 11 rfl rfl (sk rfl (sk rfl (sk rfl (sv (EV.pf rfl rfl rfl) rfl (sv (EV.mv rfl) rfl (sk rfl (sk rfl (sk rfl (sk rfl (sk rfl (sk rfl (sk rfl (sv (EV.pf rfl rfl rfl) rfl (sv (EV.mv rfl) rfl (sk rfl (sk rfl (sk rfl (sv (EV.pf rfl rfl rfl) rfl (sv (EV.as rfl) rfl (re (pr [2] [] [] rfl rfl rfl rfl ?_)))))))))))))))))))))
   cases H
   exact rt Try.func31 rfl (.tmp rfl .nil) rfl [] [] rfl rfl rfl rfl rfl ⟨rfl, rfl, rfl⟩
 ·
  obtain rfl := bF c2
  refine ts 6 rfl rfl (sk rfl (sk rfl (sk rfl (sv (EV.pf rfl rfl rfl) rfl (sv (EV.mv rfl) rfl (sk rfl (sk rfl (sk rfl (sv (EV.pf rfl rfl rfl) rfl (sv (EV.mv rfl) rfl (sk rfl (sk rfl (sk rfl (sk rfl (sk rfl (sk rfl (sk rfl (sv (EV.pf rfl rfl rfl) rfl (sv (EV.mv rfl) rfl (sk rfl (sk rfl (sk rfl (sv (EV.pf rfl rfl rfl) rfl (sv (EV.as rfl) rfl (re (pr [2] [] [] rfl rfl rfl rfl ?_))))))))))))))))))))))))))
  cases H
  exact rt Try.func31 rfl (.tmp rfl .nil) rfl [] [] rfl rfl rfl rfl rfl ⟨rfl, rfl, rfl⟩
end Go.Proofs.Ytajjeemkdjfilaa.K
namespace Go.Proofs.Ytajjeemkdjfilaa.K
open Go Go.RowKit
set_option linter.unusedVariables false
set_option linter.unusedSimpArgs false
def spec_CountMatches.l0 : Nat → Int → Int → Int → Int → Int → (List S70) → Option (Int)
 | 0, _, _, _, _, _, _ => none
 | k + 1, x2_5, x2_6, x2_2_0, x2_2_1, x2_2_2, l1 => if x2_6 < (l1.length : Int) then (if 0 ≤ x2_6 then (if ((rd_T70 l1 x2_6).f0) = x2_2_0 then (spec_CountMatches.l0 k (wrap64 (x2_5 + 1)) (wrap64 (x2_6 + 1)) x2_2_0 x2_2_1 x2_2_2 l1) else (spec_CountMatches.l0 k x2_5 (wrap64 (x2_6 + 1)) x2_2_0 x2_2_1 x2_2_2 l1)) else none) else (some x2_5)
def spec_CountMatches.f (k : Nat) (a0_0 : Int) (a0_1 : Int) (a0_2 : Int) (l1 : List S70) : Option (Int) := spec_CountMatches.l0 k 0 0 a0_0 a0_1 a0_2 l1
set_option maxHeartbeats 4000000 in
set_option maxRecDepth 100000 in
theorem spec_CountMatches.ok (k : Nat) (a0_0 : Int) (a0_1 : Int) (a0_2 : Int) (l1 : List S70) (Al1 : Option Addr) (cl1 : Nat) (r0 : Int) (H : spec_CountMatches.f k a0_0 a0_1 a0_2 l1 = some r0) : Fn Try.prog 81 [.agg #[.int .i64 a0_0, .int .i64 a0_1, .int .i64 a0_2], .slice Al1 l1.length cl1] [] [.sl 0 k70 Al1 cl1 l1 0 false] (fun v bx en => v = .int .i64 r0 ∧ bx = [] ∧ en = []) := by
 refine fn_ 24 Try.func81 rfl rfl rfl (fun base T w0 => ?_)
 rw [spec_CountMatches.f] at H
 refine gs (rg (so rfl (op_box (cs := [.int .i64 a0_0, .int .i64 a0_1, .int .i64 a0_2]) rfl rfl rfl fun b2 => (sv (EV.as rfl) rfl (re (gs (rg (sv (EV.as rfl) rfl (re (gs (gs (rg (sv (EV.as rfl) rfl (re (gb ?_)))))))))))))))
 refine lo (fun kk S => ∃ (x2_5 : Int) (x2_6 : Int) (x2_2_0 : Int) (x2_2_1 : Int) (x2_2_2 : Int), spec_CountMatches.l0 kk x2_5 x2_6 x2_2_0 x2_2_1 x2_2_2 l1 = some r0 ∧ S = ⟨[(1, .slice Al1 l1.length cl1), (2, .pointer (some ⟨b2, 0, none⟩)), (5, .int .i64 x2_5), (6, .int .i64 x2_6)], [⟨b2, 70, [.int .i64 x2_2_0, .int .i64 x2_2_1, .int .i64 x2_2_2]⟩], [.sl 0 k70 Al1 cl1 l1 0 false]⟩) (fun S hS => ?_) (fun n0 ih0 S hS => ?_) ⟨0, 0, a0_0, a0_1, a0_2, H, rfl⟩ (fun h => wk [1, 2, 5, 6] [0] [⟨0, 0, 0, false⟩] h)
 · clear H; obtain ⟨_, _, _, _, _, H, _⟩ := hS; rw [spec_CountMatches.l0] at H; cases H
 clear H
 obtain ⟨x2_5, x2_6, x2_2_0, x2_2_1, x2_2_2, H, rfl⟩ := hS
 rw [spec_CountMatches.l0] at H
 refine gs (gs (rg (sv (EV.mv rfl) rfl (sv (EV.mv rfl) rfl (sv (EV.ln rfl) rfl (sv (EV.lss rfl rfl) rfl (re ?_)))))))
 revert H; refine ifsI ?_ ?_ <;> intro c1 H
 ·
  refine gt rfl (dT c1) (gk (gs (gb (gs ?_))))
  revert H; refine ggI ?_; intro g2 H
  refine dr [0] [0] [] 8 rfl rfl rfl rfl (xv 0 [0] [0] rfl (EV.mv rfl) rfl rfl rfl rfl (xv 1 [0] [0] rfl (EV.mv rfl) rfl rfl rfl rfl (xv 2 [0] [0] rfl (EV.ix 0 rfl rfl rfl g2 c1 rfl) rfl rfl rfl rfl (xv 3 [0] [0] rfl (EV.fa 0 rfl) rfl rfl rfl rfl (xv 4 [0] [0] rfl (EV.le (v := .int .i64 ((rd_T70 l1 x2_6).f0)) x2_6 0 none 0 z70 rfl rfl rfl g2 c1 rfl rfl rfl) rfl rfl rfl rfl (xv 5 [0] [0] rfl (EV.fa 0 rfl) rfl rfl rfl rfl (xv 6 [0] [0] rfl (EV.ld 0 none rfl rfl rfl) rfl rfl rfl rfl (xv 7 [0] [0] rfl (EV.eql rfl rfl) rfl rfl rfl rfl (xd (pr [1, 2, 5, 6, 20] [0] [0] rfl rfl rfl rfl ?_))))))))))
  revert H; refine ifsI ?_ ?_ <;> intro c3 H
  ·
   exact gt rfl (dT c3) (rg (sv (EV.mv rfl) rfl (sv (EV.add rfl rfl) rfl (sv (EV.as rfl) rfl (re (ge (rg (sv (EV.mv rfl) rfl (sv (EV.add rfl rfl) rfl (sv (EV.as rfl) rfl (re (wk [1, 2, 5, 6] [0] [⟨0, 0, 0, false⟩] (ih0 _ (by omega) _ ⟨wrap64 (x2_5 + 1), wrap64 (x2_6 + 1), x2_2_0, x2_2_1, x2_2_2, H, rfl⟩)))))))))))))
  ·
   exact gf rfl (dF c3) (gk (ge (rg (sv (EV.mv rfl) rfl (sv (EV.add rfl rfl) rfl (sv (EV.as rfl) rfl (re (wk [1, 2, 5, 6] [0] [⟨0, 0, 0, false⟩] (ih0 _ (by omega) _ ⟨x2_5, wrap64 (x2_6 + 1), x2_2_0, x2_2_1, x2_2_2, H, rfl⟩)))))))))
 ·
  refine gf rfl (dF c1) (gx rfl (gs (rg (sv (EV.mv rfl) rfl (sv (EV.as rfl) rfl (re (pr [4] [] [] rfl rfl rfl rfl ?_)))))))
  cases H
  exact rt Try.func81 rfl (.tmp rfl .nil) rfl [] [] rfl rfl rfl rfl rfl ⟨rfl, rfl, rfl⟩
end Go.Proofs.Ytajjeemkdjfilaa.K
namespace Go.Proofs.Ytajjeemkdjfilaa.K
open Go Go.RowKit
set_option linter.unusedVariables false
set_option linter.unusedSimpArgs false
def spec_l7One.l0 : Nat → Int → (List S92) → Int → Int → Int → Int → Int → (List S70) → Option ((List S92))
 | 0, _, _, _, _, _, _, _, _ => none
 | k + 1, x2_0, x2_7, x2_8, x2_9, x2_4_0, x2_4_1, x2_4_2, l2 => if x2_9 < (l2.length : Int) then (if 0 ≤ x2_9 then (if ((rd_T70 l2 x2_9).f0) = x2_4_0 then (if x2_7.length < 2513169434916 then (spec_l7One.l0 k x2_0 (x2_7 ++ ([(⟨(⟨x2_4_0, x2_4_1, x2_4_2⟩ : S70), (⟨(rd_T70 l2 x2_9).f0, (rd_T70 l2 x2_9).f1, (rd_T70 l2 x2_9).f2⟩ : S70), true⟩ : S92)] : List S92)) x2_8 (wrap64 (x2_9 + 1)) x2_4_0 x2_4_1 x2_4_2 l2) else none) else (spec_l7One.l0 k x2_0 x2_7 x2_8 (wrap64 (x2_9 + 1)) x2_4_0 x2_4_1 x2_4_2 l2)) else none) else (if x2_8 = 0 then (if x2_0 = 4 then (if x2_7.length < 2513169434916 then (some (x2_7 ++ ([(⟨(⟨x2_4_0, x2_4_1, x2_4_2⟩ : S70), (⟨0, 0, 0⟩ : S70), false⟩ : S92)] : List S92))) else none) else (some x2_7)) else (some x2_7))
def spec_l7One.f (k : Nat) (a0 : Int) (a1_0 : Int) (a1_1 : Int) (a1_2 : Int) (l2 : List S70) : Option ((List S92)) := (spec_CountMatches.f k a1_0 a1_1 a1_2 l2).bind fun t2 => (if a0 = 2 then (if t2 > 0 then (if ([] : List S92).length < 2513169434916 then (some ([(⟨(⟨a1_0, a1_1, a1_2⟩ : S70), (⟨0, 0, 0⟩ : S70), false⟩ : S92)] : List S92)) else none) else (some [])) else (if a0 = 3 then (if t2 = 0 then (if ([] : List S92).length < 2513169434916 then (some ([(⟨(⟨a1_0, a1_1, a1_2⟩ : S70), (⟨0, 0, 0⟩ : S70), false⟩ : S92)] : List S92)) else none) else (some [])) else (spec_l7One.l0 k a0 [] t2 0 a1_0 a1_1 a1_2 l2)))
set_option maxHeartbeats 4000000 in
set_option maxRecDepth 100000 in
theorem spec_l7One.ok (k : Nat) (a0 : Int) (a1_0 : Int) (a1_1 : Int) (a1_2 : Int) (l2 : List S70) (Al2 : Option Addr) (cl2 : Nat) (r0 : List S92) (H : spec_l7One.f k a0 a1_0 a1_1 a1_2 l2 = some r0) : Fn Try.prog 74 [.int .i64 a0, .agg #[.int .i64 a1_0, .int .i64 a1_1, .int .i64 a1_2], .slice Al2 l2.length cl2] [] [.sl 0 k70 Al2 cl2 l2 0 false] (fun v bx en => ∃ A0 c0, v = .slice A0 r0.length c0 ∧ bx = [] ∧ en = [.sl 2 k92 A0 c0 r0 1 true]) := by
 refine fn_ 70 Try.func74 rfl rfl rfl (fun base T w0 => ?_)
 rw [spec_l7One.f] at H
 refine gs (rg (so rfl (op_box (cs := [.int .i64 a1_0, .int .i64 a1_1, .int .i64 a1_2]) rfl rfl rfl fun b4 => (sv (EV.as rfl) rfl (re (gs (rg (so rfl (op_lit (s := 7) (by_ := 56) k92 ([] : List S92) [] [] 1 [] rfl rfl rfl rfl rfl rfl rfl rfl rfl rfl rfl rfl rfl dq rfl fun A10_1 c10_1 => (sv (EV.as rfl) rfl (re (gs (rg (sv (EV.ld (v := .agg #[.int .i64 a1_0, .int .i64 a1_1, .int .i64 a1_2]) 0 (some 3) rfl rfl rfl) rfl (sv (EV.mv rfl) rfl ?_)))))))))))))))
 revert H; refine bdI ?_; rintro t2 A2 H
 refine so rfl (op_call (spec_CountMatches.ok k a1_0 a1_1 a1_2 l2 Al2 cl2 _ A2) [⟨0, 0, 0, false⟩] 2 rfl rfl rfl rfl rfl ?_)
 rintro _ _ _ ⟨rfl, rfl, rfl⟩
 refine sv (EV.as rfl) rfl (re (pr [0, 2, 4, 7, 8] [0] [0, 1] rfl rfl rfl rfl (gs (gs (rg (sv (EV.mv rfl) rfl (re (gb (gs (rg (sv (EV.eql rfl rfl) rfl (sv (EV.as rfl) rfl (re ?_)))))))))))))
 revert H; refine ifsI ?_ ?_ <;> intro c3 H
 ·
  refine gt rfl (dT c3) (gs (gs (rg (sv (EV.mv rfl) rfl (sv (EV.gtr rfl rfl) rfl (re (pr [4, 7, 18] [0] [1] rfl rfl rfl rfl ?_)))))))
  revert H; refine ifsI ?_ ?_ <;> intro c4 H
  ·
   refine gt rfl (dT c4) (rg (sv (EV.mv rfl) rfl (sv (EV.ld (v := .agg #[.int .i64 a1_0, .int .i64 a1_1, .int .i64 a1_2]) 0 (some 3) rfl rfl rfl) rfl (sv (EV.bd (v := .agg #[.int .i64 a1_0, .int .i64 a1_1, .int .i64 a1_2, .int .i64 0, .int .i64 0, .int .i64 0, .bool false]) rfl (by kernel_rfl)) rfl (so rfl (op_lit (s := 7) (by_ := 56) k92 ([(⟨(⟨a1_0, a1_1, a1_2⟩ : S70), (⟨0, 0, 0⟩ : S70), false⟩ : S92)] : List S92) [[]] [] 2 [.tmp 21] rfl rfl rfl rfl rfl rfl rfl rfl rfl rfl rfl rfl rfl dq rfl fun A22_5 c22_5 => ?_))))))
   revert H; refine ggI ?_; intro g6 H
   refine so rfl (op_app (k := k92) (s := 7) (by_ := 56) 0 1 rfl rfl rfl rfl (ap1 g6 dq) (ap1n g6 dq) (.inl rfl) true (fun _ => .inl rfl) rfl rfl fun A23_7 c23_7 => (nmE (en := [.sl 2 k92 A22_5 c22_5 ([(⟨(⟨a1_0, a1_1, a1_2⟩ : S70), (⟨0, 0, 0⟩ : S70), false⟩ : S92)] : List S92) 2 true, .sl 2 k92 A23_7 c23_7 ([(⟨(⟨a1_0, a1_1, a1_2⟩ : S70), (⟨0, 0, 0⟩ : S70), false⟩ : S92)] : List S92) 1 true]) (by kernel_rfl) (sv (EV.as rfl) rfl (re (pr [7] [] [1] rfl rfl rfl rfl (gs (rg (sv (EV.mv rfl) rfl (sv (EV.as rfl) rfl (re ?_))))))))))
   cases H
   exact rt Try.func74 rfl (.tmp rfl .nil) rfl [] [⟨0, 2, 1, true⟩] rfl rfl rfl rfl rfl ⟨_, _, rfl, rfl, rfl⟩
  ·
   refine gf rfl (dF c4) (gk (gs (rg (sv (EV.mv rfl) rfl (sv (EV.as rfl) rfl (re ?_))))))
   cases H
   exact rt Try.func74 rfl (.tmp rfl .nil) rfl [] [⟨0, 2, 1, true⟩] rfl rfl rfl rfl rfl ⟨_, _, rfl, rfl, rfl⟩
 ·
  refine gf rfl (dF c3) (gs (rg (sv (EV.eql rfl rfl) rfl (sv (EV.as rfl) rfl (re ?_)))))
  revert H; refine ifsI ?_ ?_ <;> intro c8 H
  ·
   refine gt rfl (dT c8) (gs (gs (rg (sv (EV.mv rfl) rfl (sv (EV.eql rfl rfl) rfl (re (pr [4, 7, 28] [0] [1] rfl rfl rfl rfl ?_)))))))
   revert H; refine ifsI ?_ ?_ <;> intro c9 H
   ·
    refine gt rfl (dT c9) (rg (sv (EV.mv rfl) rfl (sv (EV.ld (v := .agg #[.int .i64 a1_0, .int .i64 a1_1, .int .i64 a1_2]) 0 (some 3) rfl rfl rfl) rfl (sv (EV.bd (v := .agg #[.int .i64 a1_0, .int .i64 a1_1, .int .i64 a1_2, .int .i64 0, .int .i64 0, .int .i64 0, .bool false]) rfl (by kernel_rfl)) rfl (so rfl (op_lit (s := 7) (by_ := 56) k92 ([(⟨(⟨a1_0, a1_1, a1_2⟩ : S70), (⟨0, 0, 0⟩ : S70), false⟩ : S92)] : List S92) [[]] [] 2 [.tmp 31] rfl rfl rfl rfl rfl rfl rfl rfl rfl rfl rfl rfl rfl dq rfl fun A32_10 c32_10 => ?_))))))
    revert H; refine ggI ?_; intro g11 H
    refine so rfl (op_app (k := k92) (s := 7) (by_ := 56) 0 1 rfl rfl rfl rfl (ap1 g11 dq) (ap1n g11 dq) (.inl rfl) true (fun _ => .inl rfl) rfl rfl fun A33_12 c33_12 => (nmE (en := [.sl 2 k92 A32_10 c32_10 ([(⟨(⟨a1_0, a1_1, a1_2⟩ : S70), (⟨0, 0, 0⟩ : S70), false⟩ : S92)] : List S92) 2 true, .sl 2 k92 A33_12 c33_12 ([(⟨(⟨a1_0, a1_1, a1_2⟩ : S70), (⟨0, 0, 0⟩ : S70), false⟩ : S92)] : List S92) 1 true]) (by kernel_rfl) (sv (EV.as rfl) rfl (re (pr [7] [] [1] rfl rfl rfl rfl (gs (rg (sv (EV.mv rfl) rfl (sv (EV.as rfl) rfl (re ?_))))))))))
    cases H
    exact rt Try.func74 rfl (.tmp rfl .nil) rfl [] [⟨0, 2, 1, true⟩] rfl rfl rfl rfl rfl ⟨_, _, rfl, rfl, rfl⟩
   ·
    refine gf rfl (dF c9) (gk (gs (rg (sv (EV.mv rfl) rfl (sv (EV.as rfl) rfl (re ?_))))))
    cases H
    exact rt Try.func74 rfl (.tmp rfl .nil) rfl [] [⟨0, 2, 1, true⟩] rfl rfl rfl rfl rfl ⟨_, _, rfl, rfl, rfl⟩
  ·
   refine gf rfl (dF c8) (gk (ge (gs (gs (rg (sv (EV.as rfl) rfl (re (gb ?_))))))))
   refine lo (fun kk S => ∃ (x2_0 : Int) (x2_7 : List S92) (Ax2_7 : Option Addr) (cx2_7 : Nat) (x2_8 : Int) (x2_9 : Int) (x2_4_0 : Int) (x2_4_1 : Int) (x2_4_2 : Int), spec_l7One.l0 kk x2_0 x2_7 x2_8 x2_9 x2_4_0 x2_4_1 x2_4_2 l2 = some r0 ∧ S = ⟨[(0, .int .i64 x2_0), (2, .slice Al2 l2.length cl2), (4, .pointer (some ⟨b4, 0, none⟩)), (7, .slice Ax2_7 x2_7.length cx2_7), (8, .int .i64 x2_8), (9, .int .i64 x2_9)], [⟨b4, 70, [.int .i64 x2_4_0, .int .i64 x2_4_1, .int .i64 x2_4_2]⟩], [.sl 2 k92 Ax2_7 cx2_7 x2_7 1 true, .sl 0 k70 Al2 cl2 l2 0 false]⟩) (fun S hS => ?_) (fun n0 ih0 S hS => ?_) ⟨a0, [], A10_1, c10_1, t2, 0, a1_0, a1_1, a1_2, H, rfl⟩ (fun h => wk [0, 2, 4, 7, 8, 9] [0] [⟨1, 2, 1, true⟩, ⟨0, 0, 0, false⟩] h)
   · clear H; obtain ⟨_, _, _, _, _, _, _, _, _, H, _⟩ := hS; rw [spec_l7One.l0] at H; cases H
   clear H
   obtain ⟨x2_0, x2_7, Ax2_7, cx2_7, x2_8, x2_9, x2_4_0, x2_4_1, x2_4_2, H, rfl⟩ := hS
   rw [spec_l7One.l0] at H
   refine gs (gs (rg (sv (EV.mv rfl) rfl (sv (EV.mv rfl) rfl (sv (EV.ln rfl) rfl (sv (EV.lss rfl rfl) rfl (re ?_)))))))
   revert H; refine ifsI ?_ ?_ <;> intro c13 H
   ·
    refine gt rfl (dT c13) (gk (gs (gb (gs ?_))))
    revert H; refine ggI ?_; intro g14 H
    refine dr [0] [0, 1] [] 8 rfl rfl rfl rfl (xv 0 [0] [0, 1] rfl (EV.mv rfl) rfl rfl rfl rfl (xv 1 [0] [0, 1] rfl (EV.mv rfl) rfl rfl rfl rfl (xv 2 [0] [0, 1] rfl (EV.ix 1 rfl rfl rfl g14 c13 rfl) rfl rfl rfl rfl (xv 3 [0] [0, 1] rfl (EV.fa 0 rfl) rfl rfl rfl rfl (xv 4 [0] [0, 1] rfl (EV.le (v := .int .i64 ((rd_T70 l2 x2_9).f0)) x2_9 0 none 1 z70 rfl rfl rfl g14 c13 rfl rfl rfl) rfl rfl rfl rfl (xv 5 [0] [0, 1] rfl (EV.fa 0 rfl) rfl rfl rfl rfl (xv 6 [0] [0, 1] rfl (EV.ld 0 none rfl rfl rfl) rfl rfl rfl rfl (xv 7 [0] [0, 1] rfl (EV.eql rfl rfl) rfl rfl rfl rfl (xd (pr [0, 2, 4, 7, 8, 9, 48] [0] [0, 1] rfl rfl rfl rfl ?_))))))))))
    revert H; refine ifsI ?_ ?_ <;> intro c15 H
    ·
     refine gt rfl (dT c15) ?_
     revert H; refine ggI ?_; intro g16 H
     exact dr [0] [1] [9] 10 rfl rfl rfl rfl (xv 0 [0] [1] rfl (EV.mv rfl) rfl rfl rfl rfl (xv 1 [0] [1] rfl (EV.ld (v := .agg #[.int .i64 x2_4_0, .int .i64 x2_4_1, .int .i64 x2_4_2]) 0 (some 3) rfl rfl rfl) rfl rfl rfl rfl (xv 2 [0] [1] rfl (EV.mv rfl) rfl rfl rfl rfl (xv 3 [0] [1] rfl (EV.mv rfl) rfl rfl rfl rfl (xv 4 [0] [1] rfl (EV.ix 0 rfl rfl rfl g14 c13 rfl) rfl rfl rfl rfl (xv 5 [0] [1] rfl (EV.le (v := .agg #[.int .i64 ((rd_T70 l2 x2_9).f0), .int .i64 ((rd_T70 l2 x2_9).f1), .int .i64 ((rd_T70 l2 x2_9).f2)]) x2_9 0 (some 3) 0 z70 rfl rfl rfl g14 c13 rfl rfl rfl) rfl rfl rfl rfl (xv 6 [0] [1] rfl (EV.bd (v := .agg #[.int .i64 x2_4_0, .int .i64 x2_4_1, .int .i64 x2_4_2, .int .i64 ((rd_T70 l2 x2_9).f0), .int .i64 ((rd_T70 l2 x2_9).f1), .int .i64 ((rd_T70 l2 x2_9).f2), .bool true]) rfl (by kernel_rfl)) rfl rfl rfl rfl (one1 7 rfl rfl (op_lit (s := 7) (by_ := 56) k92 ([(⟨(⟨x2_4_0, x2_4_1, x2_4_2⟩ : S70), (⟨(rd_T70 l2 x2_9).f0, (rd_T70 l2 x2_9).f1, (rd_T70 l2 x2_9).f2⟩ : S70), true⟩ : S92)] : List S92) [[]] [] 2 [.tmp 55] rfl rfl rfl rfl rfl rfl rfl rfl rfl rfl rfl rfl rfl dq rfl fun A56_17 c56_17 => (xs [0] [1] rfl rfl rfl (one1 8 rfl rfl (op_app (k := k92) (s := 7) (by_ := 56) 0 2 rfl rfl rfl rfl (ap1 g16 dq) (ap1n g16 dq) (.inl rfl) true (fun _ => .inl rfl) rfl rfl fun A57_18 c57_18 => (nmE (en := [.sl 0 k70 Al2 cl2 l2 0 false, .sl 2 k92 A56_17 c56_17 ([(⟨(⟨x2_4_0, x2_4_1, x2_4_2⟩ : S70), (⟨(rd_T70 l2 x2_9).f0, (rd_T70 l2 x2_9).f1, (rd_T70 l2 x2_9).f2⟩ : S70), true⟩ : S92)] : List S92) 2 true, .sl 2 k92 A57_18 c57_18 (x2_7 ++ ([(⟨(⟨x2_4_0, x2_4_1, x2_4_2⟩ : S70), (⟨(rd_T70 l2 x2_9).f0, (rd_T70 l2 x2_9).f1, (rd_T70 l2 x2_9).f2⟩ : S70), true⟩ : S92)] : List S92)) 1 true]) (by kernel_rfl) (xs [0] [0] rfl rfl rfl (one1 9 rfl rfl (ov (EV.as rfl) rfl (xn rfl (xd (pr [0, 2, 4, 7, 8, 9] [0] [0, 2] rfl rfl rfl rfl (ge (rg (sv (EV.mv rfl) rfl (sv (EV.add rfl rfl) rfl (sv (EV.as rfl) rfl (re (wk [0, 2, 4, 7, 8, 9] [0] [⟨1, 2, 1, true⟩, ⟨0, 0, 0, false⟩] (ih0 _ (by omega) _ ⟨x2_0, x2_7 ++ ([(⟨(⟨x2_4_0, x2_4_1, x2_4_2⟩ : S70), (⟨(rd_T70 l2 x2_9).f0, (rd_T70 l2 x2_9).f1, (rd_T70 l2 x2_9).f2⟩ : S70), true⟩ : S92)] : List S92), A57_18, c57_18, x2_8, wrap64 (x2_9 + 1), x2_4_0, x2_4_1, x2_4_2, H, rfl⟩)))))))))))))))))))))))))))
    ·
     exact gf rfl (dF c15) (gk (ge (rg (sv (EV.mv rfl) rfl (sv (EV.add rfl rfl) rfl (sv (EV.as rfl) rfl (re (wk [0, 2, 4, 7, 8, 9] [0] [⟨0, 2, 1, true⟩, ⟨1, 0, 0, false⟩] (ih0 _ (by omega) _ ⟨x2_0, x2_7, Ax2_7, cx2_7, x2_8, wrap64 (x2_9 + 1), x2_4_0, x2_4_1, x2_4_2, H, rfl⟩)))))))))
   ·
    refine gf rfl (dF c13) (gx rfl (gs (gs (rg (sv (EV.mv rfl) rfl (sv (EV.eql rfl rfl) rfl (sv (EV.mv rfl) rfl ?_)))))))
    revert H; refine ifsI ?_ ?_ <;> intro c19 H
    ·
     refine ts 60 rfl (dT c19) (sv (EV.mv rfl) rfl (sv (EV.eql rfl rfl) rfl (sv (EV.pt rfl rfl rfl) rfl (re (pr [4, 7, 63] [0] [0] rfl rfl rfl rfl ?_)))))
     revert H; refine ifsI ?_ ?_ <;> intro c20 H
     ·
      refine gt rfl (dT c20) (rg (sv (EV.mv rfl) rfl (sv (EV.ld (v := .agg #[.int .i64 x2_4_0, .int .i64 x2_4_1, .int .i64 x2_4_2]) 0 (some 3) rfl rfl rfl) rfl (sv (EV.bd (v := .agg #[.int .i64 x2_4_0, .int .i64 x2_4_1, .int .i64 x2_4_2, .int .i64 0, .int .i64 0, .int .i64 0, .bool false]) rfl (by kernel_rfl)) rfl (so rfl (op_lit (s := 7) (by_ := 56) k92 ([(⟨(⟨x2_4_0, x2_4_1, x2_4_2⟩ : S70), (⟨0, 0, 0⟩ : S70), false⟩ : S92)] : List S92) [[]] [] 2 [.tmp 66] rfl rfl rfl rfl rfl rfl rfl rfl rfl rfl rfl rfl rfl dq rfl fun A67_21 c67_21 => ?_))))))
      revert H; refine ggI ?_; intro g22 H
      refine so rfl (op_app (k := k92) (s := 7) (by_ := 56) 0 1 rfl rfl rfl rfl (ap1 g22 dq) (ap1n g22 dq) (.inl rfl) true (fun _ => .inl rfl) rfl rfl fun A68_23 c68_23 => (nmE (en := [.sl 2 k92 A67_21 c67_21 ([(⟨(⟨x2_4_0, x2_4_1, x2_4_2⟩ : S70), (⟨0, 0, 0⟩ : S70), false⟩ : S92)] : List S92) 2 true, .sl 2 k92 A68_23 c68_23 (x2_7 ++ ([(⟨(⟨x2_4_0, x2_4_1, x2_4_2⟩ : S70), (⟨0, 0, 0⟩ : S70), false⟩ : S92)] : List S92)) 1 true]) (by kernel_rfl) (sv (EV.as rfl) rfl (re (pr [7] [] [1] rfl rfl rfl rfl (gs (rg (sv (EV.mv rfl) rfl (sv (EV.as rfl) rfl (re ?_))))))))))
      cases H
      exact rt Try.func74 rfl (.tmp rfl .nil) rfl [] [⟨0, 2, 1, true⟩] rfl rfl rfl rfl rfl ⟨_, _, rfl, rfl, rfl⟩
     ·
      refine gf rfl (dF c20) (gk (gs (rg (sv (EV.mv rfl) rfl (sv (EV.as rfl) rfl (re ?_))))))
      cases H
      exact rt Try.func74 rfl (.tmp rfl .nil) rfl [] [⟨0, 2, 1, true⟩] rfl rfl rfl rfl rfl ⟨_, _, rfl, rfl, rfl⟩
    ·
     refine ts 60 rfl (dF c19) (sk rfl (sk rfl (sv (EV.pf rfl rfl rfl) rfl (re (pr [4, 7, 63] [0] [0] rfl rfl rfl rfl (gf rfl rfl (gk (gs (rg (sv (EV.mv rfl) rfl (sv (EV.as rfl) rfl (re ?_))))))))))))
     cases H
     exact rt Try.func74 rfl (.tmp rfl .nil) rfl [] [⟨0, 2, 1, true⟩] rfl rfl rfl rfl rfl ⟨_, _, rfl, rfl, rfl⟩
end Go.Proofs.Ytajjeemkdjfilaa.K
namespace Go.Proofs.Ytajjeemkdjfilaa.K
open Go Go.RowKit
set_option linter.unusedVariables false
set_option linter.unusedSimpArgs false
mutual
def spec_JoinChunk.j0 : Nat → (List S92) → Int → (List S70) → (List S70) → (List Bool) → Int → Int → (List S70) → (List S70) → (List Bool) → Int → Option ((List S92) × Int × (List S70) × (List S70) × (List Bool) × Int)
 | 0, _, _, _, _, _, _, _, _, _, _, _ => none
 | k + 1, x14_6, x14_5_0, x14_5_1, x14_5_2, x14_5_3, x14_5_4, x14_7_0, x14_7_1, x14_7_2, x14_7_3, x14_7_4 => some (x14_6, x14_7_0, x14_7_1, x14_7_2, x14_7_3, x14_7_4)
def spec_JoinChunk.j1 : Nat → (List S92) → Int → Int → Int → Bool → Int → Int → Int → (List S70) → (List S70) → (List Bool) → Int → Int → (List S70) → (List S70) → (List Bool) → Int → (List S70) → (List S70) → (List S70) → (List Bool) → Option ((List S92) × Int × (List S70) × (List S70) × (List Bool) × Int)
 | 0, _, _, _, _, _, _, _, _, _, _, _, _, _, _, _, _, _, _, _, _, _ => none
 | k + 1, x26_6, x26_8, x26_19_0, x26_19_4, x26_20, x26_2_0, x26_2_4, x26_5_0, x26_5_1, x26_5_2, x26_5_3, x26_5_4, x26_7_0, x26_7_1, x26_7_2, x26_7_3, x26_7_4, l1, l0_1, l0_2, l0_3 => if 0 ≤ x26_8 then (if x26_8 < (x26_7_3.length : Int) then (spec_JoinChunk.l0 k x26_6 (wrap64 (x26_8 + 1)) x26_2_0 x26_2_4 x26_5_0 x26_5_1 x26_5_2 x26_5_3 x26_5_4 x26_7_0 x26_7_1 x26_7_2 (x26_7_3.set x26_8.toNat true) x26_7_4 l1 l0_1 l0_2 l0_3) else none) else none
def spec_JoinChunk.j2 : Nat → (List S92) → Int → Int → Int → Bool → Bool → Int → Int → Int → (List S70) → (List S70) → (List Bool) → Int → Int → (List S70) → (List S70) → (List Bool) → Int → (List S70) → (List S70) → (List S70) → (List Bool) → Option ((List S92) × Int × (List S70) × (List S70) × (List Bool) × Int)
 | 0, _, _, _, _, _, _, _, _, _, _, _, _, _, _, _, _, _, _, _, _, _, _ => none
 | k + 1, x27_6, x27_8, x27_19_0, x27_19_4, x27_20, x27_52, x27_2_0, x27_2_4, x27_5_0, x27_5_1, x27_5_2, x27_5_3, x27_5_4, x27_7_0, x27_7_1, x27_7_2, x27_7_3, x27_7_4, l1, l0_1, l0_2, l0_3 => if x27_52 = true then (if 0 ≤ x27_8 then (if x27_8 < (l0_1.length : Int) then ((spec_l7One.f k 1 ((rd_T70 l0_1 x27_8).f0) ((rd_T70 l0_1 x27_8).f1) ((rd_T70 l0_1 x27_8).f2) l1).bind fun t23 => (if x27_6.length + t23.length ≤ 2513169434916 then (spec_JoinChunk.j1 k (x27_6 ++ t23) x27_8 x27_19_0 x27_19_4 x27_20 x27_2_0 x27_2_4 x27_5_0 x27_5_1 x27_5_2 x27_5_3 x27_5_4 x27_7_0 x27_7_1 x27_7_2 x27_7_3 x27_7_4 l1 l0_1 l0_2 l0_3) else none)) else none) else none) else (spec_JoinChunk.j1 k x27_6 x27_8 x27_19_0 x27_19_4 x27_20 x27_2_0 x27_2_4 x27_5_0 x27_5_1 x27_5_2 x27_5_3 x27_5_4 x27_7_0 x27_7_1 x27_7_2 x27_7_3 x27_7_4 l1 l0_1 l0_2 l0_3)
def spec_JoinChunk.l0 : Nat → (List S92) → Int → Int → Int → Int → (List S70) → (List S70) → (List Bool) → Int → Int → (List S70) → (List S70) → (List Bool) → Int → (List S70) → (List S70) → (List S70) → (List Bool) → Option ((List S92) × Int × (List S70) × (List S70) × (List Bool) × Int)
 | 0, _, _, _, _, _, _, _, _, _, _, _, _, _, _, _, _, _, _ => none
 | k + 1, x15_6, x15_8, x15_2_0, x15_2_4, x15_5_0, x15_5_1, x15_5_2, x15_5_3, x15_5_4, x15_7_0, x15_7_1, x15_7_2, x15_7_3, x15_7_4, l1, l0_1, l0_2, l0_3 => if x15_8 < (l0_1.length : Int) then ((spec_IsValidTask.f k x15_2_0 l0_1 l0_2 l0_3 x15_2_4).bind fun t5 => (if t5 = true then (if 0 ≤ x15_8 then ((spec_CountMatches.f k ((rd_T70 l0_1 x15_8).f0) ((rd_T70 l0_1 x15_8).f1) ((rd_T70 l0_1 x15_8).f2) l1).bind fun t8 => (if t8 = 0 then (spec_JoinChunk.l0 k x15_6 (wrap64 (x15_8 + 1)) x15_2_0 x15_2_4 x15_5_0 x15_5_1 x15_5_2 x15_5_3 x15_5_4 x15_7_0 x15_7_1 x15_7_2 x15_7_3 x15_7_4 l1 l0_1 l0_2 l0_3) else (if x15_2_0 = 2 then (if x15_8 < (l0_3.length : Int) then (if (rdOf false l0_3 x15_8) = true then (spec_JoinChunk.j1 k x15_6 x15_8 x15_2_0 x15_2_4 true x15_2_0 x15_2_4 x15_5_0 x15_5_1 x15_5_2 x15_5_3 x15_5_4 x15_7_0 x15_7_1 x15_7_2 x15_7_3 x15_7_4 l1 l0_1 l0_2 l0_3) else (if x15_6.length < 2513169434916 then (spec_JoinChunk.j1 k (x15_6 ++ ([(⟨(⟨(rd_T70 l0_1 x15_8).f0, (rd_T70 l0_1 x15_8).f1, (rd_T70 l0_1 x15_8).f2⟩ : S70), (⟨0, 0, 0⟩ : S70), false⟩ : S92)] : List S92)) x15_8 x15_2_0 x15_2_4 true x15_2_0 x15_2_4 x15_5_0 x15_5_1 x15_5_2 x15_5_3 x15_5_4 x15_7_0 x15_7_1 x15_7_2 x15_7_3 x15_7_4 l1 l0_1 l0_2 l0_3) else none)) else none) else (if x15_2_0 = 1 then (spec_JoinChunk.j2 k x15_6 x15_8 x15_2_0 x15_2_4 true (decide (x15_2_0 = 1)) x15_2_0 x15_2_4 x15_5_0 x15_5_1 x15_5_2 x15_5_3 x15_5_4 x15_7_0 x15_7_1 x15_7_2 x15_7_3 x15_7_4 l1 l0_1 l0_2 l0_3) else (spec_JoinChunk.j2 k x15_6 x15_8 x15_2_0 x15_2_4 true (decide (x15_2_0 = 4)) x15_2_0 x15_2_4 x15_5_0 x15_5_1 x15_5_2 x15_5_3 x15_5_4 x15_7_0 x15_7_1 x15_7_2 x15_7_3 x15_7_4 l1 l0_1 l0_2 l0_3))))) else none) else (spec_JoinChunk.j0 k x15_6 x15_5_0 x15_5_1 x15_5_2 x15_5_3 x15_5_4 x15_7_0 x15_7_1 x15_7_2 x15_7_3 x15_7_4))) else (spec_JoinChunk.j0 k x15_6 x15_5_0 x15_5_1 x15_5_2 x15_5_3 x15_5_4 x15_7_0 x15_7_1 x15_7_2 x15_7_3 x15_7_4)
end
def spec_JoinChunk.f (k : Nat) (a0_0 : Int) (l0_1 : List S70) (l0_2 : List S70) (l0_3 : List Bool) (a0_4 : Int) (l1 : List S70) : Option ((List S92) × Int × (List S70) × (List S70) × (List Bool) × Int) := (spec_l16Copy.f a0_0 l0_1 l0_2 l0_3 a0_4).bind fun bt2 => (spec_JoinChunk.l0 k [] 0 a0_0 a0_4 0 [] [] [] 0 bt2.1 bt2.2.1 bt2.2.2.1 bt2.2.2.2.1 bt2.2.2.2.2 l1 l0_1 l0_2 l0_3)
set_option maxHeartbeats 4000000 in
set_option maxRecDepth 100000 in
theorem spec_JoinChunk.ok (k : Nat) (a0_0 : Int) (l0_1 : List S70) (Al0_1 : Option Addr) (cl0_1 : Nat) (l0_2 : List S70) (Al0_2 : Option Addr) (cl0_2 : Nat) (l0_3 : List Bool) (Al0_3 : Option Addr) (cl0_3 : Nat) (a0_4 : Int) (l1 : List S70) (Al1 : Option Addr) (cl1 : Nat) (r0 : List S92) (r1 : Int) (r2 : List S70) (r3 : List S70) (r4 : List Bool) (r5 : Int) (H : spec_JoinChunk.f k a0_0 l0_1 l0_2 l0_3 a0_4 l1 = some (r0, r1, r2, r3, r4, r5)) : Fn Try.prog 26 [.agg #[.int .i64 a0_0, .slice Al0_1 l0_1.length cl0_1, .slice Al0_2 l0_2.length cl0_2, .slice Al0_3 l0_3.length cl0_3, .int .i64 a0_4], .slice Al1 l1.length cl1] [] [.sl 0 k70 Al0_1 cl0_1 l0_1 0 false, .sl 0 k70 Al0_2 cl0_2 l0_2 0 false, .sl 0 .bool Al0_3 cl0_3 l0_3 0 false, .sl 0 k70 Al1 cl1 l1 0 false] (fun v bx en => ∃ A0 c0 A2 c2 A3 c3 A4 c4, v = .tuple #[.slice A0 r0.length c0, .agg #[.int .i64 r1, .slice A2 r2.length c2, .slice A3 r3.length c3, .slice A4 r4.length c4, .int .i64 r5]] ∧ bx = [] ∧ en = [.sl 2 k92 A0 c0 r0 1 true, .sl 2 k70 A2 c2 r2 2 true, .sl 2 k70 A3 c3 r3 3 true, .sl 2 .bool A4 c4 r4 4 true]) := by
 refine fn_ 70 Try.func26 rfl rfl rfl (fun base T w0 => ?_)
 rw [spec_JoinChunk.f] at H
 refine gs (rg (so rfl (op_box (cs := [.int .i64 a0_0, .slice Al0_1 l0_1.length cl0_1, .slice Al0_2 l0_2.length cl0_2, .slice Al0_3 l0_3.length cl0_3, .int .i64 a0_4]) rfl rfl rfl fun b2 => (sv (EV.as rfl) rfl (so rfl (op_alloc (cs := [.int .i64 0, .slice none 0 0, .slice none 0 0, .slice none 0 0, .int .i64 0]) (by kernel_rfl) rfl fun b5 => (re (gs (rg (so rfl (op_lit (s := 7) (by_ := 56) k92 ([] : List S92) [] [] 1 [] rfl rfl rfl rfl rfl rfl rfl rfl rfl rfl rfl rfl rfl dq rfl fun A10_1 c10_1 => (sv (EV.as rfl) rfl (re (gs (rg (sv (EV.ld (v := .agg #[.int .i64 a0_0, .slice Al0_1 l0_1.length cl0_1, .slice Al0_2 l0_2.length cl0_2, .slice Al0_3 l0_3.length cl0_3, .int .i64 a0_4]) 0 (some 5) rfl rfl rfl) rfl ?_))))))))))))))))
 revert H; refine bdI ?_; rintro ⟨t2_0, t2_1, t2_2, t2_3, t2_4⟩ A2 H
 refine so rfl (op_call (spec_l16Copy.ok a0_0 l0_1 Al0_1 cl0_1 l0_2 Al0_2 cl0_2 l0_3 Al0_3 cl0_3 a0_4 _ _ _ _ _ A2) [⟨0, 0, 0, false⟩, ⟨1, 0, 0, false⟩, ⟨2, 0, 0, false⟩] 2 rfl rfl rfl rfl rfl ?_)
 rintro _ _ _ ⟨At2_1, ct2_1, At2_2, ct2_2, At2_3, ct2_3, rfl, rfl, rfl⟩
 refine so rfl (op_alloc (cs := [.int .i64 0, .slice none 0 0, .slice none 0 0, .slice none 0 0, .int .i64 0]) (by kernel_rfl) rfl fun b7 => (so rfl (op_st (cs' := [.int .i64 t2_0, .slice At2_1 t2_1.length ct2_1, .slice At2_2 t2_2.length ct2_2, .slice At2_3 t2_3.length ct2_3, .int .i64 t2_4]) 2 rfl rfl rfl rfl rfl rfl (re ?_))))
 refine jo (fun S => ∃ (m : Nat) (x14_6 : List S92) (Ax14_6 : Option Addr) (cx14_6 : Nat) (x14_5_0 : Int) (x14_5_1 : List S70) (Ax14_5_1 : Option Addr) (cx14_5_1 : Nat) (x14_5_2 : List S70) (Ax14_5_2 : Option Addr) (cx14_5_2 : Nat) (x14_5_3 : List Bool) (Ax14_5_3 : Option Addr) (cx14_5_3 : Nat) (x14_5_4 : Int) (x14_7_0 : Int) (x14_7_1 : List S70) (Ax14_7_1 : Option Addr) (cx14_7_1 : Nat) (x14_7_2 : List S70) (Ax14_7_2 : Option Addr) (cx14_7_2 : Nat) (x14_7_3 : List Bool) (Ax14_7_3 : Option Addr) (cx14_7_3 : Nat) (x14_7_4 : Int), spec_JoinChunk.j0 m x14_6 x14_5_0 x14_5_1 x14_5_2 x14_5_3 x14_5_4 x14_7_0 x14_7_1 x14_7_2 x14_7_3 x14_7_4 = some (r0, r1, r2, r3, r4, r5) ∧ S = ⟨[(5, .pointer (some ⟨b5, 0, none⟩)), (6, .slice Ax14_6 x14_6.length cx14_6), (7, .pointer (some ⟨b7, 0, none⟩))], [⟨b5, 44, [.int .i64 x14_5_0, .slice Ax14_5_1 x14_5_1.length cx14_5_1, .slice Ax14_5_2 x14_5_2.length cx14_5_2, .slice Ax14_5_3 x14_5_3.length cx14_5_3, .int .i64 x14_5_4]⟩, ⟨b7, 44, [.int .i64 x14_7_0, .slice Ax14_7_1 x14_7_1.length cx14_7_1, .slice Ax14_7_2 x14_7_2.length cx14_7_2, .slice Ax14_7_3 x14_7_3.length cx14_7_3, .int .i64 x14_7_4]⟩], [.sl 2 k92 Ax14_6 cx14_6 x14_6 1 true, .sl 2 k70 Ax14_5_1 cx14_5_1 x14_5_1 2 true, .sl 2 k70 Ax14_5_2 cx14_5_2 x14_5_2 3 true, .sl 2 .bool Ax14_5_3 cx14_5_3 x14_5_3 4 true, .sl 2 k70 Ax14_7_1 cx14_7_1 x14_7_1 5 true, .sl 2 k70 Ax14_7_2 cx14_7_2 x14_7_2 6 true, .sl 2 .bool Ax14_7_3 cx14_7_3 x14_7_3 7 true]⟩) (fun S hS => ?_) (fun jh0 => ?_)
 ·
  clear H
  obtain ⟨m3, x14_6, Ax14_6, cx14_6, x14_5_0, x14_5_1, Ax14_5_1, cx14_5_1, x14_5_2, Ax14_5_2, cx14_5_2, x14_5_3, Ax14_5_3, cx14_5_3, x14_5_4, x14_7_0, x14_7_1, Ax14_7_1, cx14_7_1, x14_7_2, Ax14_7_2, cx14_7_2, x14_7_3, Ax14_7_3, cx14_7_3, x14_7_4, H, rfl⟩ := hS
  rcases m3 with _ | m3
  · rw [spec_JoinChunk.j0] at H; cases H
  rw [spec_JoinChunk.j0] at H
  refine gs (dr [0, 1] [0, 1, 2, 3, 4, 5, 6] [3] 4 rfl rfl rfl rfl (xv 0 [0, 1] [0, 1, 2, 3, 4, 5, 6] rfl (EV.mv rfl) rfl rfl rfl rfl (xv 1 [0, 1] [0, 1, 2, 3, 4, 5, 6] rfl (EV.ld (v := .agg #[.int .i64 x14_7_0, .slice Ax14_7_1 x14_7_1.length cx14_7_1, .slice Ax14_7_2 x14_7_2.length cx14_7_2, .slice Ax14_7_3 x14_7_3.length cx14_7_3, .int .i64 x14_7_4]) 1 (some 5) rfl rfl rfl) rfl rfl rfl rfl (xv 2 [0, 1] [0, 1, 2, 3, 4, 5, 6] rfl (EV.as rfl) rfl rfl rfl rfl (one1 3 rfl rfl (op_st (cs' := [.int .i64 x14_7_0, .slice Ax14_7_1 x14_7_1.length cx14_7_1, .slice Ax14_7_2 x14_7_2.length cx14_7_2, .slice Ax14_7_3 x14_7_3.length cx14_7_3, .int .i64 x14_7_4]) 0 rfl rfl rfl rfl rfl rfl (xn rfl (xd ?_))))))))
  cases H
  exact rt Try.func26 rfl (.tmp rfl (.cell 0 (some 5) rfl rfl rfl .nil)) rfl [] [⟨0, 2, 1, true⟩, ⟨4, 2, 2, true⟩, ⟨5, 2, 3, true⟩, ⟨6, 2, 4, true⟩] rfl rfl rfl rfl rfl ⟨_, _, _, _, _, _, _, _, rfl, rfl, rfl⟩
 ·
  refine gs (rg (sv (EV.as rfl) rfl (re (gb (nil_ k70 6 dq (nil_ k70 7 dq (nil_ .bool 8 dq ?_)))))))
  refine lo (fun kk S => ∃ (x15_6 : List S92) (Ax15_6 : Option Addr) (cx15_6 : Nat) (x15_8 : Int) (x15_2_0 : Int) (x15_2_4 : Int) (x15_5_0 : Int) (x15_5_1 : List S70) (Ax15_5_1 : Option Addr) (cx15_5_1 : Nat) (x15_5_2 : List S70) (Ax15_5_2 : Option Addr) (cx15_5_2 : Nat) (x15_5_3 : List Bool) (Ax15_5_3 : Option Addr) (cx15_5_3 : Nat) (x15_5_4 : Int) (x15_7_0 : Int) (x15_7_1 : List S70) (Ax15_7_1 : Option Addr) (cx15_7_1 : Nat) (x15_7_2 : List S70) (Ax15_7_2 : Option Addr) (cx15_7_2 : Nat) (x15_7_3 : List Bool) (Ax15_7_3 : Option Addr) (cx15_7_3 : Nat) (x15_7_4 : Int), spec_JoinChunk.l0 kk x15_6 x15_8 x15_2_0 x15_2_4 x15_5_0 x15_5_1 x15_5_2 x15_5_3 x15_5_4 x15_7_0 x15_7_1 x15_7_2 x15_7_3 x15_7_4 l1 l0_1 l0_2 l0_3 = some (r0, r1, r2, r3, r4, r5) ∧ S = ⟨[(1, .slice Al1 l1.length cl1), (2, .pointer (some ⟨b2, 0, none⟩)), (5, .pointer (some ⟨b5, 0, none⟩)), (6, .slice Ax15_6 x15_6.length cx15_6), (7, .pointer (some ⟨b7, 0, none⟩)), (8, .int .i64 x15_8)], [⟨b2, 44, [.int .i64 x15_2_0, .slice Al0_1 l0_1.length cl0_1, .slice Al0_2 l0_2.length cl0_2, .slice Al0_3 l0_3.length cl0_3, .int .i64 x15_2_4]⟩, ⟨b5, 44, [.int .i64 x15_5_0, .slice Ax15_5_1 x15_5_1.length cx15_5_1, .slice Ax15_5_2 x15_5_2.length cx15_5_2, .slice Ax15_5_3 x15_5_3.length cx15_5_3, .int .i64 x15_5_4]⟩, ⟨b7, 44, [.int .i64 x15_7_0, .slice Ax15_7_1 x15_7_1.length cx15_7_1, .slice Ax15_7_2 x15_7_2.length cx15_7_2, .slice Ax15_7_3 x15_7_3.length cx15_7_3, .int .i64 x15_7_4]⟩], [.sl 2 k92 Ax15_6 cx15_6 x15_6 1 true, .sl 2 k70 Ax15_5_1 cx15_5_1 x15_5_1 2 true, .sl 2 k70 Ax15_5_2 cx15_5_2 x15_5_2 3 true, .sl 2 .bool Ax15_5_3 cx15_5_3 x15_5_3 4 true, .sl 2 k70 Ax15_7_1 cx15_7_1 x15_7_1 5 true, .sl 2 k70 Ax15_7_2 cx15_7_2 x15_7_2 6 true, .sl 2 .bool Ax15_7_3 cx15_7_3 x15_7_3 7 true, .sl 0 k70 Al1 cl1 l1 0 false, .sl 0 k70 Al0_1 cl0_1 l0_1 0 false, .sl 0 k70 Al0_2 cl0_2 l0_2 0 false, .sl 0 .bool Al0_3 cl0_3 l0_3 0 false]⟩) (fun S hS => ?_) (fun n0 ih0 S hS => ?_) ⟨[], A10_1, c10_1, 0, a0_0, a0_4, 0, [], none, 0, [], none, 0, [], none, 0, 0, t2_0, t2_1, At2_1, ct2_1, t2_2, At2_2, ct2_2, t2_3, At2_3, ct2_3, t2_4, H, rfl⟩ (fun h => wk [1, 2, 5, 6, 7, 8] [0, 1, 2] [⟨4, 2, 1, true⟩, ⟨8, 2, 2, true⟩, ⟨9, 2, 3, true⟩, ⟨10, 2, 4, true⟩, ⟨5, 2, 5, true⟩, ⟨6, 2, 6, true⟩, ⟨7, 2, 7, true⟩, ⟨3, 0, 0, false⟩, ⟨0, 0, 0, false⟩, ⟨1, 0, 0, false⟩, ⟨2, 0, 0, false⟩] h)
  · clear H; obtain ⟨_, _, _, _, _, _, _, _, _, _, _, _, _, _, _, _, _, _, _, _, _, _, _, _, _, _, _, _, H, _⟩ := hS; rw [spec_JoinChunk.l0] at H; cases H
  clear H
  obtain ⟨x15_6, Ax15_6, cx15_6, x15_8, x15_2_0, x15_2_4, x15_5_0, x15_5_1, Ax15_5_1, cx15_5_1, x15_5_2, Ax15_5_2, cx15_5_2, x15_5_3, Ax15_5_3, cx15_5_3, x15_5_4, x15_7_0, x15_7_1, Ax15_7_1, cx15_7_1, x15_7_2, Ax15_7_2, cx15_7_2, x15_7_3, Ax15_7_3, cx15_7_3, x15_7_4, H, rfl⟩ := hS
  rw [spec_JoinChunk.l0] at H
  refine gs (gs (rg (sv (EV.mv rfl) rfl (sv (EV.fa 1 rfl) rfl (sv (EV.ld 0 none rfl rfl rfl) rfl (sv (EV.ln rfl) rfl (sv (EV.lss rfl rfl) rfl (sv (EV.mv rfl) rfl ?_))))))))
  revert H; refine ifsI ?_ ?_ <;> intro c4 H
  ·
   refine ts 18 rfl (dT c4) (sv (EV.ld (v := .agg #[.int .i64 x15_2_0, .slice Al0_1 l0_1.length cl0_1, .slice Al0_2 l0_2.length cl0_2, .slice Al0_3 l0_3.length cl0_3, .int .i64 x15_2_4]) 0 (some 5) rfl rfl rfl) rfl ?_)
   revert H; refine bdI ?_; rintro t5 A5 H
   refine so rfl (op_call (spec_IsValidTask.ok n0 x15_2_0 l0_1 Al0_1 cl0_1 l0_2 Al0_2 cl0_2 l0_3 Al0_3 cl0_3 x15_2_4 _ A5) [⟨8, 0, 0, false⟩, ⟨9, 0, 0, false⟩, ⟨10, 0, 0, false⟩] 8 rfl rfl rfl rfl rfl ?_)
   rintro _ _ _ ⟨rfl, rfl, rfl⟩
   refine sv (EV.pt rfl rfl rfl) rfl (re (pr [1, 2, 5, 6, 7, 8, 19, 20, 21] [0, 1, 2] [0, 1, 2, 3, 4, 5, 6, 7, 8, 9, 10] rfl rfl rfl rfl ?_))
   revert H; refine ifsI ?_ ?_ <;> intro c6 H
   ·
    subst c6
    refine gt rfl rfl (gk (gs (gb (gs (rg (sv (EV.fa 1 rfl) rfl (sv (EV.ld 0 none rfl rfl rfl) rfl (sv (EV.mv rfl) rfl ?_))))))))
    revert H; refine ggI ?_; intro g7 H
    refine sv (EV.ix 8 rfl rfl rfl g7 c4 rfl) rfl (sv (EV.le (v := .agg #[.int .i64 ((rd_T70 l0_1 x15_8).f0), .int .i64 ((rd_T70 l0_1 x15_8).f1), .int .i64 ((rd_T70 l0_1 x15_8).f2)]) x15_8 0 (some 3) 8 z70 rfl rfl rfl g7 c4 rfl rfl rfl) rfl (sv (EV.mv rfl) rfl ?_))
    revert H; refine bdI ?_; rintro t8 A8 H
    refine so rfl (op_call (spec_CountMatches.ok n0 ((rd_T70 l0_1 x15_8).f0) ((rd_T70 l0_1 x15_8).f1) ((rd_T70 l0_1 x15_8).f2) l1 Al1 cl1 _ A8) [⟨7, 0, 0, false⟩] 8 rfl rfl rfl rfl rfl ?_)
    rintro _ _ _ ⟨rfl, rfl, rfl⟩
    refine sv (EV.as rfl) rfl (re (pr [1, 2, 5, 6, 7, 8, 9, 19, 20] [0, 1, 2] [0, 1, 2, 3, 4, 5, 6, 7, 8, 9, 10] rfl rfl rfl rfl (gs (gs (rg (sv (EV.mv rfl) rfl (sv (EV.eql rfl rfl) rfl (re ?_))))))))
    revert H; refine ifsI ?_ ?_ <;> intro c9 H
    ·
     exact gt rfl (dT c9) (gx rfl (rg (sv (EV.mv rfl) rfl (sv (EV.add rfl rfl) rfl (sv (EV.as rfl) rfl (re (wk [1, 2, 5, 6, 7, 8] [0, 1, 2] [⟨0, 2, 1, true⟩, ⟨1, 2, 2, true⟩, ⟨2, 2, 3, true⟩, ⟨3, 2, 4, true⟩, ⟨4, 2, 5, true⟩, ⟨5, 2, 6, true⟩, ⟨6, 2, 7, true⟩, ⟨7, 0, 0, false⟩, ⟨8, 0, 0, false⟩, ⟨9, 0, 0, false⟩, ⟨10, 0, 0, false⟩] (ih0 _ (by omega) _ ⟨x15_6, Ax15_6, cx15_6, wrap64 (x15_8 + 1), x15_2_0, x15_2_4, x15_5_0, x15_5_1, Ax15_5_1, cx15_5_1, x15_5_2, Ax15_5_2, cx15_5_2, x15_5_3, Ax15_5_3, cx15_5_3, x15_5_4, x15_7_0, x15_7_1, Ax15_7_1, cx15_7_1, x15_7_2, Ax15_7_2, cx15_7_2, x15_7_3, Ax15_7_3, cx15_7_3, x15_7_4, H, rfl⟩))))))))
    ·
     refine gf rfl (dF c9) (gk ?_)
     refine jo (fun S => ∃ (m : Nat) (x26_6 : List S92) (Ax26_6 : Option Addr) (cx26_6 : Nat) (x26_8 : Int) (x26_19_0 : Int) (x26_19_4 : Int) (x26_20 : Bool) (x26_2_0 : Int) (x26_2_4 : Int) (x26_5_0 : Int) (x26_5_1 : List S70) (Ax26_5_1 : Option Addr) (cx26_5_1 : Nat) (x26_5_2 : List S70) (Ax26_5_2 : Option Addr) (cx26_5_2 : Nat) (x26_5_3 : List Bool) (Ax26_5_3 : Option Addr) (cx26_5_3 : Nat) (x26_5_4 : Int) (x26_7_0 : Int) (x26_7_1 : List S70) (Ax26_7_1 : Option Addr) (cx26_7_1 : Nat) (x26_7_2 : List S70) (Ax26_7_2 : Option Addr) (cx26_7_2 : Nat) (x26_7_3 : List Bool) (Ax26_7_3 : Option Addr) (cx26_7_3 : Nat) (x26_7_4 : Int), m ≤ n0 ∧ spec_JoinChunk.j1 m x26_6 x26_8 x26_19_0 x26_19_4 x26_20 x26_2_0 x26_2_4 x26_5_0 x26_5_1 x26_5_2 x26_5_3 x26_5_4 x26_7_0 x26_7_1 x26_7_2 x26_7_3 x26_7_4 l1 l0_1 l0_2 l0_3 = some (r0, r1, r2, r3, r4, r5) ∧ S = ⟨[(1, .slice Al1 l1.length cl1), (2, .pointer (some ⟨b2, 0, none⟩)), (5, .pointer (some ⟨b5, 0, none⟩)), (6, .slice Ax26_6 x26_6.length cx26_6), (7, .pointer (some ⟨b7, 0, none⟩)), (8, .int .i64 x26_8), (19, .agg #[.int .i64 x26_19_0, .slice Al0_1 l0_1.length cl0_1, .slice Al0_2 l0_2.length cl0_2, .slice Al0_3 l0_3.length cl0_3, .int .i64 x26_19_4]), (20, .bool x26_20)], [⟨b2, 44, [.int .i64 x26_2_0, .slice Al0_1 l0_1.length cl0_1, .slice Al0_2 l0_2.length cl0_2, .slice Al0_3 l0_3.length cl0_3, .int .i64 x26_2_4]⟩, ⟨b5, 44, [.int .i64 x26_5_0, .slice Ax26_5_1 x26_5_1.length cx26_5_1, .slice Ax26_5_2 x26_5_2.length cx26_5_2, .slice Ax26_5_3 x26_5_3.length cx26_5_3, .int .i64 x26_5_4]⟩, ⟨b7, 44, [.int .i64 x26_7_0, .slice Ax26_7_1 x26_7_1.length cx26_7_1, .slice Ax26_7_2 x26_7_2.length cx26_7_2, .slice Ax26_7_3 x26_7_3.length cx26_7_3, .int .i64 x26_7_4]⟩], [.sl 2 k92 Ax26_6 cx26_6 x26_6 1 true, .sl 2 k70 Ax26_5_1 cx26_5_1 x26_5_1 2 true, .sl 2 k70 Ax26_5_2 cx26_5_2 x26_5_2 3 true, .sl 2 .bool Ax26_5_3 cx26_5_3 x26_5_3 4 true, .sl 2 k70 Ax26_7_1 cx26_7_1 x26_7_1 5 true, .sl 2 k70 Ax26_7_2 cx26_7_2 x26_7_2 6 true, .sl 2 .bool Ax26_7_3 cx26_7_3 x26_7_3 7 true, .sl 0 k70 Al1 cl1 l1 0 false, .sl 0 k70 Al0_1 cl0_1 l0_1 0 false, .sl 0 k70 Al0_2 cl0_2 l0_2 0 false, .sl 0 .bool Al0_3 cl0_3 l0_3 0 false]⟩) (fun S hS => ?_) (fun jh1 => ?_)
     ·
      clear H
      obtain ⟨m10, x26_6, Ax26_6, cx26_6, x26_8, x26_19_0, x26_19_4, x26_20, x26_2_0, x26_2_4, x26_5_0, x26_5_1, Ax26_5_1, cx26_5_1, x26_5_2, Ax26_5_2, cx26_5_2, x26_5_3, Ax26_5_3, cx26_5_3, x26_5_4, x26_7_0, x26_7_1, Ax26_7_1, cx26_7_1, x26_7_2, Ax26_7_2, cx26_7_2, x26_7_3, Ax26_7_3, cx26_7_3, x26_7_4, lm10, H, rfl⟩ := hS
      rcases m10 with _ | m10
      · rw [spec_JoinChunk.j1] at H; cases H
      rw [spec_JoinChunk.j1] at H
      refine rg (sv (EV.fa 3 rfl) rfl (sv (EV.ld 2 none rfl rfl rfl) rfl (sv (EV.mv rfl) rfl ?_)))
      revert H; refine ggI ?_; intro g11 H
      revert H; refine ggI ?_; intro g12 H
      exact sv (EV.ix 6 rfl rfl rfl g11 g12 rfl) rfl (so rfl (op_stf x26_8 0 6 false true rfl rfl rfl rfl g11 g12 rfl rfl rfl rfl dq rfl (rlT 65 (v' := .slice Ax26_7_3 (x26_7_3.set x26_8.toNat true).length cx26_7_3) rfl (sle _ _ _ _ _) (rlB 2 (cs' := [.int .i64 x26_7_0, .slice Ax26_7_1 x26_7_1.length cx26_7_1, .slice Ax26_7_2 x26_7_2.length cx26_7_2, .slice Ax26_7_3 (x26_7_3.set x26_8.toNat true).length cx26_7_3, .int .i64 x26_7_4]) rfl (by simp only [List.length_set]) (nmE (en := [.sl 2 k92 Ax26_6 cx26_6 x26_6 1 true, .sl 2 k70 Ax26_5_1 cx26_5_1 x26_5_1 2 true, .sl 2 k70 Ax26_5_2 cx26_5_2 x26_5_2 3 true, .sl 2 .bool Ax26_5_3 cx26_5_3 x26_5_3 4 true, .sl 2 k70 Ax26_7_1 cx26_7_1 x26_7_1 5 true, .sl 2 k70 Ax26_7_2 cx26_7_2 x26_7_2 6 true, .sl 0 k70 Al1 cl1 l1 0 false, .sl 0 k70 Al0_1 cl0_1 l0_1 0 false, .sl 0 k70 Al0_2 cl0_2 l0_2 0 false, .sl 0 .bool Al0_3 cl0_3 l0_3 0 false, .sl 2 .bool Ax26_7_3 cx26_7_3 (x26_7_3.set x26_8.toNat true) 7 true]) (by kernel_rfl) (re (ge (rg (sv (EV.mv rfl) rfl (sv (EV.add rfl rfl) rfl (sv (EV.as rfl) rfl (re (wk [1, 2, 5, 6, 7, 8] [0, 1, 2] [⟨0, 2, 1, true⟩, ⟨1, 2, 2, true⟩, ⟨2, 2, 3, true⟩, ⟨3, 2, 4, true⟩, ⟨4, 2, 5, true⟩, ⟨5, 2, 6, true⟩, ⟨10, 2, 7, true⟩, ⟨6, 0, 0, false⟩, ⟨7, 0, 0, false⟩, ⟨8, 0, 0, false⟩, ⟨9, 0, 0, false⟩] (ih0 _ (by omega) _ ⟨x26_6, Ax26_6, cx26_6, wrap64 (x26_8 + 1), x26_2_0, x26_2_4, x26_5_0, x26_5_1, Ax26_5_1, cx26_5_1, x26_5_2, Ax26_5_2, cx26_5_2, x26_5_3, Ax26_5_3, cx26_5_3, x26_5_4, x26_7_0, x26_7_1, Ax26_7_1, cx26_7_1, x26_7_2, Ax26_7_2, cx26_7_2, x26_7_3.set x26_8.toNat true, Ax26_7_3, cx26_7_3, x26_7_4, H, rfl⟩))))))))))))))
     ·
      refine gs (rg (sv (EV.fa 0 rfl) rfl (sv (EV.ld 0 none rfl rfl rfl) rfl (re (gb (gs (rg (sv (EV.eql rfl rfl) rfl (sv (EV.as rfl) rfl (re ?_))))))))))
      revert H; refine ifsI ?_ ?_ <;> intro c13 H
      ·
       refine gt rfl (dT c13) (gs (rg (sv (EV.fa 3 rfl) rfl (sv (EV.ld 0 none rfl rfl rfl) rfl (sv (EV.mv rfl) rfl ?_)))))
       revert H; refine ggI ?_; intro g14 H
       refine sv (EV.ix 10 rfl rfl rfl g7 g14 rfl) rfl (sv (EV.le (v := .bool (rdOf false l0_3 x15_8)) x15_8 0 none 10 false rfl rfl rfl g7 g14 rfl rfl rfl) rfl (sv (EV.nt rfl) rfl (re (pr [1, 2, 5, 6, 7, 8, 19, 20, 42] [0, 1, 2] [0, 1, 2, 3, 4, 5, 6, 7, 8, 9, 10] rfl rfl rfl rfl ?_))))
       revert H; refine ifsI ?_ ?_ <;> intro c15 H
       ·
        exact gf rfl (bN c15) (gk (ge (wk [1, 2, 5, 6, 7, 8, 19, 20] [0, 1, 2] [⟨0, 2, 1, true⟩, ⟨1, 2, 2, true⟩, ⟨2, 2, 3, true⟩, ⟨3, 2, 4, true⟩, ⟨4, 2, 5, true⟩, ⟨5, 2, 6, true⟩, ⟨6, 2, 7, true⟩, ⟨7, 0, 0, false⟩, ⟨8, 0, 0, false⟩, ⟨9, 0, 0, false⟩, ⟨10, 0, 0, false⟩] (jh1 _ ⟨_, x15_6, Ax15_6, cx15_6, x15_8, x15_2_0, x15_2_4, true, x15_2_0, x15_2_4, x15_5_0, x15_5_1, Ax15_5_1, cx15_5_1, x15_5_2, Ax15_5_2, cx15_5_2, x15_5_3, Ax15_5_3, cx15_5_3, x15_5_4, x15_7_0, x15_7_1, Ax15_7_1, cx15_7_1, x15_7_2, Ax15_7_2, cx15_7_2, x15_7_3, Ax15_7_3, cx15_7_3, x15_7_4, by omega, H, rfl⟩))))
       ·
        refine gt rfl (bM c15) (rg (sv (EV.mv rfl) rfl (sv (EV.fa 1 rfl) rfl (sv (EV.ld 0 none rfl rfl rfl) rfl (sv (EV.mv rfl) rfl (sv (EV.ix 8 rfl rfl rfl g7 c4 rfl) rfl (sv (EV.le (v := .agg #[.int .i64 ((rd_T70 l0_1 x15_8).f0), .int .i64 ((rd_T70 l0_1 x15_8).f1), .int .i64 ((rd_T70 l0_1 x15_8).f2)]) x15_8 0 (some 3) 8 z70 rfl rfl rfl g7 c4 rfl rfl rfl) rfl (sv (EV.bd (v := .agg #[.int .i64 ((rd_T70 l0_1 x15_8).f0), .int .i64 ((rd_T70 l0_1 x15_8).f1), .int .i64 ((rd_T70 l0_1 x15_8).f2), .int .i64 0, .int .i64 0, .int .i64 0, .bool false]) rfl (by kernel_rfl)) rfl (so rfl (op_lit (s := 7) (by_ := 56) k92 ([(⟨(⟨(rd_T70 l0_1 x15_8).f0, (rd_T70 l0_1 x15_8).f1, (rd_T70 l0_1 x15_8).f2⟩ : S70), (⟨0, 0, 0⟩ : S70), false⟩ : S92)] : List S92) [[]] [] 8 [.tmp 49] rfl rfl rfl rfl rfl rfl rfl rfl rfl rfl rfl rfl rfl dq rfl fun A50_16 c50_16 => ?_))))))))))
        revert H; refine ggI ?_; intro g17 H
        exact so rfl (op_app (k := k92) (s := 7) (by_ := 56) 0 11 rfl rfl rfl rfl (ap1 g17 dq) (ap1n g17 dq) (.inl rfl) true (fun _ => .inl rfl) rfl rfl fun A51_18 c51_18 => (nmE (en := [.sl 2 k70 Ax15_5_1 cx15_5_1 x15_5_1 2 true, .sl 2 k70 Ax15_5_2 cx15_5_2 x15_5_2 3 true, .sl 2 .bool Ax15_5_3 cx15_5_3 x15_5_3 4 true, .sl 2 k70 Ax15_7_1 cx15_7_1 x15_7_1 5 true, .sl 2 k70 Ax15_7_2 cx15_7_2 x15_7_2 6 true, .sl 2 .bool Ax15_7_3 cx15_7_3 x15_7_3 7 true, .sl 0 k70 Al1 cl1 l1 0 false, .sl 0 k70 Al0_1 cl0_1 l0_1 0 false, .sl 0 k70 Al0_2 cl0_2 l0_2 0 false, .sl 0 .bool Al0_3 cl0_3 l0_3 0 false, .sl 2 k92 A50_16 c50_16 ([(⟨(⟨(rd_T70 l0_1 x15_8).f0, (rd_T70 l0_1 x15_8).f1, (rd_T70 l0_1 x15_8).f2⟩ : S70), (⟨0, 0, 0⟩ : S70), false⟩ : S92)] : List S92) 8 true, .sl 2 k92 A51_18 c51_18 (x15_6 ++ ([(⟨(⟨(rd_T70 l0_1 x15_8).f0, (rd_T70 l0_1 x15_8).f1, (rd_T70 l0_1 x15_8).f2⟩ : S70), (⟨0, 0, 0⟩ : S70), false⟩ : S92)] : List S92)) 1 true]) (by kernel_rfl) (sv (EV.as rfl) rfl (re (pr [1, 2, 5, 6, 7, 8, 19, 20] [0, 1, 2] [0, 1, 2, 3, 4, 5, 6, 7, 8, 9, 11] rfl rfl rfl rfl (ge (wk [1, 2, 5, 6, 7, 8, 19, 20] [0, 1, 2] [⟨10, 2, 1, true⟩, ⟨0, 2, 2, true⟩, ⟨1, 2, 3, true⟩, ⟨2, 2, 4, true⟩, ⟨3, 2, 5, true⟩, ⟨4, 2, 6, true⟩, ⟨5, 2, 7, true⟩, ⟨6, 0, 0, false⟩, ⟨7, 0, 0, false⟩, ⟨8, 0, 0, false⟩, ⟨9, 0, 0, false⟩] (jh1 _ ⟨_, x15_6 ++ ([(⟨(⟨(rd_T70 l0_1 x15_8).f0, (rd_T70 l0_1 x15_8).f1, (rd_T70 l0_1 x15_8).f2⟩ : S70), (⟨0, 0, 0⟩ : S70), false⟩ : S92)] : List S92), A51_18, c51_18, x15_8, x15_2_0, x15_2_4, true, x15_2_0, x15_2_4, x15_5_0, x15_5_1, Ax15_5_1, cx15_5_1, x15_5_2, Ax15_5_2, cx15_5_2, x15_5_3, Ax15_5_3, cx15_5_3, x15_5_4, x15_7_0, x15_7_1, Ax15_7_1, cx15_7_1, x15_7_2, Ax15_7_2, cx15_7_2, x15_7_3, Ax15_7_3, cx15_7_3, x15_7_4, by omega, H, rfl⟩))))))))
      ·
       refine gf rfl (dF c13) ?_
       refine jo (fun S => ∃ (m : Nat) (x27_6 : List S92) (Ax27_6 : Option Addr) (cx27_6 : Nat) (x27_8 : Int) (x27_19_0 : Int) (x27_19_4 : Int) (x27_20 : Bool) (x27_52 : Bool) (x27_2_0 : Int) (x27_2_4 : Int) (x27_5_0 : Int) (x27_5_1 : List S70) (Ax27_5_1 : Option Addr) (cx27_5_1 : Nat) (x27_5_2 : List S70) (Ax27_5_2 : Option Addr) (cx27_5_2 : Nat) (x27_5_3 : List Bool) (Ax27_5_3 : Option Addr) (cx27_5_3 : Nat) (x27_5_4 : Int) (x27_7_0 : Int) (x27_7_1 : List S70) (Ax27_7_1 : Option Addr) (cx27_7_1 : Nat) (x27_7_2 : List S70) (Ax27_7_2 : Option Addr) (cx27_7_2 : Nat) (x27_7_3 : List Bool) (Ax27_7_3 : Option Addr) (cx27_7_3 : Nat) (x27_7_4 : Int), m ≤ n0 ∧ spec_JoinChunk.j2 m x27_6 x27_8 x27_19_0 x27_19_4 x27_20 x27_52 x27_2_0 x27_2_4 x27_5_0 x27_5_1 x27_5_2 x27_5_3 x27_5_4 x27_7_0 x27_7_1 x27_7_2 x27_7_3 x27_7_4 l1 l0_1 l0_2 l0_3 = some (r0, r1, r2, r3, r4, r5) ∧ S = ⟨[(1, .slice Al1 l1.length cl1), (2, .pointer (some ⟨b2, 0, none⟩)), (5, .pointer (some ⟨b5, 0, none⟩)), (6, .slice Ax27_6 x27_6.length cx27_6), (7, .pointer (some ⟨b7, 0, none⟩)), (8, .int .i64 x27_8), (19, .agg #[.int .i64 x27_19_0, .slice Al0_1 l0_1.length cl0_1, .slice Al0_2 l0_2.length cl0_2, .slice Al0_3 l0_3.length cl0_3, .int .i64 x27_19_4]), (20, .bool x27_20), (52, .bool x27_52)], [⟨b2, 44, [.int .i64 x27_2_0, .slice Al0_1 l0_1.length cl0_1, .slice Al0_2 l0_2.length cl0_2, .slice Al0_3 l0_3.length cl0_3, .int .i64 x27_2_4]⟩, ⟨b5, 44, [.int .i64 x27_5_0, .slice Ax27_5_1 x27_5_1.length cx27_5_1, .slice Ax27_5_2 x27_5_2.length cx27_5_2, .slice Ax27_5_3 x27_5_3.length cx27_5_3, .int .i64 x27_5_4]⟩, ⟨b7, 44, [.int .i64 x27_7_0, .slice Ax27_7_1 x27_7_1.length cx27_7_1, .slice Ax27_7_2 x27_7_2.length cx27_7_2, .slice Ax27_7_3 x27_7_3.length cx27_7_3, .int .i64 x27_7_4]⟩], [.sl 2 k92 Ax27_6 cx27_6 x27_6 1 true, .sl 2 k70 Ax27_5_1 cx27_5_1 x27_5_1 2 true, .sl 2 k70 Ax27_5_2 cx27_5_2 x27_5_2 3 true, .sl 2 .bool Ax27_5_3 cx27_5_3 x27_5_3 4 true, .sl 2 k70 Ax27_7_1 cx27_7_1 x27_7_1 5 true, .sl 2 k70 Ax27_7_2 cx27_7_2 x27_7_2 6 true, .sl 2 .bool Ax27_7_3 cx27_7_3 x27_7_3 7 true, .sl 0 k70 Al1 cl1 l1 0 false, .sl 0 k70 Al0_1 cl0_1 l0_1 0 false, .sl 0 k70 Al0_2 cl0_2 l0_2 0 false, .sl 0 .bool Al0_3 cl0_3 l0_3 0 false]⟩) (fun S hS => ?_) (fun jh2 => ?_)
       ·
        clear H
        obtain ⟨m19, x27_6, Ax27_6, cx27_6, x27_8, x27_19_0, x27_19_4, x27_20, x27_52, x27_2_0, x27_2_4, x27_5_0, x27_5_1, Ax27_5_1, cx27_5_1, x27_5_2, Ax27_5_2, cx27_5_2, x27_5_3, Ax27_5_3, cx27_5_3, x27_5_4, x27_7_0, x27_7_1, Ax27_7_1, cx27_7_1, x27_7_2, Ax27_7_2, cx27_7_2, x27_7_3, Ax27_7_3, cx27_7_3, x27_7_4, lm19, H, rfl⟩ := hS
        rcases m19 with _ | m19
        · rw [spec_JoinChunk.j2] at H; cases H
        rw [spec_JoinChunk.j2] at H
        revert H; refine ifsI ?_ ?_ <;> intro c20 H
        ·
         subst c20
         refine gt rfl rfl (rg (sv (EV.mv rfl) rfl (sv (EV.fa 1 rfl) rfl (sv (EV.ld 0 none rfl rfl rfl) rfl (sv (EV.mv rfl) rfl ?_)))))
         revert H; refine ggI ?_; intro g21 H
         revert H; refine ggI ?_; intro g22 H
         refine sv (EV.ix 8 rfl rfl rfl g21 g22 rfl) rfl (sv (EV.le (v := .agg #[.int .i64 ((rd_T70 l0_1 x27_8).f0), .int .i64 ((rd_T70 l0_1 x27_8).f1), .int .i64 ((rd_T70 l0_1 x27_8).f2)]) x27_8 0 (some 3) 8 z70 rfl rfl rfl g21 g22 rfl rfl rfl) rfl (sv (EV.mv rfl) rfl ?_))
         revert H; refine bdI ?_; rintro t23 A23 H
         refine so rfl (op_call (spec_l7One.ok m19 1 ((rd_T70 l0_1 x27_8).f0) ((rd_T70 l0_1 x27_8).f1) ((rd_T70 l0_1 x27_8).f2) l1 Al1 cl1 _ A23) [⟨7, 0, 0, false⟩] 8 rfl rfl rfl rfl rfl ?_)
         rintro _ _ _ ⟨At23, ct23, rfl, rfl, rfl⟩
         revert H; refine ggI ?_; intro g24 H
         exact so rfl (op_app (k := k92) (s := 7) (by_ := 56) 0 11 rfl rfl rfl rfl (ap2 g24 dq) (ap2n g24 dq) (.inl rfl) true (fun _ => .inl rfl) rfl rfl fun A63_25 c63_25 => (nmE (en := [.sl 2 k70 Ax27_5_1 cx27_5_1 x27_5_1 2 true, .sl 2 k70 Ax27_5_2 cx27_5_2 x27_5_2 3 true, .sl 2 .bool Ax27_5_3 cx27_5_3 x27_5_3 4 true, .sl 2 k70 Ax27_7_1 cx27_7_1 x27_7_1 5 true, .sl 2 k70 Ax27_7_2 cx27_7_2 x27_7_2 6 true, .sl 2 .bool Ax27_7_3 cx27_7_3 x27_7_3 7 true, .sl 0 k70 Al1 cl1 l1 0 false, .sl 0 k70 Al0_1 cl0_1 l0_1 0 false, .sl 0 k70 Al0_2 cl0_2 l0_2 0 false, .sl 0 .bool Al0_3 cl0_3 l0_3 0 false, .sl 2 k92 At23 ct23 t23 9 true, .sl 2 k92 A63_25 c63_25 (x27_6 ++ t23) 1 true]) (by kernel_rfl) (sv (EV.as rfl) rfl (re (pr [1, 2, 5, 6, 7, 8, 19, 20] [0, 1, 2] [0, 1, 2, 3, 4, 5, 6, 7, 8, 9, 11] rfl rfl rfl rfl (ge (wk [1, 2, 5, 6, 7, 8, 19, 20] [0, 1, 2] [⟨10, 2, 1, true⟩, ⟨0, 2, 2, true⟩, ⟨1, 2, 3, true⟩, ⟨2, 2, 4, true⟩, ⟨3, 2, 5, true⟩, ⟨4, 2, 6, true⟩, ⟨5, 2, 7, true⟩, ⟨6, 0, 0, false⟩, ⟨7, 0, 0, false⟩, ⟨8, 0, 0, false⟩, ⟨9, 0, 0, false⟩] (jh1 _ ⟨_, x27_6 ++ t23, A63_25, c63_25, x27_8, x27_19_0, x27_19_4, x27_20, x27_2_0, x27_2_4, x27_5_0, x27_5_1, Ax27_5_1, cx27_5_1, x27_5_2, Ax27_5_2, cx27_5_2, x27_5_3, Ax27_5_3, cx27_5_3, x27_5_4, x27_7_0, x27_7_1, Ax27_7_1, cx27_7_1, x27_7_2, Ax27_7_2, cx27_7_2, x27_7_3, Ax27_7_3, cx27_7_3, x27_7_4, by omega, H, rfl⟩))))))))
        ·
         obtain rfl := bF c20
         exact gf rfl rfl (gk (ge (wk [1, 2, 5, 6, 7, 8, 19, 20] [0, 1, 2] [⟨0, 2, 1, true⟩, ⟨1, 2, 2, true⟩, ⟨2, 2, 3, true⟩, ⟨3, 2, 4, true⟩, ⟨4, 2, 5, true⟩, ⟨5, 2, 6, true⟩, ⟨6, 2, 7, true⟩, ⟨7, 0, 0, false⟩, ⟨8, 0, 0, false⟩, ⟨9, 0, 0, false⟩, ⟨10, 0, 0, false⟩] (jh1 _ ⟨_, x27_6, Ax27_6, cx27_6, x27_8, x27_19_0, x27_19_4, x27_20, x27_2_0, x27_2_4, x27_5_0, x27_5_1, Ax27_5_1, cx27_5_1, x27_5_2, Ax27_5_2, cx27_5_2, x27_5_3, Ax27_5_3, cx27_5_3, x27_5_4, x27_7_0, x27_7_1, Ax27_7_1, cx27_7_1, x27_7_2, Ax27_7_2, cx27_7_2, x27_7_3, Ax27_7_3, cx27_7_3, x27_7_4, by omega, H, rfl⟩))))
       ·
        refine gs (rg (sv (EV.eql rfl rfl) rfl (sv (EV.as rfl) rfl (re (pr [1, 2, 5, 6, 7, 8, 19, 20, 34, 52] [0, 1, 2] [0, 1, 2, 3, 4, 5, 6, 7, 8, 9, 10] rfl rfl rfl rfl ?_)))))
        revert H; refine ifsI ?_ ?_ <;> intro c26 H
        ·
         exact gt rfl (dT c26) (gk (wk [1, 2, 5, 6, 7, 8, 19, 20, 52] [0, 1, 2] [⟨0, 2, 1, true⟩, ⟨1, 2, 2, true⟩, ⟨2, 2, 3, true⟩, ⟨3, 2, 4, true⟩, ⟨4, 2, 5, true⟩, ⟨5, 2, 6, true⟩, ⟨6, 2, 7, true⟩, ⟨7, 0, 0, false⟩, ⟨8, 0, 0, false⟩, ⟨9, 0, 0, false⟩, ⟨10, 0, 0, false⟩] (jh2 _ ⟨_, x15_6, Ax15_6, cx15_6, x15_8, x15_2_0, x15_2_4, true, decide (x15_2_0 = 1), x15_2_0, x15_2_4, x15_5_0, x15_5_1, Ax15_5_1, cx15_5_1, x15_5_2, Ax15_5_2, cx15_5_2, x15_5_3, Ax15_5_3, cx15_5_3, x15_5_4, x15_7_0, x15_7_1, Ax15_7_1, cx15_7_1, x15_7_2, Ax15_7_2, cx15_7_2, x15_7_3, Ax15_7_3, cx15_7_3, x15_7_4, by omega, H, rfl⟩)))
        ·
         exact gf rfl (dF c26) (rg (sv (EV.eql rfl rfl) rfl (sv (EV.as rfl) rfl (re (wk [1, 2, 5, 6, 7, 8, 19, 20, 52] [0, 1, 2] [⟨0, 2, 1, true⟩, ⟨1, 2, 2, true⟩, ⟨2, 2, 3, true⟩, ⟨3, 2, 4, true⟩, ⟨4, 2, 5, true⟩, ⟨5, 2, 6, true⟩, ⟨6, 2, 7, true⟩, ⟨7, 0, 0, false⟩, ⟨8, 0, 0, false⟩, ⟨9, 0, 0, false⟩, ⟨10, 0, 0, false⟩] (jh2 _ ⟨_, x15_6, Ax15_6, cx15_6, x15_8, x15_2_0, x15_2_4, true, decide (x15_2_0 = 4), x15_2_0, x15_2_4, x15_5_0, x15_5_1, Ax15_5_1, cx15_5_1, x15_5_2, Ax15_5_2, cx15_5_2, x15_5_3, Ax15_5_3, cx15_5_3, x15_5_4, x15_7_0, x15_7_1, Ax15_7_1, cx15_7_1, x15_7_2, Ax15_7_2, cx15_7_2, x15_7_3, Ax15_7_3, cx15_7_3, x15_7_4, by omega, H, rfl⟩))))))
   ·
    obtain rfl := bF c6
    exact gf rfl rfl (gx rfl (wk [5, 6, 7] [1, 2] [⟨0, 2, 1, true⟩, ⟨1, 2, 2, true⟩, ⟨2, 2, 3, true⟩, ⟨3, 2, 4, true⟩, ⟨4, 2, 5, true⟩, ⟨5, 2, 6, true⟩, ⟨6, 2, 7, true⟩] (jh0 _ ⟨_, x15_6, Ax15_6, cx15_6, x15_5_0, x15_5_1, Ax15_5_1, cx15_5_1, x15_5_2, Ax15_5_2, cx15_5_2, x15_5_3, Ax15_5_3, cx15_5_3, x15_5_4, x15_7_0, x15_7_1, Ax15_7_1, cx15_7_1, x15_7_2, Ax15_7_2, cx15_7_2, x15_7_3, Ax15_7_3, cx15_7_3, x15_7_4, H, rfl⟩)))
  ·
   exact ts 18 rfl (dF c4) (sk rfl (sk rfl (sv (EV.pf rfl rfl rfl) rfl (re (pr [1, 2, 5, 6, 7, 8, 21] [0, 1, 2] [0, 1, 2, 3, 4, 5, 6, 7, 8, 9, 10] rfl rfl rfl rfl (gf rfl rfl (gx rfl (wk [5, 6, 7] [1, 2] [⟨0, 2, 1, true⟩, ⟨1, 2, 2, true⟩, ⟨2, 2, 3, true⟩, ⟨3, 2, 4, true⟩, ⟨4, 2, 5, true⟩, ⟨5, 2, 6, true⟩, ⟨6, 2, 7, true⟩] (jh0 _ ⟨_, x15_6, Ax15_6, cx15_6, x15_5_0, x15_5_1, Ax15_5_1, cx15_5_1, x15_5_2, Ax15_5_2, cx15_5_2, x15_5_3, Ax15_5_3, cx15_5_3, x15_5_4, x15_7_0, x15_7_1, Ax15_7_1, cx15_7_1, x15_7_2, Ax15_7_2, cx15_7_2, x15_7_3, Ax15_7_3, cx15_7_3, x15_7_4, H, rfl⟩)))))))))
end Go.Proofs.Ytajjeemkdjfilaa.K
namespace Go.Proofs.Ytajjeemkdjfilaa.K
open Go Go.RowKit
set_option linter.unusedVariables false
set_option linter.unusedSimpArgs false
def spec_UnmatchedRows.l0 : Nat → (List S92) → Int → Int → Int → (List S70) → (List S70) → (List Bool) → Option ((List S92))
 | 0, _, _, _, _, _, _, _ => none
 | k + 1, x2_3, x2_4, x2_1_0, x2_1_4, l0_1, l0_2, l0_3 => if x2_4 < (l0_1.length : Int) then ((spec_IsValidTask.f k x2_1_0 l0_1 l0_2 l0_3 x2_1_4).bind fun t3 => (if t3 = true then (if 0 ≤ x2_4 then (if x2_4 < (l0_3.length : Int) then (if (rdOf false l0_3 x2_4) = true then (spec_UnmatchedRows.l0 k x2_3 (wrap64 (x2_4 + 1)) x2_1_0 x2_1_4 l0_1 l0_2 l0_3) else (if x2_1_0 = 3 then (if x2_3.length < 2513169434916 then (spec_UnmatchedRows.l0 k (x2_3 ++ ([(⟨(⟨(rd_T70 l0_1 x2_4).f0, (rd_T70 l0_1 x2_4).f1, (rd_T70 l0_1 x2_4).f2⟩ : S70), (⟨0, 0, 0⟩ : S70), false⟩ : S92)] : List S92)) (wrap64 (x2_4 + 1)) x2_1_0 x2_1_4 l0_1 l0_2 l0_3) else none) else (if x2_1_0 = 4 then (if x2_3.length < 2513169434916 then (spec_UnmatchedRows.l0 k (x2_3 ++ ([(⟨(⟨(rd_T70 l0_1 x2_4).f0, (rd_T70 l0_1 x2_4).f1, (rd_T70 l0_1 x2_4).f2⟩ : S70), (⟨0, 0, 0⟩ : S70), false⟩ : S92)] : List S92)) (wrap64 (x2_4 + 1)) x2_1_0 x2_1_4 l0_1 l0_2 l0_3) else none) else (spec_UnmatchedRows.l0 k x2_3 (wrap64 (x2_4 + 1)) x2_1_0 x2_1_4 l0_1 l0_2 l0_3)))) else none) else none) else (some x2_3))) else (some x2_3)
def spec_UnmatchedRows.f (k : Nat) (a0_0 : Int) (l0_1 : List S70) (l0_2 : List S70) (l0_3 : List Bool) (a0_4 : Int) : Option ((List S92)) := spec_UnmatchedRows.l0 k [] 0 a0_0 a0_4 l0_1 l0_2 l0_3
set_option maxHeartbeats 4000000 in
set_option maxRecDepth 100000 in
theorem spec_UnmatchedRows.ok (k : Nat) (a0_0 : Int) (l0_1 : List S70) (Al0_1 : Option Addr) (cl0_1 : Nat) (l0_2 : List S70) (Al0_2 : Option Addr) (cl0_2 : Nat) (l0_3 : List Bool) (Al0_3 : Option Addr) (cl0_3 : Nat) (a0_4 : Int) (r0 : List S92) (H : spec_UnmatchedRows.f k a0_0 l0_1 l0_2 l0_3 a0_4 = some r0) : Fn Try.prog 30 [.agg #[.int .i64 a0_0, .slice Al0_1 l0_1.length cl0_1, .slice Al0_2 l0_2.length cl0_2, .slice Al0_3 l0_3.length cl0_3, .int .i64 a0_4]] [] [.sl 0 k70 Al0_1 cl0_1 l0_1 0 false, .sl 0 k70 Al0_2 cl0_2 l0_2 0 false, .sl 0 .bool Al0_3 cl0_3 l0_3 0 false] (fun v bx en => ∃ A0 c0, v = .slice A0 r0.length c0 ∧ bx = [] ∧ en = [.sl 2 k92 A0 c0 r0 1 true]) := by
 refine fn_ 43 Try.func30 rfl rfl rfl (fun base T w0 => ?_)
 rw [spec_UnmatchedRows.f] at H
 refine gs (rg (so rfl (op_box (cs := [.int .i64 a0_0, .slice Al0_1 l0_1.length cl0_1, .slice Al0_2 l0_2.length cl0_2, .slice Al0_3 l0_3.length cl0_3, .int .i64 a0_4]) rfl rfl rfl fun b1 => (sv (EV.as rfl) rfl (re (gs (rg (so rfl (op_lit (s := 7) (by_ := 56) k92 ([] : List S92) [] [] 1 [] rfl rfl rfl rfl rfl rfl rfl rfl rfl rfl rfl rfl rfl dq rfl fun A5_1 c5_1 => (sv (EV.as rfl) rfl (re (gs (gs (rg (sv (EV.as rfl) rfl (re (gb ?_)))))))))))))))))
 refine lo (fun kk S => ∃ (x2_3 : List S92) (Ax2_3 : Option Addr) (cx2_3 : Nat) (x2_4 : Int) (x2_1_0 : Int) (x2_1_4 : Int), spec_UnmatchedRows.l0 kk x2_3 x2_4 x2_1_0 x2_1_4 l0_1 l0_2 l0_3 = some r0 ∧ S = ⟨[(1, .pointer (some ⟨b1, 0, none⟩)), (3, .slice Ax2_3 x2_3.length cx2_3), (4, .int .i64 x2_4)], [⟨b1, 44, [.int .i64 x2_1_0, .slice Al0_1 l0_1.length cl0_1, .slice Al0_2 l0_2.length cl0_2, .slice Al0_3 l0_3.length cl0_3, .int .i64 x2_1_4]⟩], [.sl 2 k92 Ax2_3 cx2_3 x2_3 1 true, .sl 0 k70 Al0_1 cl0_1 l0_1 0 false, .sl 0 k70 Al0_2 cl0_2 l0_2 0 false, .sl 0 .bool Al0_3 cl0_3 l0_3 0 false]⟩) (fun S hS => ?_) (fun n0 ih0 S hS => ?_) ⟨[], A5_1, c5_1, 0, a0_0, a0_4, H, rfl⟩ (fun h => wk [1, 3, 4] [0] [⟨3, 2, 1, true⟩, ⟨0, 0, 0, false⟩, ⟨1, 0, 0, false⟩, ⟨2, 0, 0, false⟩] h)
 · clear H; obtain ⟨_, _, _, _, _, _, H, _⟩ := hS; rw [spec_UnmatchedRows.l0] at H; cases H
 clear H
 obtain ⟨x2_3, Ax2_3, cx2_3, x2_4, x2_1_0, x2_1_4, H, rfl⟩ := hS
 rw [spec_UnmatchedRows.l0] at H
 refine gs (gs (rg (sv (EV.mv rfl) rfl (sv (EV.fa 1 rfl) rfl (sv (EV.ld 0 none rfl rfl rfl) rfl (sv (EV.ln rfl) rfl (sv (EV.lss rfl rfl) rfl (sv (EV.mv rfl) rfl ?_))))))))
 revert H; refine ifsI ?_ ?_ <;> intro c2 H
 ·
  refine ts 11 rfl (dT c2) (sv (EV.ld (v := .agg #[.int .i64 x2_1_0, .slice Al0_1 l0_1.length cl0_1, .slice Al0_2 l0_2.length cl0_2, .slice Al0_3 l0_3.length cl0_3, .int .i64 x2_1_4]) 0 (some 5) rfl rfl rfl) rfl ?_)
  revert H; refine bdI ?_; rintro t3 A3 H
  refine so rfl (op_call (spec_IsValidTask.ok n0 x2_1_0 l0_1 Al0_1 cl0_1 l0_2 Al0_2 cl0_2 l0_3 Al0_3 cl0_3 x2_1_4 _ A3) [⟨1, 0, 0, false⟩, ⟨2, 0, 0, false⟩, ⟨3, 0, 0, false⟩] 2 rfl rfl rfl rfl rfl ?_)
  rintro _ _ _ ⟨rfl, rfl, rfl⟩
  refine sv (EV.pt rfl rfl rfl) rfl (re (pr [1, 3, 4, 12, 13, 14] [0] [0, 1, 2, 3] rfl rfl rfl rfl ?_))
  revert H; refine ifsI ?_ ?_ <;> intro c4 H
  ·
   subst c4
   refine gt rfl rfl (gk (gs (gb (gs (rg (sv (EV.fa 3 rfl) rfl (sv (EV.ld 0 none rfl rfl rfl) rfl (sv (EV.mv rfl) rfl ?_))))))))
   revert H; refine ggI ?_; intro g5 H
   revert H; refine ggI ?_; intro g6 H
   refine sv (EV.ix 3 rfl rfl rfl g5 g6 rfl) rfl (sv (EV.le (v := .bool (rdOf false l0_3 x2_4)) x2_4 0 none 3 false rfl rfl rfl g5 g6 rfl rfl rfl) rfl (sv (EV.nt rfl) rfl (sv (EV.mv rfl) rfl ?_)))
   revert H; refine ifsI ?_ ?_ <;> intro c7 H
   ·
    exact ts 23 rfl (bN c7) (sk rfl (sk rfl (sk rfl (sk rfl (sk rfl (sk rfl (sk rfl (sk rfl (sv (EV.pf rfl rfl rfl) rfl (re (pr [1, 3, 4, 12, 13, 32] [0] [0, 1, 2, 3] rfl rfl rfl rfl (gf rfl rfl (gk (ge (rg (sv (EV.mv rfl) rfl (sv (EV.add rfl rfl) rfl (sv (EV.as rfl) rfl (re (wk [1, 3, 4] [0] [⟨0, 2, 1, true⟩, ⟨1, 0, 0, false⟩, ⟨2, 0, 0, false⟩, ⟨3, 0, 0, false⟩] (ih0 _ (by omega) _ ⟨x2_3, Ax2_3, cx2_3, wrap64 (x2_4 + 1), x2_1_0, x2_1_4, H, rfl⟩)))))))))))))))))))))
   ·
    refine ts 23 rfl (bM c7) (sv (EV.fa 0 rfl) rfl (sv (EV.ld 0 none rfl rfl rfl) rfl (sv (EV.eql rfl rfl) rfl (sv (EV.mv rfl) rfl ?_))))
    revert H; refine ifsI ?_ ?_ <;> intro c8 H
    ·
     refine ts 27 rfl (dT c8) (sk rfl (sk rfl (sk rfl (sv (EV.pt rfl rfl rfl) rfl (sv (EV.pt rfl rfl rfl) rfl (re (pr [1, 3, 4, 12, 13, 24, 25, 26, 27, 31, 32] [0] [0, 1, 2, 3] rfl rfl rfl rfl (gt rfl rfl (rg (sv (EV.mv rfl) rfl (sv (EV.fa 1 rfl) rfl (sv (EV.ld 0 none rfl rfl rfl) rfl (sv (EV.mv rfl) rfl (sv (EV.ix 1 rfl rfl rfl g5 c2 rfl) rfl (sv (EV.le (v := .agg #[.int .i64 ((rd_T70 l0_1 x2_4).f0), .int .i64 ((rd_T70 l0_1 x2_4).f1), .int .i64 ((rd_T70 l0_1 x2_4).f2)]) x2_4 0 (some 3) 1 z70 rfl rfl rfl g5 c2 rfl rfl rfl) rfl (sv (EV.bd (v := .agg #[.int .i64 ((rd_T70 l0_1 x2_4).f0), .int .i64 ((rd_T70 l0_1 x2_4).f1), .int .i64 ((rd_T70 l0_1 x2_4).f2), .int .i64 0, .int .i64 0, .int .i64 0, .bool false]) rfl (by kernel_rfl)) rfl (so rfl (op_lit (s := 7) (by_ := 56) k92 ([(⟨(⟨(rd_T70 l0_1 x2_4).f0, (rd_T70 l0_1 x2_4).f1, (rd_T70 l0_1 x2_4).f2⟩ : S70), (⟨0, 0, 0⟩ : S70), false⟩ : S92)] : List S92) [[]] [] 2 [.tmp 39] rfl rfl rfl rfl rfl rfl rfl rfl rfl rfl rfl rfl rfl dq rfl fun A40_9 c40_9 => ?_))))))))))))))))))
     revert H; refine ggI ?_; intro g10 H
     exact so rfl (op_app (k := k92) (s := 7) (by_ := 56) 0 4 rfl rfl rfl rfl (ap1 g10 dq) (ap1n g10 dq) (.inl rfl) true (fun _ => .inl rfl) rfl rfl fun A41_11 c41_11 => (nmE (en := [.sl 0 k70 Al0_1 cl0_1 l0_1 0 false, .sl 0 k70 Al0_2 cl0_2 l0_2 0 false, .sl 0 .bool Al0_3 cl0_3 l0_3 0 false, .sl 2 k92 A40_9 c40_9 ([(⟨(⟨(rd_T70 l0_1 x2_4).f0, (rd_T70 l0_1 x2_4).f1, (rd_T70 l0_1 x2_4).f2⟩ : S70), (⟨0, 0, 0⟩ : S70), false⟩ : S92)] : List S92) 2 true, .sl 2 k92 A41_11 c41_11 (x2_3 ++ ([(⟨(⟨(rd_T70 l0_1 x2_4).f0, (rd_T70 l0_1 x2_4).f1, (rd_T70 l0_1 x2_4).f2⟩ : S70), (⟨0, 0, 0⟩ : S70), false⟩ : S92)] : List S92)) 1 true]) (by kernel_rfl) (sv (EV.as rfl) rfl (re (pr [1, 3, 4, 12, 13, 24, 25, 26, 27, 31] [0] [0, 1, 2, 4] rfl rfl rfl rfl (ge (rg (sv (EV.mv rfl) rfl (sv (EV.add rfl rfl) rfl (sv (EV.as rfl) rfl (re (wk [1, 3, 4] [0] [⟨3, 2, 1, true⟩, ⟨0, 0, 0, false⟩, ⟨1, 0, 0, false⟩, ⟨2, 0, 0, false⟩] (ih0 _ (by omega) _ ⟨x2_3 ++ ([(⟨(⟨(rd_T70 l0_1 x2_4).f0, (rd_T70 l0_1 x2_4).f1, (rd_T70 l0_1 x2_4).f2⟩ : S70), (⟨0, 0, 0⟩ : S70), false⟩ : S92)] : List S92), A41_11, c41_11, wrap64 (x2_4 + 1), x2_1_0, x2_1_4, H, rfl⟩)))))))))))))
    ·
     refine ts 27 rfl (dF c8) (sv (EV.fa 0 rfl) rfl (sv (EV.ld 0 none rfl rfl rfl) rfl (sv (EV.eql rfl rfl) rfl (sv (EV.pf rfl rfl rfl) rfl (sv (EV.pt rfl rfl rfl) rfl (re (pr [1, 3, 4, 12, 13, 24, 25, 26, 27, 28, 29, 30, 31, 32] [0] [0, 1, 2, 3] rfl rfl rfl rfl ?_)))))))
     revert H; refine ifsI ?_ ?_ <;> intro c12 H
     ·
      refine gt rfl (dT c12) (rg (sv (EV.mv rfl) rfl (sv (EV.fa 1 rfl) rfl (sv (EV.ld 0 none rfl rfl rfl) rfl (sv (EV.mv rfl) rfl (sv (EV.ix 1 rfl rfl rfl g5 c2 rfl) rfl (sv (EV.le (v := .agg #[.int .i64 ((rd_T70 l0_1 x2_4).f0), .int .i64 ((rd_T70 l0_1 x2_4).f1), .int .i64 ((rd_T70 l0_1 x2_4).f2)]) x2_4 0 (some 3) 1 z70 rfl rfl rfl g5 c2 rfl rfl rfl) rfl (sv (EV.bd (v := .agg #[.int .i64 ((rd_T70 l0_1 x2_4).f0), .int .i64 ((rd_T70 l0_1 x2_4).f1), .int .i64 ((rd_T70 l0_1 x2_4).f2), .int .i64 0, .int .i64 0, .int .i64 0, .bool false]) rfl (by kernel_rfl)) rfl (so rfl (op_lit (s := 7) (by_ := 56) k92 ([(⟨(⟨(rd_T70 l0_1 x2_4).f0, (rd_T70 l0_1 x2_4).f1, (rd_T70 l0_1 x2_4).f2⟩ : S70), (⟨0, 0, 0⟩ : S70), false⟩ : S92)] : List S92) [[]] [] 2 [.tmp 39] rfl rfl rfl rfl rfl rfl rfl rfl rfl rfl rfl rfl rfl dq rfl fun A40_13 c40_13 => ?_))))))))))
      revert H; refine ggI ?_; intro g14 H
      exact so rfl (op_app (k := k92) (s := 7) (by_ := 56) 0 4 rfl rfl rfl rfl (ap1 g14 dq) (ap1n g14 dq) (.inl rfl) true (fun _ => .inl rfl) rfl rfl fun A41_15 c41_15 => (nmE (en := [.sl 0 k70 Al0_1 cl0_1 l0_1 0 false, .sl 0 k70 Al0_2 cl0_2 l0_2 0 false, .sl 0 .bool Al0_3 cl0_3 l0_3 0 false, .sl 2 k92 A40_13 c40_13 ([(⟨(⟨(rd_T70 l0_1 x2_4).f0, (rd_T70 l0_1 x2_4).f1, (rd_T70 l0_1 x2_4).f2⟩ : S70), (⟨0, 0, 0⟩ : S70), false⟩ : S92)] : List S92) 2 true, .sl 2 k92 A41_15 c41_15 (x2_3 ++ ([(⟨(⟨(rd_T70 l0_1 x2_4).f0, (rd_T70 l0_1 x2_4).f1, (rd_T70 l0_1 x2_4).f2⟩ : S70), (⟨0, 0, 0⟩ : S70), false⟩ : S92)] : List S92)) 1 true]) (by kernel_rfl) (sv (EV.as rfl) rfl (re (pr [1, 3, 4, 12, 13, 24, 25, 26, 27, 28, 29, 30, 31] [0] [0, 1, 2, 4] rfl rfl rfl rfl (ge (rg (sv (EV.mv rfl) rfl (sv (EV.add rfl rfl) rfl (sv (EV.as rfl) rfl (re (wk [1, 3, 4] [0] [⟨3, 2, 1, true⟩, ⟨0, 0, 0, false⟩, ⟨1, 0, 0, false⟩, ⟨2, 0, 0, false⟩] (ih0 _ (by omega) _ ⟨x2_3 ++ ([(⟨(⟨(rd_T70 l0_1 x2_4).f0, (rd_T70 l0_1 x2_4).f1, (rd_T70 l0_1 x2_4).f2⟩ : S70), (⟨0, 0, 0⟩ : S70), false⟩ : S92)] : List S92), A41_15, c41_15, wrap64 (x2_4 + 1), x2_1_0, x2_1_4, H, rfl⟩)))))))))))))
     ·
      exact gf rfl (dF c12) (gk (ge (rg (sv (EV.mv rfl) rfl (sv (EV.add rfl rfl) rfl (sv (EV.as rfl) rfl (re (wk [1, 3, 4] [0] [⟨0, 2, 1, true⟩, ⟨1, 0, 0, false⟩, ⟨2, 0, 0, false⟩, ⟨3, 0, 0, false⟩] (ih0 _ (by omega) _ ⟨x2_3, Ax2_3, cx2_3, wrap64 (x2_4 + 1), x2_1_0, x2_1_4, H, rfl⟩)))))))))
  ·
   obtain rfl := bF c4
   refine gf rfl rfl (gx rfl (gs (rg (sv (EV.mv rfl) rfl (sv (EV.as rfl) rfl (re (pr [2] [] [0] rfl rfl rfl rfl ?_)))))))
   cases H
   exact rt Try.func30 rfl (.tmp rfl .nil) rfl [] [⟨0, 2, 1, true⟩] rfl rfl rfl rfl rfl ⟨_, _, rfl, rfl, rfl⟩
 ·
  refine ts 11 rfl (dF c2) (sk rfl (sk rfl (sv (EV.pf rfl rfl rfl) rfl (re (pr [1, 3, 4, 14] [0] [0, 1, 2, 3] rfl rfl rfl rfl (gf rfl rfl (gx rfl (gs (rg (sv (EV.mv rfl) rfl (sv (EV.as rfl) rfl (re ?_))))))))))))
  cases H
  exact rt Try.func30 rfl (.tmp rfl .nil) rfl [] [⟨0, 2, 1, true⟩] rfl rfl rfl rfl rfl ⟨_, _, rfl, rfl, rfl⟩
end Go.Proofs.Ytajjeemkdjfilaa.K
namespace Go.Proofs.Ytajjeemkdjfilaa.K
open Go Go.RowKit
set_option linter.unusedVariables false
set_option linter.unusedSimpArgs false
def spec_RowCost.f (a0_0 : Int) (a0_1 : Int) (a0_2 : Int) : Option (Int) := (spec_IsValidRow.f a0_0 a0_1 a0_2).bind fun t1 => (if t1 = true then (some (wrap64 (1 + a0_2))) else (some 0))
set_option maxHeartbeats 4000000 in
set_option maxRecDepth 100000 in
theorem spec_RowCost.ok (a0_0 : Int) (a0_1 : Int) (a0_2 : Int) (r0 : Int) (H : spec_RowCost.f a0_0 a0_1 a0_2 = some r0) : Fn Try.prog 86 [.agg #[.int .i64 a0_0, .int .i64 a0_1, .int .i64 a0_2]] [] [] (fun v bx en => v = .int .i64 r0 ∧ bx = [] ∧ en = []) := by
 refine fn_ 9 Try.func86 rfl rfl rfl (fun base T w0 => ?_)
 rw [spec_RowCost.f] at H
 refine gs (rg (so rfl (op_box (cs := [.int .i64 a0_0, .int .i64 a0_1, .int .i64 a0_2]) rfl rfl rfl fun b1 => (sv (EV.as rfl) rfl (re (gs (gs (rg (sv (EV.ld (v := .agg #[.int .i64 a0_0, .int .i64 a0_1, .int .i64 a0_2]) 0 (some 3) rfl rfl rfl) rfl ?_)))))))))
 revert H; refine bdI ?_; rintro t1 A1 H
 refine so rfl (op_call (spec_IsValidRow.ok a0_0 a0_1 a0_2 _ A1) [] 1 rfl rfl rfl rfl rfl ?_)
 rintro _ _ _ ⟨rfl, rfl, rfl⟩
 refine sv (EV.nt rfl) rfl (re ?_)
 revert H; refine ifsI ?_ ?_ <;> intro c2 H
 ·
  subst c2
  refine gf rfl rfl (gk (gs (rg (sv (EV.fa 2 rfl) rfl (sv (EV.ld 0 none rfl rfl rfl) rfl (sv (EV.add rfl rfl) rfl (sv (EV.as rfl) rfl (re (pr [2] [] [] rfl rfl rfl rfl ?_)))))))))
  cases H
  exact rt Try.func86 rfl (.tmp rfl .nil) rfl [] [] rfl rfl rfl rfl rfl ⟨rfl, rfl, rfl⟩
 ·
  obtain rfl := bF c2
  refine gt rfl rfl (gs (rg (sv (EV.as rfl) rfl (re ?_))))
  cases H
  exact rt Try.func86 rfl (.tmp rfl .nil) rfl [] [] rfl rfl rfl rfl rfl ⟨rfl, rfl, rfl⟩
end Go.Proofs.Ytajjeemkdjfilaa.K
namespace Go.Proofs.Ytajjeemkdjfilaa.K
open Go Go.RowKit
set_option linter.unusedVariables false
set_option linter.unusedSimpArgs false
mutual
def spec_NextChunk.j0 : Nat → Int → (List S70) → Option ((List S70) × (List S70))
 | 0, _, _ => none
 | k + 1, x4_7, l0 => if 0 ≤ x4_7 then (if x4_7 ≤ (l0.length : Int) then (if (l0.take x4_7.toNat).length ≤ 5864062014805 then (if (l0.drop x4_7.toNat).length ≤ 5864062014805 then (some (l0.take x4_7.toNat, l0.drop x4_7.toNat)) else none) else none) else none) else none
def spec_NextChunk.j1 : Nat → Int → Int → Int → Int → Bool → Bool → Bool → (List S70) → Option ((List S70) × (List S70))
 | 0, _, _, _, _, _, _, _, _ => none
 | k + 1, x7_1, x7_6, x7_7, x7_13, x7_14, x7_15, x7_25, l0 => if 0 ≤ x7_7 then (if x7_7 < (l0.length : Int) then ((spec_RowCost.f ((rd_T70 l0 x7_7).f0) ((rd_T70 l0 x7_7).f1) ((rd_T70 l0 x7_7).f2)).bind fun t24 => (spec_NextChunk.l0 k x7_1 (wrap64 (x7_6 + t24)) (wrap64 (x7_7 + 1)) l0)) else none) else none
def spec_NextChunk.l0 : Nat → Int → Int → Int → (List S70) → Option ((List S70) × (List S70))
 | 0, _, _, _, _ => none
 | k + 1, x5_1, x5_6, x5_7, l0 => if x5_7 < (l0.length : Int) then (if x5_7 = 0 then (spec_NextChunk.j1 k x5_1 x5_6 x5_7 x5_7 (decide (x5_7 = 0)) true true l0) else (if 0 ≤ x5_7 then ((spec_RowCost.f ((rd_T70 l0 x5_7).f0) ((rd_T70 l0 x5_7).f1) ((rd_T70 l0 x5_7).f2)).bind fun t28 => (if (wrap64 (x5_6 + t28)) ≤ x5_1 then (spec_NextChunk.j1 k x5_1 x5_6 x5_7 x5_7 (decide (x5_7 = 0)) false (decide ((wrap64 (x5_6 + t28)) ≤ x5_1)) l0) else (spec_NextChunk.j0 k x5_7 l0))) else none)) else (spec_NextChunk.j0 k x5_7 l0)
end
def spec_NextChunk.f (k : Nat) (l0 : List S70) (a1 : Int) : Option ((List S70) × (List S70)) := spec_NextChunk.l0 k a1 0 0 l0
set_option maxHeartbeats 4000000 in
set_option maxRecDepth 100000 in
theorem spec_NextChunk.ok (k : Nat) (l0 : List S70) (Al0 : Option Addr) (cl0 : Nat) (a1 : Int) (r0 : List S70) (r1 : List S70) (H : spec_NextChunk.f k l0 a1 = some (r0, r1)) : Fn Try.prog 35 [.slice Al0 l0.length cl0, .int .i64 a1] [] [.sl 0 k70 Al0 cl0 l0 0 false] (fun v bx en => ∃ A0 c0 A1 c1, v = .tuple #[.slice A0 r0.length c0, .slice A1 r1.length c1] ∧ bx = [] ∧ en = [.sl 2 k70 A0 c0 r0 1 true, .sl 2 k70 A1 c1 r1 2 true]) := by
 refine fn_ 46 Try.func35 rfl rfl rfl (fun base T w0 => ?_)
 rw [spec_NextChunk.f] at H
 refine gs (rg (sv (EV.as rfl) rfl (sv (EV.as rfl) rfl (re (gs (rg (sv (EV.as rfl) rfl (re (gs (rg (sv (EV.as rfl) rfl (re ?_))))))))))))
 refine jo (fun S => ∃ (m : Nat) (x4_7 : Int), spec_NextChunk.j0 m x4_7 l0 = some (r0, r1) ∧ S = ⟨[(0, .slice Al0 l0.length cl0), (7, .int .i64 x4_7)], [], [.sl 0 k70 Al0 cl0 l0 0 false]⟩) (fun S hS => ?_) (fun jh0 => ?_)
 ·
  clear H
  obtain ⟨m1, x4_7, H, rfl⟩ := hS
  rcases m1 with _ | m1
  · rw [spec_NextChunk.j0] at H; cases H
  rw [spec_NextChunk.j0] at H
  refine gs ?_
  revert H; refine ggI ?_; intro g2 H
  revert H; refine ggI ?_; intro g3 H
  refine dr [] [0] [11] 12 rfl rfl rfl rfl (xv 1 [] [0] rfl (EV.mv rfl) rfl rfl rfl rfl (xv 2 [] [0] rfl (EV.mv rfl) rfl rfl rfl rfl (cutp (l' := l0.take x4_7.toNat) 0 x4_7 0 rfl (Int.le_refl 0) g2 g3 rfl 0 dq (.inr rfl) rfl (xv 3 [] [0] rfl (EV.ct 0 x4_7 0 rfl rfl rfl rfl (Int.le_refl 0) g2 g3 rfl rfl ctnh) rfl rfl rfl rfl (xv 6 [] [0] rfl (EV.mv rfl) rfl rfl rfl rfl (xv 7 [] [0] rfl (EV.mv rfl) rfl rfl rfl rfl (cutp (l' := l0.drop x4_7.toNat) x4_7 (l0.length : Int) 0 rfl g2 g3 (Int.le_refl _) rfl 0 dq (.inl dq) ctl (xv 8 [] [0] rfl (EV.ct x4_7 (l0.length : Int) 0 rfl rfl rfl rfl g2 g3 (Int.le_refl _) rfl rfl ctnl) rfl rfl rfl rfl ?_))))))))
  refine one2 0 5 rfl rfl rfl rfl ?_ ?_
  ·
   refine op_lit (s := 3) (by_ := 24) k70 ([] : List S70) [] [] 1 [] rfl rfl rfl rfl rfl rfl rfl rfl rfl rfl rfl rfl rfl dq rfl fun A36_4 c36_4 => (xs [] [0] rfl rfl rfl ?_)
   refine one2 4 5 rfl rfl rfl rfl ?_ ?_
   ·
    revert H; refine ggI ?_; intro g5 H
    refine op_app (k := k70) (s := 3) (by_ := 24) 3 1 rfl rfl rfl rfl (ap0 g5 dq) (ap0n g5 dq) (.inl rfl) true (fun _ => .inl rfl) rfl rfl fun A40_6 c40_6 => (nmE (en := [.sl 0 k70 Al0 cl0 l0 0 false, .sl 0 k70 (cutA Al0 cl0 (0 : Int).toNat 3) (cl0 - (0 : Int).toNat) (l0.take x4_7.toNat) 0 false, .sl 0 k70 (cutA Al0 cl0 x4_7.toNat 3) (cl0 - x4_7.toNat) (l0.drop x4_7.toNat) 0 false, .sl 2 k70 A40_6 c40_6 (l0.take x4_7.toNat) 1 true]) (by kernel_rfl) (xs [] [0] rfl rfl rfl (one1 5 rfl rfl (op_lit (s := 3) (by_ := 24) k70 ([] : List S70) [] [] 2 [] rfl rfl rfl rfl rfl rfl rfl rfl rfl rfl rfl rfl rfl dq rfl fun A41_7 c41_7 => (xs [] [0] rfl rfl rfl (one1 9 rfl rfl ?_))))))
    revert H; refine ggI ?_; intro g8 H
    refine op_app (k := k70) (s := 3) (by_ := 24) 4 2 rfl rfl rfl rfl (ap0 g8 dq) (ap0n g8 dq) (.inl rfl) true (fun _ => .inl rfl) rfl rfl fun A45_9 c45_9 => (nmE (en := [.sl 0 k70 Al0 cl0 l0 0 false, .sl 0 k70 (cutA Al0 cl0 (0 : Int).toNat 3) (cl0 - (0 : Int).toNat) (l0.take x4_7.toNat) 0 false, .sl 0 k70 (cutA Al0 cl0 x4_7.toNat 3) (cl0 - x4_7.toNat) (l0.drop x4_7.toNat) 0 false, .sl 2 k70 A40_6 c40_6 (l0.take x4_7.toNat) 1 true, .sl 2 k70 A45_9 c45_9 (l0.drop x4_7.toNat) 2 true]) (by kernel_rfl) (xs [] [0] rfl rfl rfl (one1 10 rfl rfl (ov (EV.as rfl) rfl (xs [] [0] rfl rfl rfl (one1 11 rfl rfl (ov (EV.as rfl) rfl (xn rfl (xd (pr [4, 5] [] [3, 4] rfl rfl rfl rfl ?_))))))))))
    cases H
    exact rt Try.func35 rfl (.tmp rfl (.tmp rfl .nil)) rfl [] [⟨0, 2, 1, true⟩, ⟨1, 2, 2, true⟩] rfl rfl rfl rfl rfl ⟨_, _, _, _, rfl, rfl, rfl⟩
   ·
    refine op_lit (s := 3) (by_ := 24) k70 ([] : List S70) [] [] 2 [] rfl rfl rfl rfl rfl rfl rfl rfl rfl rfl rfl rfl rfl dq rfl fun A41_10 c41_10 => (xs [] [0] rfl rfl rfl (one1 4 rfl rfl ?_))
    revert H; refine ggI ?_; intro g11 H
    refine op_app (k := k70) (s := 3) (by_ := 24) 3 1 rfl rfl rfl rfl (ap0 g11 dq) (ap0n g11 dq) (.inl rfl) true (fun _ => .inl rfl) rfl rfl fun A40_12 c40_12 => (nmE (en := [.sl 0 k70 Al0 cl0 l0 0 false, .sl 0 k70 (cutA Al0 cl0 (0 : Int).toNat 3) (cl0 - (0 : Int).toNat) (l0.take x4_7.toNat) 0 false, .sl 0 k70 (cutA Al0 cl0 x4_7.toNat 3) (cl0 - x4_7.toNat) (l0.drop x4_7.toNat) 0 false, .sl 2 k70 A41_10 c41_10 [] 2 true, .sl 2 k70 A40_12 c40_12 (l0.take x4_7.toNat) 1 true]) (by kernel_rfl) (xs [] [0] rfl rfl rfl (one1 9 rfl rfl ?_)))
    revert H; refine ggI ?_; intro g13 H
    refine op_app (k := k70) (s := 3) (by_ := 24) 3 2 rfl rfl rfl rfl (ap0 g13 dq) (ap0n g13 dq) (.inl rfl) true (fun _ => .inl rfl) rfl rfl fun A45_14 c45_14 => (nmE (en := [.sl 0 k70 Al0 cl0 l0 0 false, .sl 0 k70 (cutA Al0 cl0 (0 : Int).toNat 3) (cl0 - (0 : Int).toNat) (l0.take x4_7.toNat) 0 false, .sl 0 k70 (cutA Al0 cl0 x4_7.toNat 3) (cl0 - x4_7.toNat) (l0.drop x4_7.toNat) 0 false, .sl 2 k70 A40_12 c40_12 (l0.take x4_7.toNat) 1 true, .sl 2 k70 A45_14 c45_14 (l0.drop x4_7.toNat) 2 true]) (by kernel_rfl) (xs [] [0] rfl rfl rfl (one1 10 rfl rfl (ov (EV.as rfl) rfl (xs [] [0] rfl rfl rfl (one1 11 rfl rfl (ov (EV.as rfl) rfl (xn rfl (xd (pr [4, 5] [] [3, 4] rfl rfl rfl rfl ?_))))))))))
    cases H
    exact rt Try.func35 rfl (.tmp rfl (.tmp rfl .nil)) rfl [] [⟨0, 2, 1, true⟩, ⟨1, 2, 2, true⟩] rfl rfl rfl rfl rfl ⟨_, _, _, _, rfl, rfl, rfl⟩
  ·
   refine op_lit (s := 3) (by_ := 24) k70 ([] : List S70) [] [] 1 [] rfl rfl rfl rfl rfl rfl rfl rfl rfl rfl rfl rfl rfl dq rfl fun A41_15 c41_15 => (xs [] [0] rfl rfl rfl (one1 0 rfl rfl (op_lit (s := 3) (by_ := 24) k70 ([] : List S70) [] [] 2 [] rfl rfl rfl rfl rfl rfl rfl rfl rfl rfl rfl rfl rfl dq rfl fun A36_16 c36_16 => (xs [] [0] rfl rfl rfl (one1 4 rfl rfl ?_)))))
   revert H; refine ggI ?_; intro g17 H
   refine op_app (k := k70) (s := 3) (by_ := 24) 4 1 rfl rfl rfl rfl (ap0 g17 dq) (ap0n g17 dq) (.inl rfl) true (fun _ => .inl rfl) rfl rfl fun A40_18 c40_18 => (nmE (en := [.sl 0 k70 Al0 cl0 l0 0 false, .sl 0 k70 (cutA Al0 cl0 (0 : Int).toNat 3) (cl0 - (0 : Int).toNat) (l0.take x4_7.toNat) 0 false, .sl 0 k70 (cutA Al0 cl0 x4_7.toNat 3) (cl0 - x4_7.toNat) (l0.drop x4_7.toNat) 0 false, .sl 2 k70 A41_15 c41_15 [] 1 true, .sl 2 k70 A40_18 c40_18 (l0.take x4_7.toNat) 2 true]) (by kernel_rfl) (xs [] [0] rfl rfl rfl (one1 9 rfl rfl ?_)))
   revert H; refine ggI ?_; intro g19 H
   refine op_app (k := k70) (s := 3) (by_ := 24) 3 2 rfl rfl rfl rfl (ap0 g19 dq) (ap0n g19 dq) (.inl rfl) true (fun _ => .inl rfl) rfl rfl fun A45_20 c45_20 => (nmE (en := [.sl 0 k70 Al0 cl0 l0 0 false, .sl 0 k70 (cutA Al0 cl0 (0 : Int).toNat 3) (cl0 - (0 : Int).toNat) (l0.take x4_7.toNat) 0 false, .sl 0 k70 (cutA Al0 cl0 x4_7.toNat 3) (cl0 - x4_7.toNat) (l0.drop x4_7.toNat) 0 false, .sl 2 k70 A40_18 c40_18 (l0.take x4_7.toNat) 2 true, .sl 2 k70 A45_20 c45_20 (l0.drop x4_7.toNat) 1 true]) (by kernel_rfl) (xs [] [0] rfl rfl rfl (one1 10 rfl rfl (ov (EV.as rfl) rfl (xs [] [0] rfl rfl rfl (one1 11 rfl rfl (ov (EV.as rfl) rfl (xn rfl (xd (pr [4, 5] [] [3, 4] rfl rfl rfl rfl ?_))))))))))
   cases H
   exact rt Try.func35 rfl (.tmp rfl (.tmp rfl .nil)) rfl [] [⟨0, 2, 1, true⟩, ⟨1, 2, 2, true⟩] rfl rfl rfl rfl rfl ⟨_, _, _, _, rfl, rfl, rfl⟩
 ·
  refine gb ?_
  refine lo (fun kk S => ∃ (x5_1 : Int) (x5_6 : Int) (x5_7 : Int), spec_NextChunk.l0 kk x5_1 x5_6 x5_7 l0 = some (r0, r1) ∧ S = ⟨[(0, .slice Al0 l0.length cl0), (1, .int .i64 x5_1), (6, .int .i64 x5_6), (7, .int .i64 x5_7)], [], [.sl 0 k70 Al0 cl0 l0 0 false]⟩) (fun S hS => ?_) (fun n0 ih0 S hS => ?_) ⟨a1, 0, 0, H, rfl⟩ (fun h => wk [0, 1, 6, 7] [] [⟨0, 0, 0, false⟩] h)
  · clear H; obtain ⟨_, _, _, H, _⟩ := hS; rw [spec_NextChunk.l0] at H; cases H
  clear H
  obtain ⟨x5_1, x5_6, x5_7, H, rfl⟩ := hS
  rw [spec_NextChunk.l0] at H
  refine jo (fun S => ∃ (m : Nat) (x7_1 : Int) (x7_6 : Int) (x7_7 : Int) (x7_13 : Int) (x7_14 : Bool) (x7_15 : Bool) (x7_25 : Bool), m ≤ n0 ∧ spec_NextChunk.j1 m x7_1 x7_6 x7_7 x7_13 x7_14 x7_15 x7_25 l0 = some (r0, r1) ∧ S = ⟨[(0, .slice Al0 l0.length cl0), (1, .int .i64 x7_1), (6, .int .i64 x7_6), (7, .int .i64 x7_7), (13, .int .i64 x7_13), (14, .bool x7_14), (15, .bool x7_15), (25, .bool x7_25)], [], [.sl 0 k70 Al0 cl0 l0 0 false]⟩) (fun S hS => ?_) (fun jh1 => ?_)
  ·
   clear H
   obtain ⟨m21, x7_1, x7_6, x7_7, x7_13, x7_14, x7_15, x7_25, lm21, H, rfl⟩ := hS
   rcases m21 with _ | m21
   · rw [spec_NextChunk.j1] at H; cases H
   rw [spec_NextChunk.j1] at H
   refine gb (gs (rg (sv (EV.mv rfl) rfl (sv (EV.mv rfl) rfl (sv (EV.mv rfl) rfl ?_)))))
   revert H; refine ggI ?_; intro g22 H
   revert H; refine ggI ?_; intro g23 H
   refine sv (EV.ix 0 rfl rfl rfl g22 g23 rfl) rfl (sv (EV.le (v := .agg #[.int .i64 ((rd_T70 l0 x7_7).f0), .int .i64 ((rd_T70 l0 x7_7).f1), .int .i64 ((rd_T70 l0 x7_7).f2)]) x7_7 0 (some 3) 0 z70 rfl rfl rfl g22 g23 rfl rfl rfl) rfl ?_)
   revert H; refine bdI ?_; rintro t24 A24 H
   refine so rfl (op_call (spec_RowCost.ok ((rd_T70 l0 x7_7).f0) ((rd_T70 l0 x7_7).f1) ((rd_T70 l0 x7_7).f2) _ A24) [] 1 rfl rfl rfl rfl rfl ?_)
   rintro _ _ _ ⟨rfl, rfl, rfl⟩
   exact sv (EV.add rfl rfl) rfl (sv (EV.as rfl) rfl (re (pr [0, 1, 6, 7, 13, 14, 15, 25] [] [0] rfl rfl rfl rfl (rg (sv (EV.mv rfl) rfl (sv (EV.add rfl rfl) rfl (sv (EV.as rfl) rfl (re (ge (wk [0, 1, 6, 7] [] [⟨0, 0, 0, false⟩] (ih0 _ (by omega) _ ⟨x7_1, wrap64 (x7_6 + t24), wrap64 (x7_7 + 1), H, rfl⟩)))))))))))
  ·
   refine gs (rg (sv (EV.mv rfl) rfl (sv (EV.mv rfl) rfl (sv (EV.ln rfl) rfl (sv (EV.lss rfl rfl) rfl (sv (EV.mv rfl) rfl ?_))))))
   revert H; refine ifsI ?_ ?_ <;> intro c25 H
   ·
    refine ts 12 rfl (dT c25) (sv (EV.mv rfl) rfl (sv (EV.eql rfl rfl) rfl (sv (EV.mv rfl) rfl ?_)))
    revert H; refine ifsI ?_ ?_ <;> intro c26 H
    ·
     exact ts 15 rfl (dT c26) (sk rfl (sk rfl (sk rfl (sk rfl (sk rfl (sk rfl (sk rfl (sk rfl (sk rfl (sv (EV.pt rfl rfl rfl) rfl (sv (EV.pt rfl rfl rfl) rfl (re (pr [0, 1, 6, 7, 13, 14, 15, 25, 26] [] [0] rfl rfl rfl rfl (gt rfl rfl (gk (wk [0, 1, 6, 7, 13, 14, 15, 25] [] [⟨0, 0, 0, false⟩] (jh1 _ ⟨_, x5_1, x5_6, x5_7, x5_7, decide (x5_7 = 0), true, true, by omega, H, rfl⟩)))))))))))))))))
    ·
     refine ts 15 rfl (dF c26) (sv (EV.mv rfl) rfl (sv (EV.mv rfl) rfl (sv (EV.mv rfl) rfl ?_)))
     revert H; refine ggI ?_; intro g27 H
     refine sv (EV.ix 0 rfl rfl rfl g27 c25 rfl) rfl (sv (EV.le (v := .agg #[.int .i64 ((rd_T70 l0 x5_7).f0), .int .i64 ((rd_T70 l0 x5_7).f1), .int .i64 ((rd_T70 l0 x5_7).f2)]) x5_7 0 (some 3) 0 z70 rfl rfl rfl g27 c25 rfl rfl rfl) rfl ?_)
     revert H; refine bdI ?_; rintro t28 A28 H
     refine so rfl (op_call (spec_RowCost.ok ((rd_T70 l0 x5_7).f0) ((rd_T70 l0 x5_7).f1) ((rd_T70 l0 x5_7).f2) _ A28) [] 1 rfl rfl rfl rfl rfl ?_)
     rintro _ _ _ ⟨rfl, rfl, rfl⟩
     refine sv (EV.add rfl rfl) rfl (sv (EV.mv rfl) rfl (sv (EV.leq rfl rfl) rfl (sv (EV.pf rfl rfl rfl) rfl (sv (EV.pt rfl rfl rfl) rfl (re ?_)))))
     revert H; refine ifsI ?_ ?_ <;> intro c29 H
     ·
      exact gt rfl (dT c29) (gk (wk [0, 1, 6, 7, 13, 14, 15, 25] [] [⟨0, 0, 0, false⟩] (jh1 _ ⟨_, x5_1, x5_6, x5_7, x5_7, decide (x5_7 = 0), false, decide ((wrap64 (x5_6 + t28)) ≤ x5_1), by omega, H, rfl⟩)))
     ·
      exact gf rfl (dF c29) (gx rfl (wk [0, 7] [] [⟨0, 0, 0, false⟩] (jh0 _ ⟨_, x5_7, H, rfl⟩)))
   ·
    exact ts 12 rfl (dF c25) (sk rfl (sk rfl (sk rfl (sk rfl (sk rfl (sk rfl (sk rfl (sk rfl (sk rfl (sk rfl (sk rfl (sk rfl (sk rfl (sv (EV.pf rfl rfl rfl) rfl (re (pr [0, 1, 6, 7, 26] [] [0] rfl rfl rfl rfl (gf rfl rfl (gx rfl (wk [0, 7] [] [⟨0, 0, 0, false⟩] (jh0 _ ⟨_, x5_7, H, rfl⟩))))))))))))))))))))
end Go.Proofs.Ytajjeemkdjfilaa.K
namespace Go.Proofs.Ytajjeemkdjfilaa.K
open Go Go.RowKit
set_option linter.unusedVariables false
set_option linter.unusedSimpArgs false
def spec_TotalCost.l0 : Nat → Int → Int → (List S70) → Option (Int)
 | 0, _, _, _ => none
 | k + 1, x2_3, x2_4, l0 => if x2_4 < (l0.length : Int) then (if 0 ≤ x2_4 then ((spec_RowCost.f ((rd_T70 l0 x2_4).f0) ((rd_T70 l0 x2_4).f1) ((rd_T70 l0 x2_4).f2)).bind fun t3 => (spec_TotalCost.l0 k (wrap64 (x2_3 + t3)) (wrap64 (x2_4 + 1)) l0)) else none) else (some x2_3)
def spec_TotalCost.f (k : Nat) (l0 : List S70) : Option (Int) := spec_TotalCost.l0 k 0 0 l0
set_option maxHeartbeats 4000000 in
set_option maxRecDepth 100000 in
theorem spec_TotalCost.ok (k : Nat) (l0 : List S70) (Al0 : Option Addr) (cl0 : Nat) (r0 : Int) (H : spec_TotalCost.f k l0 = some r0) : Fn Try.prog 37 [.slice Al0 l0.length cl0] [] [.sl 0 k70 Al0 cl0 l0 0 false] (fun v bx en => v = .int .i64 r0 ∧ bx = [] ∧ en = []) := by
 refine fn_ 19 Try.func37 rfl rfl rfl (fun base T w0 => ?_)
 rw [spec_TotalCost.f] at H
 refine gs (rg (sv (EV.as rfl) rfl (re (gs (rg (sv (EV.as rfl) rfl (re (gs (gs (rg (sv (EV.as rfl) rfl (re (gb ?_)))))))))))))
 refine lo (fun kk S => ∃ (x2_3 : Int) (x2_4 : Int), spec_TotalCost.l0 kk x2_3 x2_4 l0 = some r0 ∧ S = ⟨[(0, .slice Al0 l0.length cl0), (3, .int .i64 x2_3), (4, .int .i64 x2_4)], [], [.sl 0 k70 Al0 cl0 l0 0 false]⟩) (fun S hS => ?_) (fun n0 ih0 S hS => ?_) ⟨0, 0, H, rfl⟩ (fun h => wk [0, 3, 4] [] [⟨0, 0, 0, false⟩] h)
 · clear H; obtain ⟨_, _, H, _⟩ := hS; rw [spec_TotalCost.l0] at H; cases H
 clear H
 obtain ⟨x2_3, x2_4, H, rfl⟩ := hS
 rw [spec_TotalCost.l0] at H
 refine gs (gs (rg (sv (EV.mv rfl) rfl (sv (EV.mv rfl) rfl (sv (EV.ln rfl) rfl (sv (EV.lss rfl rfl) rfl (re ?_)))))))
 revert H; refine ifsI ?_ ?_ <;> intro c1 H
 ·
  refine gt rfl (dT c1) (gk (gs (gb (rg (sv (EV.mv rfl) rfl (sv (EV.mv rfl) rfl (sv (EV.mv rfl) rfl ?_)))))))
  revert H; refine ggI ?_; intro g2 H
  refine sv (EV.ix 0 rfl rfl rfl g2 c1 rfl) rfl (sv (EV.le (v := .agg #[.int .i64 ((rd_T70 l0 x2_4).f0), .int .i64 ((rd_T70 l0 x2_4).f1), .int .i64 ((rd_T70 l0 x2_4).f2)]) x2_4 0 (some 3) 0 z70 rfl rfl rfl g2 c1 rfl rfl rfl) rfl ?_)
  revert H; refine bdI ?_; rintro t3 A3 H
  refine so rfl (op_call (spec_RowCost.ok ((rd_T70 l0 x2_4).f0) ((rd_T70 l0 x2_4).f1) ((rd_T70 l0 x2_4).f2) _ A3) [] 1 rfl rfl rfl rfl rfl ?_)
  rintro _ _ _ ⟨rfl, rfl, rfl⟩
  exact sv (EV.add rfl rfl) rfl (sv (EV.as rfl) rfl (re (pr [0, 3, 4] [] [0] rfl rfl rfl rfl (ge (rg (sv (EV.mv rfl) rfl (sv (EV.add rfl rfl) rfl (sv (EV.as rfl) rfl (re (wk [0, 3, 4] [] [⟨0, 0, 0, false⟩] (ih0 _ (by omega) _ ⟨wrap64 (x2_3 + t3), wrap64 (x2_4 + 1), H, rfl⟩)))))))))))
 ·
  refine gf rfl (dF c1) (gx rfl (gs (rg (sv (EV.mv rfl) rfl (sv (EV.as rfl) rfl (re (pr [2] [] [] rfl rfl rfl rfl ?_)))))))
  cases H
  exact rt Try.func37 rfl (.tmp rfl .nil) rfl [] [] rfl rfl rfl rfl rfl ⟨rfl, rfl, rfl⟩
end Go.Proofs.Ytajjeemkdjfilaa.K
namespace Go.Proofs.Ytajjeemkdjfilaa.K
open Go Go.RowKit
set_option linter.unusedVariables false
set_option linter.unusedSimpArgs false
def spec_HashBit.f (a0 : Int) (a1 : Int) : Option (Int) := (spec_l1In.f a1 0 3).bind fun t1 => (if t1 = true then ((spec_l1In.f a0 0 9).bind fun t3 => (if t3 = true then (if 0 ≤ a1 then (some (andI (shrI (Int.tmod (wrap64 (a0 * 7)) 16) a1) 1)) else none) else (some 0))) else (some 0))
set_option maxHeartbeats 4000000 in
set_option maxRecDepth 100000 in
theorem spec_HashBit.ok (a0 : Int) (a1 : Int) (r0 : Int) (H : spec_HashBit.f a0 a1 = some r0) : Fn Try.prog 94 [.int .i64 a0, .int .i64 a1] [] [] (fun v bx en => v = .int .i64 r0 ∧ bx = [] ∧ en = []) := by
 refine fn_ 19 Try.func94 rfl rfl rfl (fun base T w0 => ?_)
 rw [spec_HashBit.f] at H
 refine gs (rg (sv (EV.as rfl) rfl (re (gs (gs (rg (sv (EV.mv rfl) rfl ?_)))))))
 revert H; refine bdI ?_; rintro t1 A1 H
 refine so rfl (op_call (spec_l1In.ok a1 0 3 _ A1) [] 1 rfl rfl rfl rfl rfl ?_)
 rintro _ _ _ ⟨rfl, rfl, rfl⟩
 refine sv (EV.nt rfl) rfl (sv (EV.mv rfl) rfl ?_)
 revert H; refine ifsI ?_ ?_ <;> intro c2 H
 ·
  subst c2
  refine ts 8 rfl rfl (sv (EV.mv rfl) rfl ?_)
  revert H; refine bdI ?_; rintro t3 A3 H
  refine so rfl (op_call (spec_l1In.ok a0 0 9 _ A3) [] 1 rfl rfl rfl rfl rfl ?_)
  rintro _ _ _ ⟨rfl, rfl, rfl⟩
  refine sv (EV.nt rfl) rfl (sv (EV.pf rfl rfl rfl) rfl (re (pr [0, 1, 12] [] [] rfl rfl rfl rfl ?_)))
  revert H; refine ifsI ?_ ?_ <;> intro c4 H
  ·
   subst c4
   refine gf rfl rfl (gk (gs (rg (sv (EV.mv rfl) rfl (sv (EV.mul rfl rfl) rfl (sv (EV.rem rfl rfl dq) rfl (sv (EV.mv rfl) rfl ?_)))))))
   revert H; refine ggI ?_; intro g5 H
   refine sv (EV.shr rfl rfl g5) rfl (sv (EV.andI rfl rfl) rfl (sv (EV.as rfl) rfl (re (pr [4] [] [] rfl rfl rfl rfl ?_))))
   cases H
   exact rt Try.func94 rfl (.tmp rfl .nil) rfl [] [] rfl rfl rfl rfl rfl ⟨rfl, rfl, rfl⟩
  ·
   obtain rfl := bF c4
   refine gt rfl rfl (gs (rg (sv (EV.as rfl) rfl (re ?_))))
   cases H
   exact rt Try.func94 rfl (.tmp rfl .nil) rfl [] [] rfl rfl rfl rfl rfl ⟨rfl, rfl, rfl⟩
 ·
  obtain rfl := bF c2
  refine ts 8 rfl rfl (sk rfl (sk rfl (sk rfl (sv (EV.pt rfl rfl rfl) rfl (re (pr [0, 1, 12] [] [] rfl rfl rfl rfl (gt rfl rfl (gs (rg (sv (EV.as rfl) rfl (re ?_)))))))))))
  cases H
  exact rt Try.func94 rfl (.tmp rfl .nil) rfl [] [] rfl rfl rfl rfl rfl ⟨rfl, rfl, rfl⟩
end Go.Proofs.Ytajjeemkdjfilaa.K
