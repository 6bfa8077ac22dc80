/- Walks: what the functions compute. Printed by gen.py; no condition. -/
import Derived.Test.YtfcebaplphpajaaVFnExactRunJoinc
namespace Go.Proofs.Ytfcebaplphpajaa.K
open Go Go.RowKit
set_option linter.unusedVariables false
set_option linter.unusedSimpArgs false
def impl_StepJoiner.j0 : Nat → (List S99) → Int → (List S68) → Int → Int → (List S68) → Int → Int → Int → (List S77) → (List S77) → (List Bool) → Int → Option ((List S68) × Int × Int × (List S99) × Int × Bool)
 | 0, _, _, _, _, _, _, _, _, _, _, _, _, _ => none
 | k + 1, x2_11, x2_13, x2_4_0, x2_4_1, x2_4_2, x2_8_0, x2_8_1, x2_8_2, x2_12_0, x2_12_1, x2_12_2, x2_12_3, x2_12_4 => (impl_UnmatchedRows.f k x2_12_0 x2_12_1 x2_12_2 x2_12_3 x2_12_4).bind fun t42 => (if x2_11.length + t42.length ≤ 2513169434916 then (some (x2_8_0, x2_8_1, x2_8_2, x2_11 ++ t42, x2_13, true)) else none)
def impl_StepJoiner.f (k : Nat) (l0_0 : List S68) (a0_1 : Int) (a0_2 : Int) (a1 : Int) : Option ((List S68) × Int × Int × (List S99) × Int × Bool) := (impl_cloneJoiner.f k l0_0 a0_1 a0_2).bind fun bt1 => ((impl_IsValidJoiner.f k l0_0 a0_1 a0_2).bind fun t2 => (if t2 = true then (if (l0_0.length : Int) = 0 then (some (bt1.1, bt1.2.1, bt1.2.2, [], 0, false)) else ((impl_isGrant.f a1).bind fun t5 => (if t5 = true then (if 0 < (bt1.1.length : Int) then ((impl_BuildSide.f k ((rd_T68 bt1.1 0).f0) ((rd_T68 bt1.1 0).f1) ((rd_T68 bt1.1 0).f2) ((rd_T68 bt1.1 0).f3) ((rd_T68 bt1.1 0).f4) a1).bind fun t11 => (if (((rd_T68 bt1.1 0).f1).length : Int) = 0 then (if 1 ≤ (bt1.1.length : Int) then ((impl_UnmatchedRows.f k ((rd_T68 bt1.1 0).f0) ((rd_T68 bt1.1 0).f1) ((rd_T68 bt1.1 0).f2) ((rd_T68 bt1.1 0).f3) ((rd_T68 bt1.1 0).f4)).bind fun t14 => (some (bt1.1.drop (1 : Int).toNat, bt1.2.1, bt1.2.2, t14, 0, true))) else none) else (if (((rd_T68 bt1.1 0).f2).length : Int) = 0 then (if 1 ≤ (bt1.1.length : Int) then ((impl_UnmatchedRows.f k ((rd_T68 bt1.1 0).f0) ((rd_T68 bt1.1 0).f1) ((rd_T68 bt1.1 0).f2) ((rd_T68 bt1.1 0).f3) ((rd_T68 bt1.1 0).f4)).bind fun t17 => (some (bt1.1.drop (1 : Int).toNat, bt1.2.1, bt1.2.2, t17, 0, true))) else none) else (if t11 = 0 then ((impl_NeedsNestedLoop.f k ((rd_T68 bt1.1 0).f0) ((rd_T68 bt1.1 0).f1) ((rd_T68 bt1.1 0).f2) ((rd_T68 bt1.1 0).f3) ((rd_T68 bt1.1 0).f4)).bind fun t19 => (if t19 = true then ((impl_NextChunk.f k ((rd_T68 bt1.1 0).f2) a1).bind fun bt21 => ((impl_JoinChunk.f k ((rd_T68 bt1.1 0).f0) ((rd_T68 bt1.1 0).f1) ((rd_T68 bt1.1 0).f2) ((rd_T68 bt1.1 0).f3) ((rd_T68 bt1.1 0).f4) bt21.1).bind fun bt22 => ((some (bt1.1.set (0 : Int).toNat (⟨bt22.2.1, bt22.2.2.1, bt21.2, bt22.2.2.2.2.1, bt22.2.2.2.2.2⟩ : S68))).bind fun s26 => ((impl_TotalCost.f k bt21.1).bind fun t27 => (some (s26, bt1.2.1, bt1.2.2, bt22.1, t27, true)))))) else ((impl_PartitionTask.f k ((rd_T68 bt1.1 0).f0) ((rd_T68 bt1.1 0).f1) ((rd_T68 bt1.1 0).f2) ((rd_T68 bt1.1 0).f3) ((rd_T68 bt1.1 0).f4)).bind fun bt28 => (if 1 ≤ (bt1.1.length : Int) then (if ([(⟨bt28.1, bt28.2.1, bt28.2.2.1, bt28.2.2.2.1, bt28.2.2.2.2.1⟩ : S68), (⟨bt28.2.2.2.2.2.1, bt28.2.2.2.2.2.2.1, bt28.2.2.2.2.2.2.2.1, bt28.2.2.2.2.2.2.2.2.1, bt28.2.2.2.2.2.2.2.2.2.1⟩ : S68)] : List S68).length + (bt1.1.drop (1 : Int).toNat).length ≤ 1599289640401 then ((impl_TaskCost.f k ((rd_T68 bt1.1 0).f0) ((rd_T68 bt1.1 0).f1) ((rd_T68 bt1.1 0).f2) ((rd_T68 bt1.1 0).f3) ((rd_T68 bt1.1 0).f4)).bind fun t33 => (some (([(⟨bt28.1, bt28.2.1, bt28.2.2.1, bt28.2.2.2.1, bt28.2.2.2.2.1⟩ : S68), (⟨bt28.2.2.2.2.2.1, bt28.2.2.2.2.2.2.1, bt28.2.2.2.2.2.2.2.1, bt28.2.2.2.2.2.2.2.2.1, bt28.2.2.2.2.2.2.2.2.2.1⟩ : S68)] : List S68) ++ (bt1.1.drop (1 : Int).toNat), wrap64 (bt1.2.1 + t33), wrap64 (bt1.2.2 + 1), [], 8, true))) else none) else none)))) else (if 1 ≤ (bt1.1.length : Int) then ((impl_JoinChunk.f k ((rd_T68 bt1.1 0).f0) ((rd_T68 bt1.1 0).f1) ((rd_T68 bt1.1 0).f2) ((rd_T68 bt1.1 0).f3) ((rd_T68 bt1.1 0).f4) ((rd_T68 bt1.1 0).f2)).bind fun bt39 => ((impl_TotalCost.f k ((rd_T68 bt1.1 0).f2)).bind fun t40 => (if t11 = 1 then ((impl_TotalCost.f k ((rd_T68 bt1.1 0).f1)).bind fun t46 => (impl_StepJoiner.j0 k bt39.1 t46 [] 0 0 (bt1.1.drop (1 : Int).toNat) bt1.2.1 bt1.2.2 bt39.2.1 bt39.2.2.1 bt39.2.2.2.1 bt39.2.2.2.2.1 bt39.2.2.2.2.2)) else (impl_StepJoiner.j0 k bt39.1 t40 [] 0 0 (bt1.1.drop (1 : Int).toNat) bt1.2.1 bt1.2.2 bt39.2.1 bt39.2.2.1 bt39.2.2.2.1 bt39.2.2.2.2.1 bt39.2.2.2.2.2)))) else none))))) else none) else (some (bt1.1, bt1.2.1, bt1.2.2, [], 0, false))))) else (some (bt1.1, bt1.2.1, bt1.2.2, [], 0, false))))
set_option maxHeartbeats 4000000 in
set_option maxRecDepth 100000 in
theorem impl_StepJoiner.ok (k : Nat) (l0_0 : List S68) (Al0_0 : Option Addr) (cl0_0 : Nat) (a0_1 : Int) (a0_2 : Int) (a1 : Int) (r0 : List S68) (r1 : Int) (r2 : Int) (r3 : List S99) (r4 : Int) (r5 : Bool) (H : impl_StepJoiner.f k l0_0 a0_1 a0_2 a1 = some (r0, r1, r2, r3, r4, r5)) : Fn Try.prog 38 [.agg #[.slice Al0_0 l0_0.length cl0_0, .int .i64 a0_1, .int .i64 a0_2], .int .i64 a1] [] [.sl 0 k68 Al0_0 cl0_0 l0_0 0 false] (fun v bx en => ∃ A0 c0 A3 c3, v = .tuple #[.agg #[.slice A0 r0.length c0, .int .i64 r1, .int .i64 r2], .slice A3 r3.length c3, .int .i64 r4, .bool r5] ∧ bx = [] ∧ en = [.sl 1 k68 A0 c0 r0 1 true, .sl 2 k99 A3 c3 r3 2 true]) := by
 refine fn_ 142 Try.func38 rfl rfl rfl (fun base T w0 => ?_)
 rw [impl_StepJoiner.f] at H
 refine gs (rg (so rfl (op_box (cs := [.slice Al0_0 l0_0.length cl0_0, .int .i64 a0_1, .int .i64 a0_2]) rfl rfl rfl fun b2 => (so rfl (op_alloc (cs := [.slice none 0 0, .int .i64 0, .int .i64 0]) (by kernel_rfl) rfl fun b4 => (sv (EV.as rfl) rfl (sv (EV.as rfl) rfl (sv (EV.as rfl) rfl (re (gs (rg (sv (EV.ld (v := .agg #[.slice Al0_0 l0_0.length cl0_0, .int .i64 a0_1, .int .i64 a0_2]) 0 (some 3) rfl rfl rfl) rfl ?_))))))))))))
 revert H; refine bdI ?_; rintro ⟨t1_0, t1_1, t1_2⟩ A1 H
 refine so rfl (op_call (impl_cloneJoiner.ok k l0_0 Al0_0 cl0_0 a0_1 a0_2 _ _ _ A1) [⟨0, 0, 0, false⟩] 1 rfl rfl rfl rfl rfl ?_)
 rintro _ _ _ ⟨At1_0, ct1_0, rfl, rfl, rfl⟩
 refine so rfl (op_alloc (cs := [.slice none 0 0, .int .i64 0, .int .i64 0]) (by kernel_rfl) rfl fun b8 => (so rfl (op_st (cs' := [.slice At1_0 t1_0.length ct1_0, .int .i64 t1_1, .int .i64 t1_2]) 2 rfl rfl rfl rfl rfl rfl (re (pr [1, 2, 4, 8] [0, 1, 2] [0, 1] rfl rfl rfl rfl (gs (gs (rg (sv (EV.ld (v := .agg #[.slice Al0_0 l0_0.length cl0_0, .int .i64 a0_1, .int .i64 a0_2]) 0 (some 3) rfl rfl rfl) rfl ?_)))))))))
 revert H; refine bdI ?_; rintro t2 A2 H
 refine so rfl (op_call (impl_IsValidJoiner.ok k l0_0 Al0_0 cl0_0 a0_1 a0_2 _ A2) [⟨0, 0, 0, false⟩] 3 rfl rfl rfl rfl rfl ?_)
 rintro _ _ _ ⟨rfl, rfl, rfl⟩
 refine sv (EV.nt rfl) rfl (sv (EV.mv rfl) rfl ?_)
 revert H; refine ifsI ?_ ?_ <;> intro c3 H
 ·
  subst c3
  refine ts 26 rfl rfl (sv (EV.fa 0 rfl) rfl (sv (EV.ld 0 none rfl rfl rfl) rfl (sv (EV.ln rfl) rfl (sv (EV.eql rfl rfl) rfl (sv (EV.pf rfl rfl rfl) rfl (sv (EV.mv rfl) rfl ?_))))))
  revert H; refine ifsI ?_ ?_ <;> intro c4 H
  ·
   refine ts 32 rfl (dT c4) (sk rfl (sk rfl (sk rfl (sv (EV.pt rfl rfl rfl) rfl (re (pr [1, 4, 8, 36] [1, 2] [1] rfl rfl rfl rfl (gt rfl rfl (gs (rg (sv (EV.ld (v := .agg #[.slice At1_0 t1_0.length ct1_0, .int .i64 t1_1, .int .i64 t1_2]) 1 (some 3) rfl rfl rfl) rfl (so rfl (op_st (cs' := [.slice At1_0 t1_0.length ct1_0, .int .i64 t1_1, .int .i64 t1_2]) 0 rfl rfl rfl rfl rfl rfl (sv (EV.as rfl) rfl (sv (EV.as rfl) rfl (sv (EV.as rfl) rfl (re (nil_ k99 3 dq ?_)))))))))))))))))
   cases H
   exact rt Try.func38 rfl (.cell 0 (some 3) rfl rfl rfl (.tmp rfl (.tmp rfl (.tmp rfl .nil)))) rfl [] [⟨0, 1, 1, true⟩, ⟨1, 2, 2, true⟩] rfl rfl rfl rfl rfl ⟨_, _, _, _, rfl, rfl, rfl⟩
  ·
   refine ts 32 rfl (dF c4) (sv (EV.mv rfl) rfl ?_)
   revert H; refine bdI ?_; rintro t5 A5 H
   refine so rfl (op_call (impl_isGrant.ok a1 _ A5) [] 3 rfl rfl rfl rfl rfl ?_)
   rintro _ _ _ ⟨rfl, rfl, rfl⟩
   refine sv (EV.nt rfl) rfl (sv (EV.pf rfl rfl rfl) rfl (re (pr [1, 4, 8, 36] [1, 2] [1] rfl rfl rfl rfl ?_)))
   revert H; refine ifsI ?_ ?_ <;> intro c6 H
   ·
    subst c6
    refine gf rfl rfl (gk (gs (rg (sv (EV.fa 0 rfl) rfl (sv (EV.ld 1 none rfl rfl rfl) rfl ?_)))))
    revert H; refine ggI ?_; intro g7 H
    refine sv (EV.ix 0 rfl rfl rfl dq g7 rfl) rfl (opn (i := 0) 0 z68 rfl dq g7 fun A_8 c_8 A_9 c_9 A_10 c_10 => (sv (EV.lc (v := .agg #[.int .i64 ((rd_T68 t1_0 0).f0), .slice A_8 ((rd_T68 t1_0 0).f1).length c_8, .slice A_9 ((rd_T68 t1_0 0).f2).length c_9, .slice A_10 ((rd_T68 t1_0 0).f3).length c_10, .int .i64 ((rd_T68 t1_0 0).f4)]) 0 (some 5) 1 rfl rfl rfl rfl) rfl (so rfl (op_alloc (cs := [.int .i64 0, .slice none 0 0, .slice none 0 0, .slice none 0 0, .int .i64 0]) (by kernel_rfl) rfl fun b9 => (so rfl (op_st (cs' := [.int .i64 ((rd_T68 t1_0 0).f0), .slice A_8 ((rd_T68 t1_0 0).f1).length c_8, .slice A_9 ((rd_T68 t1_0 0).f2).length c_9, .slice A_10 ((rd_T68 t1_0 0).f3).length c_10, .int .i64 ((rd_T68 t1_0 0).f4)]) 2 rfl rfl rfl rfl rfl rfl (re (gs (rg (sv (EV.ld (v := .agg #[.int .i64 ((rd_T68 t1_0 0).f0), .slice A_8 ((rd_T68 t1_0 0).f1).length c_8, .slice A_9 ((rd_T68 t1_0 0).f2).length c_9, .slice A_10 ((rd_T68 t1_0 0).f3).length c_10, .int .i64 ((rd_T68 t1_0 0).f4)]) 2 (some 5) rfl rfl rfl) rfl (sv (EV.mv rfl) rfl ?_)))))))))))
    revert H; refine bdI ?_; rintro t11 A11 H
    refine so rfl (op_call (impl_BuildSide.ok k ((rd_T68 t1_0 0).f0) ((rd_T68 t1_0 0).f1) A_8 c_8 ((rd_T68 t1_0 0).f2) A_9 c_9 ((rd_T68 t1_0 0).f3) A_10 c_10 ((rd_T68 t1_0 0).f4) a1 _ A11) [⟨2, 0, 0, false⟩, ⟨3, 0, 0, false⟩, ⟨4, 0, 0, false⟩] 3 rfl rfl rfl rfl rfl ?_)
    rintro _ _ _ ⟨rfl, rfl, rfl⟩
    refine sv (EV.as rfl) rfl (re (pr [1, 4, 8, 9, 10] [0, 1, 2] [0, 1, 2, 3, 4] rfl rfl rfl rfl (gs (gb (gs (rg (sv (EV.fa 1 rfl) rfl (sv (EV.ld 2 none rfl rfl rfl) rfl (sv (EV.ln rfl) rfl (sv (EV.eql rfl rfl) rfl (sv (EV.mv rfl) rfl ?_)))))))))))
    revert H; refine ifsI ?_ ?_ <;> intro c12 H
    ·
     refine ts 50 rfl (dT c12) (sk rfl (sk rfl (sk rfl (sk rfl (sv (EV.pt rfl rfl rfl) rfl (sv (EV.as rfl) rfl (re (pr [1, 4, 8, 9, 10, 45] [0, 1, 2] [0, 1, 2, 3, 4] rfl rfl rfl rfl (gt rfl rfl (gs (rg (sv (EV.fa 0 rfl) rfl (sv (EV.ld 1 none rfl rfl rfl) rfl ?_)))))))))))))
     revert H; refine ggI ?_; intro g13 H
     refine cutp (l' := t1_0.drop (1 : Int).toNat) 1 (t1_0.length : Int) 0 rfl dq g13 (Int.le_refl _) rfl 1 dq (.inl dq) ctl (sv (EV.ct 1 (t1_0.length : Int) 0 rfl rfl rfl rfl dq g13 (Int.le_refl _) rfl rfl ctnl) rfl (sv (EV.fa 0 rfl) rfl (so rfl (op_st (cs' := [.slice (cutA At1_0 ct1_0 (1 : Int).toNat 5) (t1_0.drop (1 : Int).toNat).length (ct1_0 - (1 : Int).toNat), .int .i64 t1_1, .int .i64 t1_2]) 1 rfl rfl rfl rfl rfl rfl (re (pr [4, 8, 9] [0, 1, 2] [2, 3, 4, 5] rfl rfl rfl rfl (gs (dr [1, 2] [0, 1, 2, 3] [4, 5, 6] 7 rfl rfl rfl rfl (xv 0 [1, 2] [0, 1, 2, 3] rfl (EV.ld (v := .agg #[.slice (cutA At1_0 ct1_0 (1 : Int).toNat 5) (t1_0.drop (1 : Int).toNat).length (ct1_0 - (1 : Int).toNat), .int .i64 t1_1, .int .i64 t1_2]) 0 (some 3) rfl rfl rfl) rfl rfl rfl rfl (xv 1 [1, 2] [0, 1, 2, 3] rfl (EV.ld (v := .agg #[.int .i64 ((rd_T68 t1_0 0).f0), .slice A_8 ((rd_T68 t1_0 0).f1).length c_8, .slice A_9 ((rd_T68 t1_0 0).f2).length c_9, .slice A_10 ((rd_T68 t1_0 0).f3).length c_10, .int .i64 ((rd_T68 t1_0 0).f4)]) 1 (some 5) rfl rfl rfl) rfl rfl rfl rfl (one1 2 rfl rfl ?_)))))))))))
     revert H; refine bdI ?_; rintro t14 A14 H
     refine op_call (impl_UnmatchedRows.ok k ((rd_T68 t1_0 0).f0) ((rd_T68 t1_0 0).f1) A_8 c_8 ((rd_T68 t1_0 0).f2) A_9 c_9 ((rd_T68 t1_0 0).f3) A_10 c_10 ((rd_T68 t1_0 0).f4) _ A14) [⟨0, 0, 0, false⟩, ⟨1, 0, 0, false⟩, ⟨2, 0, 0, false⟩] 3 rfl rfl rfl rfl rfl ?_
     rintro _ _ _ ⟨At14, ct14, rfl, rfl, rfl⟩
     refine xs [1, 2] [0, 1, 2, 3] rfl rfl rfl (one1 3 rfl rfl (op_st (cs' := [.slice (cutA At1_0 ct1_0 (1 : Int).toNat 5) (t1_0.drop (1 : Int).toNat).length (ct1_0 - (1 : Int).toNat), .int .i64 t1_1, .int .i64 t1_2]) 0 rfl rfl rfl rfl rfl rfl (xs [1, 2] [0, 1, 2, 3] rfl rfl rfl (one1 4 rfl rfl (ov (EV.as rfl) rfl (xn rfl (one1 5 rfl rfl (ov (EV.as rfl) rfl (xn rfl (one1 6 rfl rfl (ov (EV.as rfl) rfl (xn rfl (xd ?_)))))))))))))
     cases H
     exact rt Try.func38 rfl (.cell 0 (some 3) rfl rfl rfl (.tmp rfl (.tmp rfl (.tmp rfl .nil)))) rfl [] [⟨3, 1, 1, true⟩, ⟨4, 2, 2, true⟩] rfl rfl rfl rfl rfl ⟨_, _, _, _, rfl, rfl, rfl⟩
    ·
     refine ts 50 rfl (dF c12) (sv (EV.fa 2 rfl) rfl (sv (EV.ld 2 none rfl rfl rfl) rfl (sv (EV.ln rfl) rfl (sv (EV.eql rfl rfl) rfl (sv (EV.pf rfl rfl rfl) rfl (sv (EV.as rfl) rfl (re (pr [1, 4, 8, 9, 10, 45] [0, 1, 2] [0, 1, 2, 3, 4] rfl rfl rfl rfl ?_))))))))
     revert H; refine ifsI ?_ ?_ <;> intro c15 H
     ·
      refine gt rfl (dT c15) (gs (rg (sv (EV.fa 0 rfl) rfl (sv (EV.ld 1 none rfl rfl rfl) rfl ?_))))
      revert H; refine ggI ?_; intro g16 H
      refine cutp (l' := t1_0.drop (1 : Int).toNat) 1 (t1_0.length : Int) 0 rfl dq g16 (Int.le_refl _) rfl 1 dq (.inl dq) ctl (sv (EV.ct 1 (t1_0.length : Int) 0 rfl rfl rfl rfl dq g16 (Int.le_refl _) rfl rfl ctnl) rfl (sv (EV.fa 0 rfl) rfl (so rfl (op_st (cs' := [.slice (cutA At1_0 ct1_0 (1 : Int).toNat 5) (t1_0.drop (1 : Int).toNat).length (ct1_0 - (1 : Int).toNat), .int .i64 t1_1, .int .i64 t1_2]) 1 rfl rfl rfl rfl rfl rfl (re (pr [4, 8, 9] [0, 1, 2] [2, 3, 4, 5] rfl rfl rfl rfl (gs (dr [1, 2] [0, 1, 2, 3] [4, 5, 6] 7 rfl rfl rfl rfl (xv 0 [1, 2] [0, 1, 2, 3] rfl (EV.ld (v := .agg #[.slice (cutA At1_0 ct1_0 (1 : Int).toNat 5) (t1_0.drop (1 : Int).toNat).length (ct1_0 - (1 : Int).toNat), .int .i64 t1_1, .int .i64 t1_2]) 0 (some 3) rfl rfl rfl) rfl rfl rfl rfl (xv 1 [1, 2] [0, 1, 2, 3] rfl (EV.ld (v := .agg #[.int .i64 ((rd_T68 t1_0 0).f0), .slice A_8 ((rd_T68 t1_0 0).f1).length c_8, .slice A_9 ((rd_T68 t1_0 0).f2).length c_9, .slice A_10 ((rd_T68 t1_0 0).f3).length c_10, .int .i64 ((rd_T68 t1_0 0).f4)]) 1 (some 5) rfl rfl rfl) rfl rfl rfl rfl (one1 2 rfl rfl ?_)))))))))))
      revert H; refine bdI ?_; rintro t17 A17 H
      refine op_call (impl_UnmatchedRows.ok k ((rd_T68 t1_0 0).f0) ((rd_T68 t1_0 0).f1) A_8 c_8 ((rd_T68 t1_0 0).f2) A_9 c_9 ((rd_T68 t1_0 0).f3) A_10 c_10 ((rd_T68 t1_0 0).f4) _ A17) [⟨0, 0, 0, false⟩, ⟨1, 0, 0, false⟩, ⟨2, 0, 0, false⟩] 3 rfl rfl rfl rfl rfl ?_
      rintro _ _ _ ⟨At17, ct17, rfl, rfl, rfl⟩
      refine xs [1, 2] [0, 1, 2, 3] rfl rfl rfl (one1 3 rfl rfl (op_st (cs' := [.slice (cutA At1_0 ct1_0 (1 : Int).toNat 5) (t1_0.drop (1 : Int).toNat).length (ct1_0 - (1 : Int).toNat), .int .i64 t1_1, .int .i64 t1_2]) 0 rfl rfl rfl rfl rfl rfl (xs [1, 2] [0, 1, 2, 3] rfl rfl rfl (one1 4 rfl rfl (ov (EV.as rfl) rfl (xn rfl (one1 5 rfl rfl (ov (EV.as rfl) rfl (xn rfl (one1 6 rfl rfl (ov (EV.as rfl) rfl (xn rfl (xd ?_)))))))))))))
      cases H
      exact rt Try.func38 rfl (.cell 0 (some 3) rfl rfl rfl (.tmp rfl (.tmp rfl (.tmp rfl .nil)))) rfl [] [⟨3, 1, 1, true⟩, ⟨4, 2, 2, true⟩] rfl rfl rfl rfl rfl ⟨_, _, _, _, rfl, rfl, rfl⟩
     ·
      refine gf rfl (dF c15) (gs (rg (sv (EV.mv rfl) rfl (sv (EV.neq rfl rfl) rfl (sv (EV.as rfl) rfl (re ?_))))))
      revert H; refine ifsI ?_ ?_ <;> intro c18 H
      ·
       refine gf rfl (nF c18) (gs (rg (sv (EV.ld (v := .agg #[.int .i64 ((rd_T68 t1_0 0).f0), .slice A_8 ((rd_T68 t1_0 0).f1).length c_8, .slice A_9 ((rd_T68 t1_0 0).f2).length c_9, .slice A_10 ((rd_T68 t1_0 0).f3).length c_10, .int .i64 ((rd_T68 t1_0 0).f4)]) 2 (some 5) rfl rfl rfl) rfl ?_)))
       revert H; refine bdI ?_; rintro t19 A19 H
       refine so rfl (op_call (impl_NeedsNestedLoop.ok k ((rd_T68 t1_0 0).f0) ((rd_T68 t1_0 0).f1) A_8 c_8 ((rd_T68 t1_0 0).f2) A_9 c_9 ((rd_T68 t1_0 0).f3) A_10 c_10 ((rd_T68 t1_0 0).f4) _ A19) [⟨2, 0, 0, false⟩, ⟨3, 0, 0, false⟩, ⟨4, 0, 0, false⟩] 3 rfl rfl rfl rfl rfl ?_)
       rintro _ _ _ ⟨rfl, rfl, rfl⟩
       refine sv (EV.as rfl) rfl (re (pr [1, 4, 8, 9, 91] [0, 1, 2] [0, 1, 2, 3, 4] rfl rfl rfl rfl ?_))
       revert H; refine ifsI ?_ ?_ <;> intro c20 H
       ·
        subst c20
        refine gt rfl rfl (gs (rg (sv (EV.fa 2 rfl) rfl (sv (EV.ld 2 none rfl rfl rfl) rfl (sv (EV.mv rfl) rfl ?_)))))
        revert H; refine bdI ?_; rintro ⟨t21_0, t21_1⟩ A21 H
        refine so rfl (op_call (impl_NextChunk.ok k ((rd_T68 t1_0 0).f2) A_9 c_9 a1 _ _ A21) [⟨3, 0, 0, false⟩] 3 rfl rfl rfl rfl rfl ?_)
        rintro _ _ _ ⟨At21_0, ct21_0, At21_1, ct21_1, rfl, rfl, rfl⟩
        refine sv (EV.mv rfl) rfl (sv (EV.ex rfl rfl) rfl (sv (EV.ex rfl rfl) rfl (sv (EV.as rfl) rfl (sv (EV.as rfl) rfl (re (pr [4, 8, 9, 14, 15] [0, 1, 2] [0, 1, 2, 3, 4, 5, 6] rfl rfl rfl rfl (gs (rg (sv (EV.ld (v := .agg #[.int .i64 ((rd_T68 t1_0 0).f0), .slice A_8 ((rd_T68 t1_0 0).f1).length c_8, .slice A_9 ((rd_T68 t1_0 0).f2).length c_9, .slice A_10 ((rd_T68 t1_0 0).f3).length c_10, .int .i64 ((rd_T68 t1_0 0).f4)]) 2 (some 5) rfl rfl rfl) rfl (sv (EV.mv rfl) rfl ?_))))))))))
        revert H; refine bdI ?_; rintro ⟨t22_0, t22_1, t22_2, t22_3, t22_4, t22_5⟩ A22 H
        refine so rfl (op_call (impl_JoinChunk.ok k ((rd_T68 t1_0 0).f0) ((rd_T68 t1_0 0).f1) A_8 c_8 ((rd_T68 t1_0 0).f2) A_9 c_9 ((rd_T68 t1_0 0).f3) A_10 c_10 ((rd_T68 t1_0 0).f4) t21_0 At21_0 ct21_0 _ _ _ _ _ _ A22) [⟨2, 0, 0, false⟩, ⟨3, 0, 0, false⟩, ⟨4, 0, 0, false⟩, ⟨5, 0, 0, false⟩] 6 rfl rfl rfl rfl rfl ?_)
        rintro _ _ _ ⟨At22_0, ct22_0, At22_2, ct22_2, At22_3, ct22_3, At22_4, ct22_4, rfl, rfl, rfl⟩
        refine sv (EV.mv rfl) rfl (sv (EV.ex rfl rfl) rfl (sv (EV.ex rfl rfl) rfl (so rfl (op_alloc (cs := [.int .i64 0, .slice none 0 0, .slice none 0 0, .slice none 0 0, .int .i64 0]) (by kernel_rfl) rfl fun b17 => (sv (EV.as rfl) rfl (so rfl (op_st (cs' := [.int .i64 t22_1, .slice At22_2 t22_2.length ct22_2, .slice At22_3 t22_3.length ct22_3, .slice At22_4 t22_4.length ct22_4, .int .i64 t22_5]) 3 rfl rfl rfl rfl rfl rfl (re (pr [4, 8, 14, 15, 16, 17] [0, 1, 3] [0, 5, 6, 7, 8, 9, 10] rfl rfl rfl rfl (gs (rg (sv (EV.mv rfl) rfl (sv (EV.fa 2 rfl) rfl (so rfl (op_st (cs' := [.int .i64 t22_1, .slice At22_2 t22_2.length ct22_2, .slice At21_1 t21_1.length ct21_1, .slice At22_4 t22_4.length ct22_4, .int .i64 t22_5]) 2 rfl rfl rfl rfl rfl rfl (re (gs (rg (sv (EV.fa 0 rfl) rfl (sv (EV.ld 1 none rfl rfl rfl) rfl (sv (EV.ld (v := .agg #[.int .i64 t22_1, .slice At22_2 t22_2.length ct22_2, .slice At21_1 t21_1.length ct21_1, .slice At22_4 t22_4.length ct22_4, .int .i64 t22_5]) 2 (some 5) rfl rfl rfl) rfl (sv (EV.ix 0 rfl rfl rfl dq g7 rfl) rfl (opn (i := 0) 0 z68 rfl dq g7 fun A_23 c_23 A_24 c_24 A_25 c_25 => (opnH (i := 0) (s := 5) (cls' := 2) [(A_23, c_23), (A_24, c_24), (A_25, c_25)] 0 7 11 z68 rfl rfl (by kernel_rfl) dq g7 dq rfl rfl (nmE (en := [.sl 2 k77 At21_0 ct21_0 t21_0 4 true, .sl 2 k77 At21_1 ct21_1 t21_1 5 true, .sl 2 k99 At22_0 ct22_0 t22_0 7 true, .sl 2 k77 At22_2 ct22_2 t22_2 8 true, .sl 2 k77 At22_3 ct22_3 t22_3 9 true, .sl 2 .bool At22_4 ct22_4 t22_4 10 true, holE k68 2 At1_0 ct1_0 t1_0 (0 : Int).toNat [.int .i64 ((rd_T68 t1_0 0).f0), .slice A_23 ((rd_T68 t1_0 0).f1).length c_23, .slice A_24 ((rd_T68 t1_0 0).f2).length c_24, .slice A_25 ((rd_T68 t1_0 0).f3).length c_25, .int .i64 ((rd_T68 t1_0 0).f4)] 11, .sl 1 k77 A_23 c_23 ((rd_T68 t1_0 0).f1) 12 true, .sl 1 k77 A_24 c_24 ((rd_T68 t1_0 0).f2) 13 true, .sl 1 .bool A_25 c_25 ((rd_T68 t1_0 0).f3) 14 true]) (by kernel_rfl) (so rfl (op_sth (cs' := [.int .i64 t22_1, .slice At22_2 t22_2.length ct22_2, .slice At21_1 t21_1.length ct21_1, .slice At22_4 t22_4.length ct22_4, .int .i64 t22_5]) 0 6 rfl rfl rfl rfl rfl (by kernel_rfl) rfl rfl (nmE (en := [.sl 2 k77 At21_0 ct21_0 t21_0 4 true, .sl 2 k77 At21_1 ct21_1 t21_1 5 true, .sl 2 k99 At22_0 ct22_0 t22_0 7 true, .sl 2 k77 At22_2 ct22_2 t22_2 8 true, .sl 2 k77 At22_3 ct22_3 t22_3 9 true, .sl 2 .bool At22_4 ct22_4 t22_4 10 true, .sl 1 k77 A_23 c_23 ((rd_T68 t1_0 0).f1) 12 true, .sl 1 k77 A_24 c_24 ((rd_T68 t1_0 0).f2) 13 true, .sl 1 .bool A_25 c_25 ((rd_T68 t1_0 0).f3) 14 true, holE k68 2 At1_0 ct1_0 t1_0 (0 : Int).toNat [.int .i64 t22_1, .slice At22_2 t22_2.length ct22_2, .slice At21_1 t21_1.length ct21_1, .slice At22_4 t22_4.length ct22_4, .int .i64 t22_5] 11]) (by kernel_rfl) ?_))))))))))))))))))))))))))))
        revert H; refine bdI ?_; intro s26 A26 H; have q26 := stl (Option.some.inj A26)
        refine hcl 9 (⟨t22_1, t22_2, t21_1, t22_4, t22_5⟩ : S68) [(At22_2, ct22_2), (At21_1, ct21_1), (At22_4, ct22_4)] [3, 1, 5] (Option.some.inj A26) rfl (by kernel_rfl) rfl (by kernel_rfl) (by kernel_rfl) (by kernel_rfl) (nmE (en := [.sl 2 k77 At21_0 ct21_0 t21_0 4 true, .sl 2 k77 At21_1 ct21_1 t21_1 11 true, .sl 2 k99 At22_0 ct22_0 t22_0 7 true, .sl 2 k77 At22_2 ct22_2 t22_2 11 true, .sl 2 k77 At22_3 ct22_3 t22_3 9 true, .sl 2 .bool At22_4 ct22_4 t22_4 11 true, .sl 1 k77 A_23 c_23 ((rd_T68 t1_0 0).f1) 12 true, .sl 1 k77 A_24 c_24 ((rd_T68 t1_0 0).f2) 13 true, .sl 1 .bool A_25 c_25 ((rd_T68 t1_0 0).f3) 14 true, .sl 2 k68 At1_0 ct1_0 s26 11 true]) (by kernel_rfl) (rlT 110 (v' := .slice At1_0 s26.length ct1_0) rfl (slq _ _ q26) (rlB 1 (cs' := [.slice At1_0 s26.length ct1_0, .int .i64 t1_1, .int .i64 t1_2]) rfl (by simp only [q26]) (re (pr [4, 8, 14, 16] [0, 1] [0, 2, 9] rfl rfl rfl rfl (gs (dr [1] [0, 1, 2] [6, 7] 8 rfl rfl rfl rfl (xv 0 [1] [0, 1, 2] rfl (EV.ld (v := .agg #[.slice At1_0 s26.length ct1_0, .int .i64 t1_1, .int .i64 t1_2]) 0 (some 3) rfl rfl rfl) rfl rfl rfl rfl (xv 1 [1] [0, 1, 2] rfl (EV.mv rfl) rfl rfl rfl rfl (xv 2 [1] [0, 1, 2] rfl (EV.mv rfl) rfl rfl rfl rfl (one1 3 rfl rfl ?_)))))))))))
        revert H; refine bdI ?_; rintro t27 A27 H
        refine op_call (impl_TotalCost.ok k t21_0 At21_0 ct21_0 _ A27) [⟨0, 0, 0, false⟩] 12 rfl rfl rfl rfl rfl ?_
        rintro _ _ _ ⟨rfl, rfl, rfl⟩
        refine xs [1] [0, 1, 2] rfl rfl rfl (one1 4 rfl rfl (op_st (cs' := [.slice At1_0 s26.length ct1_0, .int .i64 t1_1, .int .i64 t1_2]) 0 rfl rfl rfl rfl rfl rfl (xs [1] [0, 1, 2] rfl rfl rfl (one1 5 rfl rfl (ov (EV.as rfl) rfl (xs [1] [0, 1, 2] rfl rfl rfl (one1 6 rfl rfl (ov (EV.as rfl) rfl (xn rfl (one1 7 rfl rfl (ov (EV.as rfl) rfl (xn rfl (xd (pr [4, 5, 6, 7] [0] [1, 2] rfl rfl rfl rfl ?_))))))))))))))
        cases H
        exact rt Try.func38 rfl (.cell 0 (some 3) rfl rfl rfl (.tmp rfl (.tmp rfl (.tmp rfl .nil)))) rfl [] [⟨1, 1, 1, true⟩, ⟨0, 2, 2, true⟩] rfl rfl rfl rfl rfl ⟨_, _, _, _, rfl, rfl, rfl⟩
       ·
        obtain rfl := bF c20
        refine gf rfl rfl (gk (ge (gs (rg (sv (EV.ld (v := .agg #[.int .i64 ((rd_T68 t1_0 0).f0), .slice A_8 ((rd_T68 t1_0 0).f1).length c_8, .slice A_9 ((rd_T68 t1_0 0).f2).length c_9, .slice A_10 ((rd_T68 t1_0 0).f3).length c_10, .int .i64 ((rd_T68 t1_0 0).f4)]) 2 (some 5) rfl rfl rfl) rfl ?_)))))
        revert H; refine bdI ?_; rintro ⟨t28_0, t28_1, t28_2, t28_3, t28_4, t28_5, t28_6, t28_7, t28_8, t28_9, t28_10⟩ A28 H
        refine so rfl (op_call (impl_PartitionTask.ok k ((rd_T68 t1_0 0).f0) ((rd_T68 t1_0 0).f1) A_8 c_8 ((rd_T68 t1_0 0).f2) A_9 c_9 ((rd_T68 t1_0 0).f3) A_10 c_10 ((rd_T68 t1_0 0).f4) _ _ _ _ _ _ _ _ _ _ _ A28) [⟨2, 0, 0, false⟩, ⟨3, 0, 0, false⟩, ⟨4, 0, 0, false⟩] 3 rfl rfl rfl rfl rfl ?_)
        rintro _ _ _ ⟨At28_1, ct28_1, At28_2, ct28_2, At28_3, ct28_3, At28_6, ct28_6, At28_7, ct28_7, At28_8, ct28_8, rfl, rfl, rfl⟩
        refine sv (EV.mv rfl) rfl (sv (EV.ex rfl rfl) rfl (sv (EV.ex rfl rfl) rfl (sv (EV.ex rfl rfl) rfl (so rfl (op_alloc (cs := [.int .i64 0, .slice none 0 0, .slice none 0 0, .slice none 0 0, .int .i64 0]) (by kernel_rfl) rfl fun b18 => (so rfl (op_alloc (cs := [.int .i64 0, .slice none 0 0, .slice none 0 0, .slice none 0 0, .int .i64 0]) (by kernel_rfl) rfl fun b19 => (so rfl (op_st (cs' := [.int .i64 t28_0, .slice At28_1 t28_1.length ct28_1, .slice At28_2 t28_2.length ct28_2, .slice At28_3 t28_3.length ct28_3, .int .i64 t28_4]) 3 rfl rfl rfl rfl rfl rfl (so rfl (op_st (cs' := [.int .i64 t28_5, .slice At28_6 t28_6.length ct28_6, .slice At28_7 t28_7.length ct28_7, .slice At28_8 t28_8.length ct28_8, .int .i64 t28_9]) 4 rfl rfl rfl rfl rfl rfl (sv (EV.as rfl) rfl (re (pr [4, 8, 9, 18, 19] [0, 1, 2, 3, 4] [0, 1, 2, 3, 4, 5, 6, 7, 8, 9, 10] rfl rfl rfl rfl (gs ?_)))))))))))))))
        revert H; refine ggI ?_; intro g29 H
        refine dr [0, 1, 2, 3, 4] [] [7, 8] 9 rfl rfl rfl rfl (xv 0 [0, 1, 2, 3, 4] [] rfl (EV.ld (v := .agg #[.int .i64 t28_0, .slice At28_1 t28_1.length ct28_1, .slice At28_2 t28_2.length ct28_2, .slice At28_3 t28_3.length ct28_3, .int .i64 t28_4]) 3 (some 5) rfl rfl rfl) rfl rfl rfl rfl (xv 1 [0, 1, 2, 3, 4] [] rfl (EV.ld (v := .agg #[.int .i64 t28_5, .slice At28_6 t28_6.length ct28_6, .slice At28_7 t28_7.length ct28_7, .slice At28_8 t28_8.length ct28_8, .int .i64 t28_9]) 4 (some 5) rfl rfl rfl) rfl rfl rfl rfl (xv 3 [0, 1, 2, 3, 4] [] rfl (EV.fa 0 rfl) rfl rfl rfl rfl (xv 4 [0, 1, 2, 3, 4] [] rfl (EV.ld 1 none rfl rfl rfl) rfl rfl rfl rfl ?_))))
        refine one2 2 5 rfl rfl rfl rfl ?_ ?_
        ·
         refine op_lit (s := 5) (by_ := 88) k68 ([(⟨t28_0, t28_1, t28_2, t28_3, t28_4⟩ : S68), (⟨t28_5, t28_6, t28_7, t28_8, t28_9⟩ : S68)] : List S68) [[(At28_1, ct28_1), (At28_2, ct28_2), (At28_3, ct28_3)], [(At28_6, ct28_6), (At28_7, ct28_7), (At28_8, ct28_8)]] [5, 6, 7, 8, 9, 10] 10 [.tmp 123, .tmp 124] rfl rfl rfl rfl rfl rfl rfl rfl rfl rfl rfl rfl rfl dq rfl fun A125_30 c125_30 => (nmE (en := [.sl 2 k68 At1_0 ct1_0 t1_0 2 true, celE At1_0 ((0 : Int).toNat * 5) [.int .i64 ((rd_T68 t1_0 0).f0), .slice A_8 ((rd_T68 t1_0 0).f1).length c_8, .slice A_9 ((rd_T68 t1_0 0).f2).length c_9, .slice A_10 ((rd_T68 t1_0 0).f3).length c_10, .int .i64 ((rd_T68 t1_0 0).f4)] 2, .sl 1 k77 A_8 c_8 ((rd_T68 t1_0 0).f1) 2 true, .sl 1 k77 A_9 c_9 ((rd_T68 t1_0 0).f2) 2 true, .sl 1 .bool A_10 c_10 ((rd_T68 t1_0 0).f3) 2 true, .sl 2 k77 At28_1 ct28_1 t28_1 10 true, .sl 2 k77 At28_2 ct28_2 t28_2 10 true, .sl 2 .bool At28_3 ct28_3 t28_3 10 true, .sl 2 k77 At28_6 ct28_6 t28_6 10 true, .sl 2 k77 At28_7 ct28_7 t28_7 10 true, .sl 2 .bool At28_8 ct28_8 t28_8 10 true, .sl 2 k68 A125_30 c125_30 ([(⟨t28_0, t28_1, t28_2, t28_3, t28_4⟩ : S68), (⟨t28_5, t28_6, t28_7, t28_8, t28_9⟩ : S68)] : List S68) 10 true]) (by kernel_rfl) (xs [0, 1, 2, 3, 4] [] rfl rfl rfl (one1 5 rfl rfl (cutp (l' := t1_0.drop (1 : Int).toNat) 1 (t1_0.length : Int) 0 rfl dq g29 (Int.le_refl _) rfl 1 dq (.inl dq) ctl (ov (EV.ct 1 (t1_0.length : Int) 0 rfl rfl rfl rfl dq g29 (Int.le_refl _) rfl rfl ctnl) rfl (xs [0, 1, 2, 3, 4] [] rfl rfl rfl (one1 6 rfl rfl ?_)))))))
         revert H; refine ggI ?_; intro g31 H
         refine op_app (k := k68) (s := 5) (by_ := 88) 11 12 rfl rfl rfl rfl (ap2 g31 dq) (ap2n g31 dq) (.inr ⟨dq, dq, rfl, dq⟩) true (fun _ => .inr ⟨rfl, rfl, dq⟩) rfl rfl fun A129_32 c129_32 => (nmE (en := [.sl 2 k68 At1_0 ct1_0 t1_0 10 true, celE At1_0 ((0 : Int).toNat * 5) [.int .i64 ((rd_T68 t1_0 0).f0), .slice A_8 ((rd_T68 t1_0 0).f1).length c_8, .slice A_9 ((rd_T68 t1_0 0).f2).length c_9, .slice A_10 ((rd_T68 t1_0 0).f3).length c_10, .int .i64 ((rd_T68 t1_0 0).f4)] 10, .sl 1 k77 A_8 c_8 ((rd_T68 t1_0 0).f1) 10 true, .sl 1 k77 A_9 c_9 ((rd_T68 t1_0 0).f2) 10 true, .sl 1 .bool A_10 c_10 ((rd_T68 t1_0 0).f3) 10 true, .sl 1 k68 (cutA At1_0 ct1_0 (1 : Int).toNat 5) (ct1_0 - (1 : Int).toNat) (t1_0.drop (1 : Int).toNat) 10 true, .sl 2 k68 A129_32 c129_32 (([(⟨t28_0, t28_1, t28_2, t28_3, t28_4⟩ : S68), (⟨t28_5, t28_6, t28_7, t28_8, t28_9⟩ : S68)] : List S68) ++ (t1_0.drop (1 : Int).toNat)) 10 true]) (by kernel_rfl) (xs [0, 1, 2, 3, 4] [] rfl rfl rfl (one1 7 rfl rfl (ov (EV.fa 0 rfl) rfl (xn rfl (one1 8 rfl rfl (op_st (cs' := [.slice A129_32 (([(⟨t28_0, t28_1, t28_2, t28_3, t28_4⟩ : S68), (⟨t28_5, t28_6, t28_7, t28_8, t28_9⟩ : S68)] : List S68) ++ (t1_0.drop (1 : Int).toNat)).length c129_32, .int .i64 t1_1, .int .i64 t1_2]) 1 rfl rfl rfl rfl rfl rfl (xn rfl (xd (pr [4, 8, 9] [0, 1, 2] [2, 3, 4, 6] rfl rfl rfl rfl (gs (dr [0, 1, 2] [0, 1, 2, 3] [6] 7 rfl rfl rfl rfl (xv 0 [0, 1, 2] [0, 1, 2, 3] rfl (EV.fa 1 rfl) rfl rfl rfl rfl (xv 1 [0, 1, 2] [0, 1, 2, 3] rfl (EV.ld 1 none rfl rfl rfl) rfl rfl rfl rfl (xv 2 [0, 1, 2] [0, 1, 2, 3] rfl (EV.ld (v := .agg #[.int .i64 ((rd_T68 t1_0 0).f0), .slice A_8 ((rd_T68 t1_0 0).f1).length c_8, .slice A_9 ((rd_T68 t1_0 0).f2).length c_9, .slice A_10 ((rd_T68 t1_0 0).f3).length c_10, .int .i64 ((rd_T68 t1_0 0).f4)]) 2 (some 5) rfl rfl rfl) rfl rfl rfl rfl (one1 3 rfl rfl ?_))))))))))))))))
         revert H; refine bdI ?_; rintro t33 A33 H
         refine op_call (impl_TaskCost.ok k ((rd_T68 t1_0 0).f0) ((rd_T68 t1_0 0).f1) A_8 c_8 ((rd_T68 t1_0 0).f2) A_9 c_9 ((rd_T68 t1_0 0).f3) A_10 c_10 ((rd_T68 t1_0 0).f4) _ A33) [⟨0, 0, 0, false⟩, ⟨1, 0, 0, false⟩, ⟨2, 0, 0, false⟩] 11 rfl rfl rfl rfl rfl ?_
         rintro _ _ _ ⟨rfl, rfl, rfl⟩
         refine xs [0, 1, 2] [0, 1, 2, 3] rfl rfl rfl (xv 4 [0, 1, 2] [0, 1, 2, 3] rfl (EV.add rfl rfl) rfl rfl rfl rfl (xv 5 [0, 1, 2] [0, 1, 2, 3] rfl (EV.fa 1 rfl) rfl rfl rfl rfl (one1 6 rfl rfl (op_st (cs' := [.slice A129_32 (([(⟨t28_0, t28_1, t28_2, t28_3, t28_4⟩ : S68), (⟨t28_5, t28_6, t28_7, t28_8, t28_9⟩ : S68)] : List S68) ++ (t1_0.drop (1 : Int).toNat)).length c129_32, .int .i64 (wrap64 (t1_1 + t33)), .int .i64 t1_2]) 1 rfl rfl rfl rfl rfl rfl (xn rfl (xd (pr [4, 8] [0, 1] [3] rfl rfl rfl rfl (gs (rg (sv (EV.fa 2 rfl) rfl (sv (EV.ld 1 none rfl rfl rfl) rfl (sv (EV.add rfl rfl) rfl (sv (EV.fa 2 rfl) rfl (so rfl (op_st (cs' := [.slice A129_32 (([(⟨t28_0, t28_1, t28_2, t28_3, t28_4⟩ : S68), (⟨t28_5, t28_6, t28_7, t28_8, t28_9⟩ : S68)] : List S68) ++ (t1_0.drop (1 : Int).toNat)).length c129_32, .int .i64 (wrap64 (t1_1 + t33)), .int .i64 (wrap64 (t1_2 + 1))]) 1 rfl rfl rfl rfl rfl rfl (re (gs (rg (sv (EV.ld (v := .agg #[.slice A129_32 (([(⟨t28_0, t28_1, t28_2, t28_3, t28_4⟩ : S68), (⟨t28_5, t28_6, t28_7, t28_8, t28_9⟩ : S68)] : List S68) ++ (t1_0.drop (1 : Int).toNat)).length c129_32, .int .i64 (wrap64 (t1_1 + t33)), .int .i64 (wrap64 (t1_2 + 1))]) 1 (some 3) rfl rfl rfl) rfl (so rfl (op_st (cs' := [.slice A129_32 (([(⟨t28_0, t28_1, t28_2, t28_3, t28_4⟩ : S68), (⟨t28_5, t28_6, t28_7, t28_8, t28_9⟩ : S68)] : List S68) ++ (t1_0.drop (1 : Int).toNat)).length c129_32, .int .i64 (wrap64 (t1_1 + t33)), .int .i64 (wrap64 (t1_2 + 1))]) 0 rfl rfl rfl rfl rfl rfl (sv (EV.as rfl) rfl (sv (EV.as rfl) rfl (sv (EV.as rfl) rfl (re (pr [4, 5, 6, 7] [0] [0] rfl rfl rfl rfl (nil_ k99 11 dq ?_)))))))))))))))))))))))))))
         cases H
         exact rt Try.func38 rfl (.cell 0 (some 3) rfl rfl rfl (.tmp rfl (.tmp rfl (.tmp rfl .nil)))) rfl [] [⟨0, 1, 1, true⟩, ⟨1, 2, 2, true⟩] rfl rfl rfl rfl rfl ⟨_, _, _, _, rfl, rfl, rfl⟩
        ·
         refine cutp (l' := t1_0.drop (1 : Int).toNat) 1 (t1_0.length : Int) 0 rfl dq g29 (Int.le_refl _) rfl 1 dq (.inl dq) ctl (ov (EV.ct 1 (t1_0.length : Int) 0 rfl rfl rfl rfl dq g29 (Int.le_refl _) rfl rfl ctnl) rfl (xs [0, 1, 2, 3, 4] [] rfl rfl rfl (one1 2 rfl rfl (op_lit (s := 5) (by_ := 88) k68 ([(⟨t28_0, t28_1, t28_2, t28_3, t28_4⟩ : S68), (⟨t28_5, t28_6, t28_7, t28_8, t28_9⟩ : S68)] : List S68) [[(At28_1, ct28_1), (At28_2, ct28_2), (At28_3, ct28_3)], [(At28_6, ct28_6), (At28_7, ct28_7), (At28_8, ct28_8)]] [5, 6, 7, 8, 9, 10] 10 [.tmp 123, .tmp 124] rfl rfl rfl rfl rfl rfl rfl rfl rfl rfl rfl rfl rfl dq rfl fun A125_34 c125_34 => (nmE (en := [.sl 2 k68 At1_0 ct1_0 t1_0 2 true, celE At1_0 ((0 : Int).toNat * 5) [.int .i64 ((rd_T68 t1_0 0).f0), .slice A_8 ((rd_T68 t1_0 0).f1).length c_8, .slice A_9 ((rd_T68 t1_0 0).f2).length c_9, .slice A_10 ((rd_T68 t1_0 0).f3).length c_10, .int .i64 ((rd_T68 t1_0 0).f4)] 2, .sl 1 k77 A_8 c_8 ((rd_T68 t1_0 0).f1) 2 true, .sl 1 k77 A_9 c_9 ((rd_T68 t1_0 0).f2) 2 true, .sl 1 .bool A_10 c_10 ((rd_T68 t1_0 0).f3) 2 true, .sl 2 k77 At28_1 ct28_1 t28_1 10 true, .sl 2 k77 At28_2 ct28_2 t28_2 10 true, .sl 2 .bool At28_3 ct28_3 t28_3 10 true, .sl 2 k77 At28_6 ct28_6 t28_6 10 true, .sl 2 k77 At28_7 ct28_7 t28_7 10 true, .sl 2 .bool At28_8 ct28_8 t28_8 10 true, .sl 1 k68 (cutA At1_0 ct1_0 (1 : Int).toNat 5) (ct1_0 - (1 : Int).toNat) (t1_0.drop (1 : Int).toNat) 2 true, .sl 2 k68 A125_34 c125_34 ([(⟨t28_0, t28_1, t28_2, t28_3, t28_4⟩ : S68), (⟨t28_5, t28_6, t28_7, t28_8, t28_9⟩ : S68)] : List S68) 10 true]) (by kernel_rfl) (xs [0, 1, 2, 3, 4] [] rfl rfl rfl (one1 6 rfl rfl ?_)))))))
         revert H; refine ggI ?_; intro g35 H
         refine op_app (k := k68) (s := 5) (by_ := 88) 12 11 rfl rfl rfl rfl (ap2 g35 dq) (ap2n g35 dq) (.inr ⟨dq, dq, rfl, dq⟩) true (fun _ => .inr ⟨rfl, rfl, dq⟩) rfl rfl fun A129_36 c129_36 => (nmE (en := [.sl 2 k68 At1_0 ct1_0 t1_0 10 true, celE At1_0 ((0 : Int).toNat * 5) [.int .i64 ((rd_T68 t1_0 0).f0), .slice A_8 ((rd_T68 t1_0 0).f1).length c_8, .slice A_9 ((rd_T68 t1_0 0).f2).length c_9, .slice A_10 ((rd_T68 t1_0 0).f3).length c_10, .int .i64 ((rd_T68 t1_0 0).f4)] 10, .sl 1 k77 A_8 c_8 ((rd_T68 t1_0 0).f1) 10 true, .sl 1 k77 A_9 c_9 ((rd_T68 t1_0 0).f2) 10 true, .sl 1 .bool A_10 c_10 ((rd_T68 t1_0 0).f3) 10 true, .sl 1 k68 (cutA At1_0 ct1_0 (1 : Int).toNat 5) (ct1_0 - (1 : Int).toNat) (t1_0.drop (1 : Int).toNat) 10 true, .sl 2 k68 A129_36 c129_36 (([(⟨t28_0, t28_1, t28_2, t28_3, t28_4⟩ : S68), (⟨t28_5, t28_6, t28_7, t28_8, t28_9⟩ : S68)] : List S68) ++ (t1_0.drop (1 : Int).toNat)) 10 true]) (by kernel_rfl) (xs [0, 1, 2, 3, 4] [] rfl rfl rfl (one1 7 rfl rfl (ov (EV.fa 0 rfl) rfl (xn rfl (one1 8 rfl rfl (op_st (cs' := [.slice A129_36 (([(⟨t28_0, t28_1, t28_2, t28_3, t28_4⟩ : S68), (⟨t28_5, t28_6, t28_7, t28_8, t28_9⟩ : S68)] : List S68) ++ (t1_0.drop (1 : Int).toNat)).length c129_36, .int .i64 t1_1, .int .i64 t1_2]) 1 rfl rfl rfl rfl rfl rfl (xn rfl (xd (pr [4, 8, 9] [0, 1, 2] [2, 3, 4, 6] rfl rfl rfl rfl (gs (dr [0, 1, 2] [0, 1, 2, 3] [6] 7 rfl rfl rfl rfl (xv 0 [0, 1, 2] [0, 1, 2, 3] rfl (EV.fa 1 rfl) rfl rfl rfl rfl (xv 1 [0, 1, 2] [0, 1, 2, 3] rfl (EV.ld 1 none rfl rfl rfl) rfl rfl rfl rfl (xv 2 [0, 1, 2] [0, 1, 2, 3] rfl (EV.ld (v := .agg #[.int .i64 ((rd_T68 t1_0 0).f0), .slice A_8 ((rd_T68 t1_0 0).f1).length c_8, .slice A_9 ((rd_T68 t1_0 0).f2).length c_9, .slice A_10 ((rd_T68 t1_0 0).f3).length c_10, .int .i64 ((rd_T68 t1_0 0).f4)]) 2 (some 5) rfl rfl rfl) rfl rfl rfl rfl (one1 3 rfl rfl ?_))))))))))))))))
         revert H; refine bdI ?_; rintro t37 A37 H
         refine op_call (impl_TaskCost.ok k ((rd_T68 t1_0 0).f0) ((rd_T68 t1_0 0).f1) A_8 c_8 ((rd_T68 t1_0 0).f2) A_9 c_9 ((rd_T68 t1_0 0).f3) A_10 c_10 ((rd_T68 t1_0 0).f4) _ A37) [⟨0, 0, 0, false⟩, ⟨1, 0, 0, false⟩, ⟨2, 0, 0, false⟩] 11 rfl rfl rfl rfl rfl ?_
         rintro _ _ _ ⟨rfl, rfl, rfl⟩
         refine xs [0, 1, 2] [0, 1, 2, 3] rfl rfl rfl (xv 4 [0, 1, 2] [0, 1, 2, 3] rfl (EV.add rfl rfl) rfl rfl rfl rfl (xv 5 [0, 1, 2] [0, 1, 2, 3] rfl (EV.fa 1 rfl) rfl rfl rfl rfl (one1 6 rfl rfl (op_st (cs' := [.slice A129_36 (([(⟨t28_0, t28_1, t28_2, t28_3, t28_4⟩ : S68), (⟨t28_5, t28_6, t28_7, t28_8, t28_9⟩ : S68)] : List S68) ++ (t1_0.drop (1 : Int).toNat)).length c129_36, .int .i64 (wrap64 (t1_1 + t37)), .int .i64 t1_2]) 1 rfl rfl rfl rfl rfl rfl (xn rfl (xd (pr [4, 8] [0, 1] [3] rfl rfl rfl rfl (gs (rg (sv (EV.fa 2 rfl) rfl (sv (EV.ld 1 none rfl rfl rfl) rfl (sv (EV.add rfl rfl) rfl (sv (EV.fa 2 rfl) rfl (so rfl (op_st (cs' := [.slice A129_36 (([(⟨t28_0, t28_1, t28_2, t28_3, t28_4⟩ : S68), (⟨t28_5, t28_6, t28_7, t28_8, t28_9⟩ : S68)] : List S68) ++ (t1_0.drop (1 : Int).toNat)).length c129_36, .int .i64 (wrap64 (t1_1 + t37)), .int .i64 (wrap64 (t1_2 + 1))]) 1 rfl rfl rfl rfl rfl rfl (re (gs (rg (sv (EV.ld (v := .agg #[.slice A129_36 (([(⟨t28_0, t28_1, t28_2, t28_3, t28_4⟩ : S68), (⟨t28_5, t28_6, t28_7, t28_8, t28_9⟩ : S68)] : List S68) ++ (t1_0.drop (1 : Int).toNat)).length c129_36, .int .i64 (wrap64 (t1_1 + t37)), .int .i64 (wrap64 (t1_2 + 1))]) 1 (some 3) rfl rfl rfl) rfl (so rfl (op_st (cs' := [.slice A129_36 (([(⟨t28_0, t28_1, t28_2, t28_3, t28_4⟩ : S68), (⟨t28_5, t28_6, t28_7, t28_8, t28_9⟩ : S68)] : List S68) ++ (t1_0.drop (1 : Int).toNat)).length c129_36, .int .i64 (wrap64 (t1_1 + t37)), .int .i64 (wrap64 (t1_2 + 1))]) 0 rfl rfl rfl rfl rfl rfl (sv (EV.as rfl) rfl (sv (EV.as rfl) rfl (sv (EV.as rfl) rfl (re (pr [4, 5, 6, 7] [0] [0] rfl rfl rfl rfl (nil_ k99 11 dq ?_)))))))))))))))))))))))))))
         cases H
         exact rt Try.func38 rfl (.cell 0 (some 3) rfl rfl rfl (.tmp rfl (.tmp rfl (.tmp rfl .nil)))) rfl [] [⟨0, 1, 1, true⟩, ⟨1, 2, 2, true⟩] rfl rfl rfl rfl rfl ⟨_, _, _, _, rfl, rfl, rfl⟩
      ·
       refine gt rfl (nT c18) (gs (rg (sv (EV.fa 0 rfl) rfl (sv (EV.ld 1 none rfl rfl rfl) rfl ?_))))
       revert H; refine ggI ?_; intro g38 H
       refine cutp (l' := t1_0.drop (1 : Int).toNat) 1 (t1_0.length : Int) 0 rfl dq g38 (Int.le_refl _) rfl 1 dq (.inl dq) ctl (sv (EV.ct 1 (t1_0.length : Int) 0 rfl rfl rfl rfl dq g38 (Int.le_refl _) rfl rfl ctnl) rfl (sv (EV.fa 0 rfl) rfl (so rfl (op_st (cs' := [.slice (cutA At1_0 ct1_0 (1 : Int).toNat 5) (t1_0.drop (1 : Int).toNat).length (ct1_0 - (1 : Int).toNat), .int .i64 t1_1, .int .i64 t1_2]) 1 rfl rfl rfl rfl rfl rfl (re (pr [4, 8, 9, 10] [0, 1, 2] [2, 3, 4, 5] rfl rfl rfl rfl (gs (rg (sv (EV.ld (v := .agg #[.int .i64 ((rd_T68 t1_0 0).f0), .slice A_8 ((rd_T68 t1_0 0).f1).length c_8, .slice A_9 ((rd_T68 t1_0 0).f2).length c_9, .slice A_10 ((rd_T68 t1_0 0).f3).length c_10, .int .i64 ((rd_T68 t1_0 0).f4)]) 2 (some 5) rfl rfl rfl) rfl (sv (EV.fa 2 rfl) rfl (sv (EV.ld 2 none rfl rfl rfl) rfl ?_)))))))))))
       revert H; refine bdI ?_; rintro ⟨t39_0, t39_1, t39_2, t39_3, t39_4, t39_5⟩ A39 H
       refine so rfl (op_call (impl_JoinChunk.ok k ((rd_T68 t1_0 0).f0) ((rd_T68 t1_0 0).f1) A_8 c_8 ((rd_T68 t1_0 0).f2) A_9 c_9 ((rd_T68 t1_0 0).f3) A_10 c_10 ((rd_T68 t1_0 0).f4) ((rd_T68 t1_0 0).f2) A_9 c_9 _ _ _ _ _ _ A39) [⟨0, 0, 0, false⟩, ⟨1, 0, 0, false⟩, ⟨2, 0, 0, false⟩, ⟨1, 0, 0, false⟩] 3 rfl rfl rfl rfl rfl ?_)
       rintro _ _ _ ⟨At39_0, ct39_0, At39_2, ct39_2, At39_3, ct39_3, At39_4, ct39_4, rfl, rfl, rfl⟩
       refine sv (EV.mv rfl) rfl (sv (EV.ex rfl rfl) rfl (sv (EV.ex rfl rfl) rfl (so rfl (op_alloc (cs := [.int .i64 0, .slice none 0 0, .slice none 0 0, .slice none 0 0, .int .i64 0]) (by kernel_rfl) rfl fun b12 => (sv (EV.as rfl) rfl (so rfl (op_st (cs' := [.int .i64 t39_1, .slice At39_2 t39_2.length ct39_2, .slice At39_3 t39_3.length ct39_3, .slice At39_4 t39_4.length ct39_4, .int .i64 t39_5]) 3 rfl rfl rfl rfl rfl rfl (re (pr [4, 8, 9, 10, 11, 12] [0, 1, 2, 3] [0, 1, 2, 3, 4, 5, 6, 7] rfl rfl rfl rfl (gs (rg (sv (EV.fa 2 rfl) rfl (sv (EV.ld 2 none rfl rfl rfl) rfl ?_)))))))))))))
       revert H; refine bdI ?_; rintro t40 A40 H
       refine so rfl (op_call (impl_TotalCost.ok k ((rd_T68 t1_0 0).f2) A_9 c_9 _ A40) [⟨1, 0, 0, false⟩] 8 rfl rfl rfl rfl rfl ?_)
       rintro _ _ _ ⟨rfl, rfl, rfl⟩
       refine sv (EV.as rfl) rfl (re ?_)
       refine jo (fun S => ∃ (m : Nat) (x2_11 : List S99) (Ax2_11 : Option Addr) (cx2_11 : Nat) (x2_13 : Int) (x2_4_0 : List S68) (Ax2_4_0 : Option Addr) (cx2_4_0 : Nat) (x2_4_1 : Int) (x2_4_2 : Int) (x2_8_0 : List S68) (Ax2_8_0 : Option Addr) (cx2_8_0 : Nat) (x2_8_1 : Int) (x2_8_2 : Int) (x2_12_0 : Int) (x2_12_1 : List S77) (Ax2_12_1 : Option Addr) (cx2_12_1 : Nat) (x2_12_2 : List S77) (Ax2_12_2 : Option Addr) (cx2_12_2 : Nat) (x2_12_3 : List Bool) (Ax2_12_3 : Option Addr) (cx2_12_3 : Nat) (x2_12_4 : Int), impl_StepJoiner.j0 m x2_11 x2_13 x2_4_0 x2_4_1 x2_4_2 x2_8_0 x2_8_1 x2_8_2 x2_12_0 x2_12_1 x2_12_2 x2_12_3 x2_12_4 = some (r0, r1, r2, r3, r4, r5) ∧ S = ⟨[(4, .pointer (some ⟨b4, 0, none⟩)), (8, .pointer (some ⟨b8, 0, none⟩)), (11, .slice Ax2_11 x2_11.length cx2_11), (12, .pointer (some ⟨b12, 0, none⟩)), (13, .int .i64 x2_13)], [⟨b4, 29, [.slice Ax2_4_0 x2_4_0.length cx2_4_0, .int .i64 x2_4_1, .int .i64 x2_4_2]⟩, ⟨b8, 29, [.slice Ax2_8_0 x2_8_0.length cx2_8_0, .int .i64 x2_8_1, .int .i64 x2_8_2]⟩, ⟨b12, 68, [.int .i64 x2_12_0, .slice Ax2_12_1 x2_12_1.length cx2_12_1, .slice Ax2_12_2 x2_12_2.length cx2_12_2, .slice Ax2_12_3 x2_12_3.length cx2_12_3, .int .i64 x2_12_4]⟩], [.sl 2 k99 Ax2_11 cx2_11 x2_11 1 true, .sl 2 k68 Ax2_4_0 cx2_4_0 x2_4_0 2 true, .sl 1 k68 Ax2_8_0 cx2_8_0 x2_8_0 3 true, .sl 2 k77 Ax2_12_1 cx2_12_1 x2_12_1 4 true, .sl 2 k77 Ax2_12_2 cx2_12_2 x2_12_2 5 true, .sl 2 .bool Ax2_12_3 cx2_12_3 x2_12_3 6 true]⟩) (fun S hS => ?_) (fun jh0 => ?_)
       ·
        clear H
        obtain ⟨m41, x2_11, Ax2_11, cx2_11, x2_13, x2_4_0, Ax2_4_0, cx2_4_0, x2_4_1, x2_4_2, x2_8_0, Ax2_8_0, cx2_8_0, x2_8_1, x2_8_2, x2_12_0, x2_12_1, Ax2_12_1, cx2_12_1, x2_12_2, Ax2_12_2, cx2_12_2, x2_12_3, Ax2_12_3, cx2_12_3, x2_12_4, H, rfl⟩ := hS
        rcases m41 with _ | m41
        · rw [impl_StepJoiner.j0] at H; cases H
        rw [impl_StepJoiner.j0] at H
        refine gs (dr [1, 2] [1, 2, 3, 4, 5] [8, 9] 10 rfl rfl rfl rfl (xv 0 [1, 2] [1, 2, 3, 4, 5] rfl (EV.ld (v := .agg #[.slice Ax2_8_0 x2_8_0.length cx2_8_0, .int .i64 x2_8_1, .int .i64 x2_8_2]) 0 (some 3) rfl rfl rfl) rfl rfl rfl rfl (xv 1 [1, 2] [1, 2, 3, 4, 5] rfl (EV.mv rfl) rfl rfl rfl rfl (xv 2 [1, 2] [1, 2, 3, 4, 5] rfl (EV.ld (v := .agg #[.int .i64 x2_12_0, .slice Ax2_12_1 x2_12_1.length cx2_12_1, .slice Ax2_12_2 x2_12_2.length cx2_12_2, .slice Ax2_12_3 x2_12_3.length cx2_12_3, .int .i64 x2_12_4]) 1 (some 5) rfl rfl rfl) rfl rfl rfl rfl (xv 5 [1, 2] [1, 2, 3, 4, 5] rfl (EV.mv rfl) rfl rfl rfl rfl (one1 3 rfl rfl ?_))))))
        revert H; refine bdI ?_; rintro t42 A42 H
        refine op_call (impl_UnmatchedRows.ok m41 x2_12_0 x2_12_1 Ax2_12_1 cx2_12_1 x2_12_2 Ax2_12_2 cx2_12_2 x2_12_3 Ax2_12_3 cx2_12_3 x2_12_4 _ A42) [⟨3, 0, 0, false⟩, ⟨4, 0, 0, false⟩, ⟨5, 0, 0, false⟩] 7 rfl rfl rfl rfl rfl ?_
        rintro _ _ _ ⟨At42, ct42, rfl, rfl, rfl⟩
        refine xs [1, 2] [1, 2, 3, 4, 5] rfl rfl rfl (one1 4 rfl rfl ?_)
        revert H; refine ggI ?_; intro g43 H
        refine op_app (k := k99) (s := 7) (by_ := 56) 0 6 rfl rfl rfl rfl (ap2 g43 dq) (ap2n g43 dq) (.inl rfl) true (fun _ => .inl rfl) rfl rfl fun A89_44 c89_44 => (nmE (en := [.sl 2 k68 Ax2_4_0 cx2_4_0 x2_4_0 2 true, .sl 1 k68 Ax2_8_0 cx2_8_0 x2_8_0 3 true, .sl 2 k77 Ax2_12_1 cx2_12_1 x2_12_1 4 true, .sl 2 k77 Ax2_12_2 cx2_12_2 x2_12_2 5 true, .sl 2 .bool Ax2_12_3 cx2_12_3 x2_12_3 6 true, .sl 2 k99 At42 ct42 t42 8 true, .sl 2 k99 A89_44 c89_44 (x2_11 ++ t42) 1 true]) (by kernel_rfl) (xs [1, 2] [0, 1, 2, 3, 4] rfl rfl rfl (one1 6 rfl rfl (op_st (cs' := [.slice Ax2_8_0 x2_8_0.length cx2_8_0, .int .i64 x2_8_1, .int .i64 x2_8_2]) 0 rfl rfl rfl rfl rfl rfl (xs [1, 2] [0, 1, 2, 3, 4] rfl rfl rfl (one1 7 rfl rfl (ov (EV.as rfl) rfl (xs [1, 2] [0, 1, 2, 3, 4] rfl rfl rfl (one1 8 rfl rfl (ov (EV.as rfl) rfl (xn rfl (one1 9 rfl rfl (ov (EV.as rfl) rfl (xn rfl (xd (pr [4, 5, 6, 7] [0] [1, 6] rfl rfl rfl rfl ?_))))))))))))))))
        cases H
        exact rt Try.func38 rfl (.cell 0 (some 3) rfl rfl rfl (.tmp rfl (.tmp rfl (.tmp rfl .nil)))) rfl [] [⟨0, 1, 1, true⟩, ⟨1, 2, 2, true⟩] rfl rfl rfl rfl rfl ⟨_, _, _, _, rfl, rfl, rfl⟩
       ·
        refine gs (rg (sv (EV.mv rfl) rfl (sv (EV.eql rfl rfl) rfl (re ?_))))
        revert H; refine ifsI ?_ ?_ <;> intro c45 H
        ·
         refine gt rfl (dT c45) (rg (sv (EV.fa 1 rfl) rfl (sv (EV.ld 2 none rfl rfl rfl) rfl ?_)))
         revert H; refine bdI ?_; rintro t46 A46 H
         refine so rfl (op_call (impl_TotalCost.ok k ((rd_T68 t1_0 0).f1) A_8 c_8 _ A46) [⟨0, 0, 0, false⟩] 8 rfl rfl rfl rfl rfl ?_)
         rintro _ _ _ ⟨rfl, rfl, rfl⟩
         exact sv (EV.as rfl) rfl (re (pr [4, 8, 11, 12, 13] [0, 1, 3] [3, 4, 5, 6, 7] rfl rfl rfl rfl (nil_ k68 8 dq (wk [4, 8, 11, 12, 13] [0, 1, 2] [⟨1, 2, 1, true⟩, ⟨5, 2, 2, true⟩, ⟨0, 1, 3, true⟩, ⟨2, 2, 4, true⟩, ⟨3, 2, 5, true⟩, ⟨4, 2, 6, true⟩] (jh0 _ ⟨_, t39_0, At39_0, ct39_0, t46, [], none, 0, 0, 0, t1_0.drop (1 : Int).toNat, (cutA At1_0 ct1_0 (1 : Int).toNat 5), (ct1_0 - (1 : Int).toNat), t1_1, t1_2, t39_1, t39_2, At39_2, ct39_2, t39_3, At39_3, ct39_3, t39_4, At39_4, ct39_4, t39_5, H, rfl⟩)))))
        ·
         exact gf rfl (dF c45) (gk (nil_ k68 8 dq (wk [4, 8, 11, 12, 13] [0, 1, 3] [⟨4, 2, 1, true⟩, ⟨8, 2, 2, true⟩, ⟨3, 1, 3, true⟩, ⟨5, 2, 4, true⟩, ⟨6, 2, 5, true⟩, ⟨7, 2, 6, true⟩] (jh0 _ ⟨_, t39_0, At39_0, ct39_0, t40, [], none, 0, 0, 0, t1_0.drop (1 : Int).toNat, (cutA At1_0 ct1_0 (1 : Int).toNat 5), (ct1_0 - (1 : Int).toNat), t1_1, t1_2, t39_1, t39_2, At39_2, ct39_2, t39_3, At39_3, ct39_3, t39_4, At39_4, ct39_4, t39_5, H, rfl⟩))))
   ·
    obtain rfl := bF c6
    refine gt rfl rfl (gs (rg (sv (EV.ld (v := .agg #[.slice At1_0 t1_0.length ct1_0, .int .i64 t1_1, .int .i64 t1_2]) 1 (some 3) rfl rfl rfl) rfl (so rfl (op_st (cs' := [.slice At1_0 t1_0.length ct1_0, .int .i64 t1_1, .int .i64 t1_2]) 0 rfl rfl rfl rfl rfl rfl (sv (EV.as rfl) rfl (sv (EV.as rfl) rfl (sv (EV.as rfl) rfl (re (nil_ k99 3 dq ?_))))))))))
    cases H
    exact rt Try.func38 rfl (.cell 0 (some 3) rfl rfl rfl (.tmp rfl (.tmp rfl (.tmp rfl .nil)))) rfl [] [⟨0, 1, 1, true⟩, ⟨1, 2, 2, true⟩] rfl rfl rfl rfl rfl ⟨_, _, _, _, rfl, rfl, rfl⟩
 ·
  obtain rfl := bF c3
  refine ts 26 rfl rfl (sk rfl (sk rfl (sk rfl (sk rfl (sv (EV.pt rfl rfl rfl) rfl (sv (EV.mv rfl) rfl (sk rfl (sk rfl (sk rfl (sv (EV.pt rfl rfl rfl) rfl (re (pr [1, 4, 8, 36] [1, 2] [1] rfl rfl rfl rfl (gt rfl rfl (gs (rg (sv (EV.ld (v := .agg #[.slice At1_0 t1_0.length ct1_0, .int .i64 t1_1, .int .i64 t1_2]) 1 (some 3) rfl rfl rfl) rfl (so rfl (op_st (cs' := [.slice At1_0 t1_0.length ct1_0, .int .i64 t1_1, .int .i64 t1_2]) 0 rfl rfl rfl rfl rfl rfl (sv (EV.as rfl) rfl (sv (EV.as rfl) rfl (sv (EV.as rfl) rfl (re (nil_ k99 3 dq ?_)))))))))))))))))))))))
  cases H
  exact rt Try.func38 rfl (.cell 0 (some 3) rfl rfl rfl (.tmp rfl (.tmp rfl (.tmp rfl .nil)))) rfl [] [⟨0, 1, 1, true⟩, ⟨1, 2, 2, true⟩] rfl rfl rfl rfl rfl ⟨_, _, _, _, rfl, rfl, rfl⟩
end Go.Proofs.Ytfcebaplphpajaa.K
namespace Go.Proofs.Ytfcebaplphpajaa.K
open Go Go.RowKit
set_option linter.unusedVariables false
set_option linter.unusedSimpArgs false
def impl_runJoiner.l0 : Nat → (List S68) → Int → Int → (List S99) → Int → Int → Int → (List S99) → Int → Int → Int → (List Int) → Option ((List S99) × Int × Int × Int × Bool)
 | 0, _, _, _, _, _, _, _, _, _, _, _, _ => none
 | k + 1, x4_2_0, x4_2_1, x4_2_2, x4_4_0, x4_4_1, x4_4_2, x4_4_3, x4_6_0, x4_6_1, x4_6_2, x4_6_3, l1 => if (x4_2_0.length : Int) > 0 then (if (l1.length : Int) ≠ 0 then (if 0 ≤ (Int.tmod x4_6_1 (l1.length : Int)) then (if (Int.tmod x4_6_1 (l1.length : Int)) < (l1.length : Int) then ((impl_StepJoiner.f k x4_2_0 x4_2_1 x4_2_2 (rdOf 0 l1 (Int.tmod x4_6_1 (l1.length : Int)))).bind fun bt5 => (if bt5.2.2.2.2.2 = true then (if x4_6_0.length + bt5.2.2.2.1.length ≤ 2513169434916 then (impl_runJoiner.l0 k bt5.1 bt5.2.1 bt5.2.2.1 x4_4_0 x4_4_1 x4_4_2 x4_4_3 (x4_6_0 ++ bt5.2.2.2.1) (wrap64 (x4_6_1 + 1)) (mx x4_6_2 bt5.2.2.2.2.1) x4_6_3 l1) else none) else (some ([], 0, 0, 0, false)))) else none) else none) else none) else (some (x4_6_0, x4_6_1, x4_6_2, x4_2_1, true))
def impl_runJoiner.f (k : Nat) (l0_0 : List S68) (a0_1 : Int) (a0_2 : Int) (l1 : List Int) : Option ((List S99) × Int × Int × Int × Bool) := impl_runJoiner.l0 k l0_0 a0_1 a0_2 [] 0 0 0 [] 0 0 0 l1
set_option maxHeartbeats 4000000 in
set_option maxRecDepth 100000 in
theorem impl_runJoiner.ok (k : Nat) (l0_0 : List S68) (Al0_0 : Option Addr) (cl0_0 : Nat) (a0_1 : Int) (a0_2 : Int) (l1 : List Int) (Al1 : Option Addr) (cl1 : Nat) (r0 : List S99) (r1 : Int) (r2 : Int) (r3 : Int) (r4 : Bool) (H : impl_runJoiner.f k l0_0 a0_1 a0_2 l1 = some (r0, r1, r2, r3, r4)) : Fn Try.prog 60 [.agg #[.slice Al0_0 l0_0.length cl0_0, .int .i64 a0_1, .int .i64 a0_2], .slice Al1 l1.length cl1] [] [.sl 0 k68 Al0_0 cl0_0 l0_0 0 false, .sl 0 (.int .i64) Al1 cl1 l1 0 false] (fun v bx en => ∃ A0 c0, v = .tuple #[.agg #[.slice A0 r0.length c0, .int .i64 r1, .int .i64 r2, .int .i64 r3], .bool r4] ∧ bx = [] ∧ en = [.sl 2 k99 A0 c0 r0 1 true]) := by
 refine fn_ 53 Try.func60 rfl rfl rfl (fun base T w0 => ?_)
 rw [impl_runJoiner.f] at H
 refine gs (rg (so rfl (op_box (cs := [.slice Al0_0 l0_0.length cl0_0, .int .i64 a0_1, .int .i64 a0_2]) rfl rfl rfl fun b2 => (so rfl (op_alloc (cs := [.slice none 0 0, .int .i64 0, .int .i64 0, .int .i64 0]) (by kernel_rfl) rfl fun b4 => (sv (EV.as rfl) rfl (re (gs (rg (sv (EV.bd (v := .agg #[.slice none 0 0, .int .i64 0, .int .i64 0, .int .i64 0]) rfl (by kernel_rfl)) rfl (so rfl (op_alloc (cs := [.slice none 0 0, .int .i64 0, .int .i64 0, .int .i64 0]) (by kernel_rfl) rfl fun b6 => (so rfl (op_st (cs' := [.slice none 0 0, .int .i64 0, .int .i64 0, .int .i64 0]) 2 rfl rfl rfl rfl rfl rfl (re (gs (gb (nil_ k99 1 dq (nil_ k99 2 dq ?_)))))))))))))))))))
 refine lo (fun kk S => ∃ (x4_2_0 : List S68) (Ax4_2_0 : Option Addr) (cx4_2_0 : Nat) (x4_2_1 : Int) (x4_2_2 : Int) (x4_4_0 : List S99) (Ax4_4_0 : Option Addr) (cx4_4_0 : Nat) (x4_4_1 : Int) (x4_4_2 : Int) (x4_4_3 : Int) (x4_6_0 : List S99) (Ax4_6_0 : Option Addr) (cx4_6_0 : Nat) (x4_6_1 : Int) (x4_6_2 : Int) (x4_6_3 : Int), impl_runJoiner.l0 kk x4_2_0 x4_2_1 x4_2_2 x4_4_0 x4_4_1 x4_4_2 x4_4_3 x4_6_0 x4_6_1 x4_6_2 x4_6_3 l1 = some (r0, r1, r2, r3, r4) ∧ S = ⟨[(1, .slice Al1 l1.length cl1), (2, .pointer (some ⟨b2, 0, none⟩)), (4, .pointer (some ⟨b4, 0, none⟩)), (6, .pointer (some ⟨b6, 0, none⟩))], [⟨b2, 29, [.slice Ax4_2_0 x4_2_0.length cx4_2_0, .int .i64 x4_2_1, .int .i64 x4_2_2]⟩, ⟨b4, 53, [.slice Ax4_4_0 x4_4_0.length cx4_4_0, .int .i64 x4_4_1, .int .i64 x4_4_2, .int .i64 x4_4_3]⟩, ⟨b6, 53, [.slice Ax4_6_0 x4_6_0.length cx4_6_0, .int .i64 x4_6_1, .int .i64 x4_6_2, .int .i64 x4_6_3]⟩], [.sl 0 k68 Ax4_2_0 cx4_2_0 x4_2_0 0 false, .sl 2 k99 Ax4_4_0 cx4_4_0 x4_4_0 1 true, .sl 2 k99 Ax4_6_0 cx4_6_0 x4_6_0 2 true, .sl 0 (.int .i64) Al1 cl1 l1 0 false]⟩) (fun S hS => ?_) (fun n0 ih0 S hS => ?_) ⟨l0_0, Al0_0, cl0_0, a0_1, a0_2, [], none, 0, 0, 0, 0, [], none, 0, 0, 0, 0, H, rfl⟩ (fun h => wk [1, 2, 4, 6] [0, 1, 2] [⟨0, 0, 0, false⟩, ⟨2, 2, 1, true⟩, ⟨3, 2, 2, true⟩, ⟨1, 0, 0, false⟩] h)
 · clear H; obtain ⟨_, _, _, _, _, _, _, _, _, _, _, _, _, _, _, _, _, H, _⟩ := hS; rw [impl_runJoiner.l0] at H; cases H
 clear H
 obtain ⟨x4_2_0, Ax4_2_0, cx4_2_0, x4_2_1, x4_2_2, x4_4_0, Ax4_4_0, cx4_4_0, x4_4_1, x4_4_2, x4_4_3, x4_6_0, Ax4_6_0, cx4_6_0, x4_6_1, x4_6_2, x4_6_3, H, rfl⟩ := hS
 rw [impl_runJoiner.l0] at H
 refine gs (gs (rg (sv (EV.fa 0 rfl) rfl (sv (EV.ld 0 none rfl rfl rfl) rfl (sv (EV.ln rfl) rfl (sv (EV.gtr rfl rfl) rfl (re ?_)))))))
 revert H; refine ifsI ?_ ?_ <;> intro c1 H
 ·
  refine gt rfl (dT c1) (gk (gb (gs ?_)))
  revert H; refine ggI ?_; intro g2 H
  refine dr [0, 1, 2] [0, 1, 2, 3] [19] 20 rfl rfl rfl rfl (xv 0 [0, 1, 2] [0, 1, 2, 3] rfl (EV.ld (v := .agg #[.slice Ax4_2_0 x4_2_0.length cx4_2_0, .int .i64 x4_2_1, .int .i64 x4_2_2]) 0 (some 3) rfl rfl rfl) rfl rfl rfl rfl (xv 1 [0, 1, 2] [0, 1, 2, 3] rfl (EV.mv rfl) rfl rfl rfl rfl (xv 2 [0, 1, 2] [0, 1, 2, 3] rfl (EV.fa 1 rfl) rfl rfl rfl rfl (xv 3 [0, 1, 2] [0, 1, 2, 3] rfl (EV.ld 2 none rfl rfl rfl) rfl rfl rfl rfl (xv 4 [0, 1, 2] [0, 1, 2, 3] rfl (EV.mv rfl) rfl rfl rfl rfl (xv 5 [0, 1, 2] [0, 1, 2, 3] rfl (EV.ln rfl) rfl rfl rfl rfl (xv 6 [0, 1, 2] [0, 1, 2, 3] rfl (EV.rem rfl rfl g2) rfl rfl rfl rfl ?_)))))))
  revert H; refine ggI ?_; intro g3 H
  revert H; refine ggI ?_; intro g4 H
  refine xv 7 [0, 1, 2] [0, 1, 2, 3] rfl (EV.ix 3 rfl rfl rfl g3 g4 rfl) rfl rfl rfl rfl (xv 8 [0, 1, 2] [0, 1, 2, 3] rfl (EV.le (v := .int .i64 (rdOf 0 l1 (Int.tmod x4_6_1 (l1.length : Int)))) (Int.tmod x4_6_1 (l1.length : Int)) 0 none 3 0 rfl rfl rfl g3 g4 rfl rfl rfl) rfl rfl rfl rfl ?_)
  refine one2 9 15 rfl rfl rfl rfl ?_ ?_
  ·
   revert H; refine bdI ?_; rintro ⟨t5_0, t5_1, t5_2, t5_3, t5_4, t5_5⟩ A5 H
   refine op_call (impl_StepJoiner.ok n0 x4_2_0 Ax4_2_0 cx4_2_0 x4_2_1 x4_2_2 (rdOf 0 l1 (Int.tmod x4_6_1 (l1.length : Int))) _ _ _ _ _ _ A5) [⟨0, 0, 0, false⟩] 3 rfl rfl rfl rfl rfl ?_
   rintro _ _ _ ⟨At5_0, ct5_0, At5_3, ct5_3, rfl, rfl, rfl⟩
   refine xs [0, 1, 2] [0, 1, 2, 3] rfl rfl rfl (xv 10 [0, 1, 2] [0, 1, 2, 3] rfl (EV.mv rfl) rfl rfl rfl rfl (xv 11 [0, 1, 2] [0, 1, 2, 3] rfl (EV.ex rfl rfl) rfl rfl rfl rfl (xv 12 [0, 1, 2] [0, 1, 2, 3] rfl (EV.ex rfl rfl) rfl rfl rfl rfl (xv 13 [0, 1, 2] [0, 1, 2, 3] rfl (EV.ex rfl rfl) rfl rfl rfl rfl (xv 14 [0, 1, 2] [0, 1, 2, 3] rfl (EV.ex rfl rfl) rfl rfl rfl rfl (one1 15 rfl rfl (op_alloc (cs := [.slice none 0 0, .int .i64 0, .int .i64 0]) (by kernel_rfl) rfl fun b7 => (xs [0, 1, 2] [0, 1, 2, 3] rfl rfl rfl (one1 16 rfl rfl (op_st (cs' := [.slice At5_0 t5_0.length ct5_0, .int .i64 t5_1, .int .i64 t5_2]) 3 rfl rfl rfl rfl rfl rfl (xs [0, 1, 2] [0, 1, 2, 3] rfl rfl rfl (one1 17 rfl rfl (ov (EV.as rfl) rfl (xs [0, 1, 2] [0, 1, 2, 3] rfl rfl rfl (one1 18 rfl rfl (ov (EV.as rfl) rfl (xs [0, 1, 2] [0, 1, 2, 3] rfl rfl rfl (one1 19 rfl rfl (ov (EV.as rfl) rfl (xn rfl (xd (pr [1, 2, 4, 6, 7, 8, 9, 10] [0, 1, 2, 3] [0, 1, 2, 3, 4, 5] rfl rfl rfl rfl (gs (gs (rg (sv (EV.mv rfl) rfl (sv (EV.nt rfl) rfl (re ?_))))))))))))))))))))))))))))
   revert H; refine ifsI ?_ ?_ <;> intro c6 H
   ·
    subst c6
    refine gf rfl rfl (gk (gs (rg (sv (EV.ld (v := .agg #[.slice At5_0 t5_0.length ct5_0, .int .i64 t5_1, .int .i64 t5_2]) 3 (some 3) rfl rfl rfl) rfl (so rfl (op_st (cs' := [.slice At5_0 t5_0.length ct5_0, .int .i64 t5_1, .int .i64 t5_2]) 0 rfl rfl rfl rfl rfl rfl (re (gs (rg (sv (EV.fa 0 rfl) rfl (sv (EV.ld 2 none rfl rfl rfl) rfl (sv (EV.mv rfl) rfl ?_))))))))))))
    revert H; refine ggI ?_; intro g7 H
    exact so rfl (op_app (k := k99) (s := 7) (by_ := 56) 2 5 rfl rfl rfl rfl (ap2 g7 dq) (ap2n g7 dq) (.inl rfl) true (fun _ => .inl rfl) rfl rfl fun A38_8 c38_8 => (nmE (en := [.sl 0 k68 Ax4_2_0 cx4_2_0 x4_2_0 0 false, .sl 2 k99 Ax4_4_0 cx4_4_0 x4_4_0 1 true, .sl 0 (.int .i64) Al1 cl1 l1 0 false, .sl 1 k68 At5_0 ct5_0 t5_0 4 true, .sl 2 k99 At5_3 ct5_3 t5_3 5 true, .sl 2 k99 A38_8 c38_8 (x4_6_0 ++ t5_3) 2 true]) (by kernel_rfl) (sv (EV.fa 0 rfl) rfl (so rfl (op_st (cs' := [.slice A38_8 (x4_6_0 ++ t5_3).length c38_8, .int .i64 x4_6_1, .int .i64 x4_6_2, .int .i64 x4_6_3]) 2 rfl rfl rfl rfl rfl rfl (re (pr [1, 2, 4, 6, 9] [0, 1, 2] [1, 2, 3, 5] rfl rfl rfl rfl (gs (rg (sv (EV.fa 1 rfl) rfl (sv (EV.ld 2 none rfl rfl rfl) rfl (sv (EV.add rfl rfl) rfl (sv (EV.fa 1 rfl) rfl (so rfl (op_st (cs' := [.slice A38_8 (x4_6_0 ++ t5_3).length c38_8, .int .i64 (wrap64 (x4_6_1 + 1)), .int .i64 x4_6_2, .int .i64 x4_6_3]) 2 rfl rfl rfl rfl rfl rfl (re (rg (sv (EV.fa 2 rfl) rfl (sv (EV.ld 2 none rfl rfl rfl) rfl (sv (EV.mv rfl) rfl (sv (EV.mx rfl rfl) rfl (sv (EV.fa 2 rfl) rfl (so rfl (op_st (cs' := [.slice A38_8 (x4_6_0 ++ t5_3).length c38_8, .int .i64 (wrap64 (x4_6_1 + 1)), .int .i64 (mx x4_6_2 t5_4), .int .i64 x4_6_3]) 2 rfl rfl rfl rfl rfl rfl (re (pr [1, 2, 4, 6] [0, 1, 2] [0, 1, 2, 3] rfl rfl rfl rfl (ge (wk [1, 2, 4, 6] [0, 1, 2] [⟨2, 0, 0, false⟩, ⟨0, 2, 1, true⟩, ⟨3, 2, 2, true⟩, ⟨1, 0, 0, false⟩] (ih0 _ (by omega) _ ⟨t5_0, At5_0, ct5_0, t5_1, t5_2, x4_4_0, Ax4_4_0, cx4_4_0, x4_4_1, x4_4_2, x4_4_3, x4_6_0 ++ t5_3, A38_8, c38_8, wrap64 (x4_6_1 + 1), mx x4_6_2 t5_4, x4_6_3, H, rfl⟩)))))))))))))))))))))))))))))
   ·
    obtain rfl := bF c6
    refine gt rfl rfl (gs (rg (sv (EV.bd (v := .agg #[.slice none 0 0, .int .i64 0, .int .i64 0, .int .i64 0]) rfl (by kernel_rfl)) rfl (so rfl (op_st (cs' := [.slice none 0 0, .int .i64 0, .int .i64 0, .int .i64 0]) 1 rfl rfl rfl rfl rfl rfl (sv (EV.as rfl) rfl (re (pr [4, 5] [1] [] rfl rfl rfl rfl (nil_ k99 1 dq ?_)))))))))
    cases H
    exact rt Try.func60 rfl (.cell 0 (some 4) rfl rfl rfl (.tmp rfl .nil)) rfl [] [⟨0, 2, 1, true⟩] rfl rfl rfl rfl rfl ⟨_, _, rfl, rfl, rfl⟩
  ·
   refine op_alloc (cs := [.slice none 0 0, .int .i64 0, .int .i64 0]) (by kernel_rfl) rfl fun b7 => (xs [0, 1, 2] [0, 1, 2, 3] rfl rfl rfl (one1 9 rfl rfl ?_))
   revert H; refine bdI ?_; rintro ⟨t9_0, t9_1, t9_2, t9_3, t9_4, t9_5⟩ A9 H
   refine op_call (impl_StepJoiner.ok n0 x4_2_0 Ax4_2_0 cx4_2_0 x4_2_1 x4_2_2 (rdOf 0 l1 (Int.tmod x4_6_1 (l1.length : Int))) _ _ _ _ _ _ A9) [⟨0, 0, 0, false⟩] 3 rfl rfl rfl rfl rfl ?_
   rintro _ _ _ ⟨At9_0, ct9_0, At9_3, ct9_3, rfl, rfl, rfl⟩
   refine xs [0, 1, 2] [0, 1, 2, 3] rfl rfl rfl (xv 10 [0, 1, 2] [0, 1, 2, 3] rfl (EV.mv rfl) rfl rfl rfl rfl (xv 11 [0, 1, 2] [0, 1, 2, 3] rfl (EV.ex rfl rfl) rfl rfl rfl rfl (xv 12 [0, 1, 2] [0, 1, 2, 3] rfl (EV.ex rfl rfl) rfl rfl rfl rfl (xv 13 [0, 1, 2] [0, 1, 2, 3] rfl (EV.ex rfl rfl) rfl rfl rfl rfl (xv 14 [0, 1, 2] [0, 1, 2, 3] rfl (EV.ex rfl rfl) rfl rfl rfl rfl (one1 16 rfl rfl (op_st (cs' := [.slice At9_0 t9_0.length ct9_0, .int .i64 t9_1, .int .i64 t9_2]) 3 rfl rfl rfl rfl rfl rfl (xs [0, 1, 2] [0, 1, 2, 3] rfl rfl rfl (one1 17 rfl rfl (ov (EV.as rfl) rfl (xs [0, 1, 2] [0, 1, 2, 3] rfl rfl rfl (one1 18 rfl rfl (ov (EV.as rfl) rfl (xs [0, 1, 2] [0, 1, 2, 3] rfl rfl rfl (one1 19 rfl rfl (ov (EV.as rfl) rfl (xn rfl (xd (pr [1, 2, 4, 6, 7, 8, 9, 10] [0, 1, 2, 3] [0, 1, 2, 3, 4, 5] rfl rfl rfl rfl (gs (gs (rg (sv (EV.mv rfl) rfl (sv (EV.nt rfl) rfl (re ?_)))))))))))))))))))))))))
   revert H; refine ifsI ?_ ?_ <;> intro c10 H
   ·
    subst c10
    refine gf rfl rfl (gk (gs (rg (sv (EV.ld (v := .agg #[.slice At9_0 t9_0.length ct9_0, .int .i64 t9_1, .int .i64 t9_2]) 3 (some 3) rfl rfl rfl) rfl (so rfl (op_st (cs' := [.slice At9_0 t9_0.length ct9_0, .int .i64 t9_1, .int .i64 t9_2]) 0 rfl rfl rfl rfl rfl rfl (re (gs (rg (sv (EV.fa 0 rfl) rfl (sv (EV.ld 2 none rfl rfl rfl) rfl (sv (EV.mv rfl) rfl ?_))))))))))))
    revert H; refine ggI ?_; intro g11 H
    exact so rfl (op_app (k := k99) (s := 7) (by_ := 56) 2 5 rfl rfl rfl rfl (ap2 g11 dq) (ap2n g11 dq) (.inl rfl) true (fun _ => .inl rfl) rfl rfl fun A38_12 c38_12 => (nmE (en := [.sl 0 k68 Ax4_2_0 cx4_2_0 x4_2_0 0 false, .sl 2 k99 Ax4_4_0 cx4_4_0 x4_4_0 1 true, .sl 0 (.int .i64) Al1 cl1 l1 0 false, .sl 1 k68 At9_0 ct9_0 t9_0 4 true, .sl 2 k99 At9_3 ct9_3 t9_3 5 true, .sl 2 k99 A38_12 c38_12 (x4_6_0 ++ t9_3) 2 true]) (by kernel_rfl) (sv (EV.fa 0 rfl) rfl (so rfl (op_st (cs' := [.slice A38_12 (x4_6_0 ++ t9_3).length c38_12, .int .i64 x4_6_1, .int .i64 x4_6_2, .int .i64 x4_6_3]) 2 rfl rfl rfl rfl rfl rfl (re (pr [1, 2, 4, 6, 9] [0, 1, 2] [1, 2, 3, 5] rfl rfl rfl rfl (gs (rg (sv (EV.fa 1 rfl) rfl (sv (EV.ld 2 none rfl rfl rfl) rfl (sv (EV.add rfl rfl) rfl (sv (EV.fa 1 rfl) rfl (so rfl (op_st (cs' := [.slice A38_12 (x4_6_0 ++ t9_3).length c38_12, .int .i64 (wrap64 (x4_6_1 + 1)), .int .i64 x4_6_2, .int .i64 x4_6_3]) 2 rfl rfl rfl rfl rfl rfl (re (rg (sv (EV.fa 2 rfl) rfl (sv (EV.ld 2 none rfl rfl rfl) rfl (sv (EV.mv rfl) rfl (sv (EV.mx rfl rfl) rfl (sv (EV.fa 2 rfl) rfl (so rfl (op_st (cs' := [.slice A38_12 (x4_6_0 ++ t9_3).length c38_12, .int .i64 (wrap64 (x4_6_1 + 1)), .int .i64 (mx x4_6_2 t9_4), .int .i64 x4_6_3]) 2 rfl rfl rfl rfl rfl rfl (re (pr [1, 2, 4, 6] [0, 1, 2] [0, 1, 2, 3] rfl rfl rfl rfl (ge (wk [1, 2, 4, 6] [0, 1, 2] [⟨2, 0, 0, false⟩, ⟨0, 2, 1, true⟩, ⟨3, 2, 2, true⟩, ⟨1, 0, 0, false⟩] (ih0 _ (by omega) _ ⟨t9_0, At9_0, ct9_0, t9_1, t9_2, x4_4_0, Ax4_4_0, cx4_4_0, x4_4_1, x4_4_2, x4_4_3, x4_6_0 ++ t9_3, A38_12, c38_12, wrap64 (x4_6_1 + 1), mx x4_6_2 t9_4, x4_6_3, H, rfl⟩)))))))))))))))))))))))))))))
   ·
    obtain rfl := bF c10
    refine gt rfl rfl (gs (rg (sv (EV.bd (v := .agg #[.slice none 0 0, .int .i64 0, .int .i64 0, .int .i64 0]) rfl (by kernel_rfl)) rfl (so rfl (op_st (cs' := [.slice none 0 0, .int .i64 0, .int .i64 0, .int .i64 0]) 1 rfl rfl rfl rfl rfl rfl (sv (EV.as rfl) rfl (re (pr [4, 5] [1] [] rfl rfl rfl rfl (nil_ k99 1 dq ?_)))))))))
    cases H
    exact rt Try.func60 rfl (.cell 0 (some 4) rfl rfl rfl (.tmp rfl .nil)) rfl [] [⟨0, 2, 1, true⟩] rfl rfl rfl rfl rfl ⟨_, _, rfl, rfl, rfl⟩
 ·
  refine gf rfl (dF c1) (gx rfl (gs (rg (sv (EV.fa 1 rfl) rfl (sv (EV.ld 0 none rfl rfl rfl) rfl (sv (EV.fa 3 rfl) rfl (so rfl (op_st (cs' := [.slice Ax4_6_0 x4_6_0.length cx4_6_0, .int .i64 x4_6_1, .int .i64 x4_6_2, .int .i64 x4_2_1]) 2 rfl rfl rfl rfl rfl rfl (re (pr [4, 6] [1, 2] [1, 2] rfl rfl rfl rfl (gs (rg (sv (EV.ld (v := .agg #[.slice Ax4_6_0 x4_6_0.length cx4_6_0, .int .i64 x4_6_1, .int .i64 x4_6_2, .int .i64 x4_2_1]) 1 (some 4) rfl rfl rfl) rfl (so rfl (op_st (cs' := [.slice Ax4_6_0 x4_6_0.length cx4_6_0, .int .i64 x4_6_1, .int .i64 x4_6_2, .int .i64 x4_2_1]) 0 rfl rfl rfl rfl rfl rfl (sv (EV.as rfl) rfl (re ?_)))))))))))))))))
  cases H
  exact rt Try.func60 rfl (.cell 0 (some 4) rfl rfl rfl (.tmp rfl .nil)) rfl [] [⟨1, 2, 1, true⟩] rfl rfl rfl rfl rfl ⟨_, _, rfl, rfl, rfl⟩
end Go.Proofs.Ytfcebaplphpajaa.K
namespace Go.Proofs.Ytfcebaplphpajaa.K
open Go Go.RowKit
set_option linter.unusedVariables false
set_option linter.unusedSimpArgs false
def impl_RunJoin.f (k : Nat) (a0 : Int) (l1 : List S77) (l2 : List S77) (l3 : List Int) : Option ((List S99) × Int × Int × Int × Bool) := (impl_NewJoiner.f k a0 l1 l2).bind fun bt1 => (if bt1.2.2.2 = true then ((impl_areGrants.f k l3).bind fun t3 => (if t3 = true then ((impl_runJoiner.f k bt1.1 bt1.2.1 bt1.2.2.1 l3).bind fun bt5 => (some (bt5.1, bt5.2.1, bt5.2.2.1, bt5.2.2.2.1, bt5.2.2.2.2))) else (some ([], 0, 0, 0, false)))) else (some ([], 0, 0, 0, false)))
set_option maxHeartbeats 4000000 in
set_option maxRecDepth 100000 in
theorem impl_RunJoin.ok (k : Nat) (a0 : Int) (l1 : List S77) (Al1 : Option Addr) (cl1 : Nat) (l2 : List S77) (Al2 : Option Addr) (cl2 : Nat) (l3 : List Int) (Al3 : Option Addr) (cl3 : Nat) (r0 : List S99) (r1 : Int) (r2 : Int) (r3 : Int) (r4 : Bool) (H : impl_RunJoin.f k a0 l1 l2 l3 = some (r0, r1, r2, r3, r4)) : Fn Try.prog 32 [.int .i64 a0, .slice Al1 l1.length cl1, .slice Al2 l2.length cl2, .slice Al3 l3.length cl3] [] [.sl 0 k77 Al1 cl1 l1 0 false, .sl 0 k77 Al2 cl2 l2 0 false, .sl 0 (.int .i64) Al3 cl3 l3 0 false] (fun v bx en => ∃ A0 c0, v = .tuple #[.agg #[.slice A0 r0.length c0, .int .i64 r1, .int .i64 r2, .int .i64 r3], .bool r4] ∧ bx = [] ∧ en = [.sl 2 k99 A0 c0 r0 1 true]) := by
 refine fn_ 32 Try.func32 rfl rfl rfl (fun base T w0 => ?_)
 rw [impl_RunJoin.f] at H
 refine gs (rg (so rfl (op_alloc (cs := [.slice none 0 0, .int .i64 0, .int .i64 0, .int .i64 0]) (by kernel_rfl) rfl fun b8 => (sv (EV.as rfl) rfl (re (gs (rg (sv (EV.mv rfl) rfl (sv (EV.mv rfl) rfl (sv (EV.mv rfl) rfl ?_))))))))))
 revert H; refine bdI ?_; rintro ⟨t1_0, t1_1, t1_2, t1_3⟩ A1 H
 refine so rfl (op_call (impl_NewJoiner.ok k a0 l1 Al1 cl1 l2 Al2 cl2 _ _ _ _ A1) [⟨0, 0, 0, false⟩, ⟨1, 0, 0, false⟩] 1 rfl rfl rfl rfl rfl ?_)
 rintro _ _ _ ⟨At1_0, ct1_0, rfl, rfl, rfl⟩
 refine sv (EV.mv rfl) rfl (sv (EV.ex rfl rfl) rfl (sv (EV.ex rfl rfl) rfl (so rfl (op_alloc (cs := [.slice none 0 0, .int .i64 0, .int .i64 0]) (by kernel_rfl) rfl fun b10 => (so rfl (op_st (cs' := [.slice At1_0 t1_0.length ct1_0, .int .i64 t1_1, .int .i64 t1_2]) 1 rfl rfl rfl rfl rfl rfl (sv (EV.as rfl) rfl (re (pr [3, 8, 10, 11] [0, 1] [2, 3] rfl rfl rfl rfl (gs (gs (rg (sv (EV.mv rfl) rfl (sv (EV.nt rfl) rfl (sv (EV.mv rfl) rfl ?_)))))))))))))))
 revert H; refine ifsI ?_ ?_ <;> intro c2 H
 ·
  subst c2
  refine ts 21 rfl rfl (sv (EV.mv rfl) rfl ?_)
  revert H; refine bdI ?_; rintro t3 A3 H
  refine so rfl (op_call (impl_areGrants.ok k l3 Al3 cl3 _ A3) [⟨0, 0, 0, false⟩] 3 rfl rfl rfl rfl rfl ?_)
  rintro _ _ _ ⟨rfl, rfl, rfl⟩
  refine sv (EV.nt rfl) rfl (sv (EV.pf rfl rfl rfl) rfl (re (pr [3, 8, 10, 25] [0, 1] [0, 1] rfl rfl rfl rfl ?_)))
  revert H; refine ifsI ?_ ?_ <;> intro c4 H
  ·
   subst c4
   refine gf rfl rfl (gk (gs (rg (sv (EV.ld (v := .agg #[.slice At1_0 t1_0.length ct1_0, .int .i64 t1_1, .int .i64 t1_2]) 1 (some 3) rfl rfl rfl) rfl (sv (EV.mv rfl) rfl ?_)))))
   revert H; refine bdI ?_; rintro ⟨t5_0, t5_1, t5_2, t5_3, t5_4⟩ A5 H
   refine so rfl (op_call (impl_runJoiner.ok k t1_0 At1_0 ct1_0 t1_1 t1_2 l3 Al3 cl3 _ _ _ _ _ A5) [⟨1, 0, 0, false⟩, ⟨0, 0, 0, false⟩] 3 rfl rfl rfl rfl rfl ?_)
   rintro _ _ _ ⟨At5_0, ct5_0, rfl, rfl, rfl⟩
   refine sv (EV.ex rfl rfl) rfl (sv (EV.ex rfl rfl) rfl (so rfl (op_st (cs' := [.slice At5_0 t5_0.length ct5_0, .int .i64 t5_1, .int .i64 t5_2, .int .i64 t5_3]) 0 rfl rfl rfl rfl rfl rfl (sv (EV.as rfl) rfl (re (pr [8, 9] [0] [2] rfl rfl rfl rfl ?_))))))
   cases H
   exact rt Try.func32 rfl (.cell 0 (some 4) rfl rfl rfl (.tmp rfl .nil)) rfl [] [⟨0, 2, 1, true⟩] rfl rfl rfl rfl rfl ⟨_, _, rfl, rfl, rfl⟩
  ·
   obtain rfl := bF c4
   refine gt rfl rfl (gs (rg (sv (EV.bd (v := .agg #[.slice none 0 0, .int .i64 0, .int .i64 0, .int .i64 0]) rfl (by kernel_rfl)) rfl (so rfl (op_st (cs' := [.slice none 0 0, .int .i64 0, .int .i64 0, .int .i64 0]) 0 rfl rfl rfl rfl rfl rfl (sv (EV.as rfl) rfl (re (nil_ k99 3 dq ?_))))))))
   cases H
   exact rt Try.func32 rfl (.cell 0 (some 4) rfl rfl rfl (.tmp rfl .nil)) rfl [] [⟨2, 2, 1, true⟩] rfl rfl rfl rfl rfl ⟨_, _, rfl, rfl, rfl⟩
 ·
  obtain rfl := bF c2
  refine ts 21 rfl rfl (sk rfl (sk rfl (sk rfl (sv (EV.pt rfl rfl rfl) rfl (re (pr [3, 8, 10, 25] [0, 1] [0, 1] rfl rfl rfl rfl (gt rfl rfl (gs (rg (sv (EV.bd (v := .agg #[.slice none 0 0, .int .i64 0, .int .i64 0, .int .i64 0]) rfl (by kernel_rfl)) rfl (so rfl (op_st (cs' := [.slice none 0 0, .int .i64 0, .int .i64 0, .int .i64 0]) 0 rfl rfl rfl rfl rfl rfl (sv (EV.as rfl) rfl (re (nil_ k99 3 dq ?_)))))))))))))))
  cases H
  exact rt Try.func32 rfl (.cell 0 (some 4) rfl rfl rfl (.tmp rfl .nil)) rfl [] [⟨2, 2, 1, true⟩] rfl rfl rfl rfl rfl ⟨_, _, rfl, rfl, rfl⟩
end Go.Proofs.Ytfcebaplphpajaa.K
namespace Go.Proofs.Ytfcebaplphpajaa.K
open Go Go.RowKit
set_option linter.unusedVariables false
set_option linter.unusedSimpArgs false
def laws_eqPair.f (a0_0 : Int) (a0_1 : Int) (a0_2 : Int) (a0_3 : Int) (a0_4 : Int) (a0_5 : Int) (a0_6 : Bool) (a1_0 : Int) (a1_1 : Int) (a1_2 : Int) (a1_3 : Int) (a1_4 : Int) (a1_5 : Int) (a1_6 : Bool) : Option (Bool) := (laws_eqRow.f a0_0 a0_1 a0_2 a1_0 a1_1 a1_2).bind fun t1 => (if t1 = true then ((laws_eqRow.f a0_3 a0_4 a0_5 a1_3 a1_4 a1_5).bind fun t3 => (if t3 = true then (if (a0_6 == a1_6) = true then (some true) else (some false)) else (some false))) else (some false))
set_option maxHeartbeats 4000000 in
set_option maxRecDepth 100000 in
theorem laws_eqPair.ok (a0_0 : Int) (a0_1 : Int) (a0_2 : Int) (a0_3 : Int) (a0_4 : Int) (a0_5 : Int) (a0_6 : Bool) (a1_0 : Int) (a1_1 : Int) (a1_2 : Int) (a1_3 : Int) (a1_4 : Int) (a1_5 : Int) (a1_6 : Bool) (r0 : Bool) (H : laws_eqPair.f a0_0 a0_1 a0_2 a0_3 a0_4 a0_5 a0_6 a1_0 a1_1 a1_2 a1_3 a1_4 a1_5 a1_6 = some r0) : Fn Try.prog 80 [.agg #[.int .i64 a0_0, .int .i64 a0_1, .int .i64 a0_2, .int .i64 a0_3, .int .i64 a0_4, .int .i64 a0_5, .bool a0_6], .agg #[.int .i64 a1_0, .int .i64 a1_1, .int .i64 a1_2, .int .i64 a1_3, .int .i64 a1_4, .int .i64 a1_5, .bool a1_6]] [] [] (fun v bx en => v = .bool r0 ∧ bx = [] ∧ en = []) := by
 refine fn_ 22 Try.func80 rfl rfl rfl (fun base T w0 => ?_)
 rw [laws_eqPair.f] at H
 refine gs (rg (so rfl (op_box (cs := [.int .i64 a0_0, .int .i64 a0_1, .int .i64 a0_2, .int .i64 a0_3, .int .i64 a0_4, .int .i64 a0_5, .bool a0_6]) rfl rfl rfl fun b2 => (so rfl (op_box (cs := [.int .i64 a1_0, .int .i64 a1_1, .int .i64 a1_2, .int .i64 a1_3, .int .i64 a1_4, .int .i64 a1_5, .bool a1_6]) rfl rfl rfl fun b3 => (sv (EV.as rfl) rfl (re (gs (gs (rg (sv (EV.fa 0 rfl) rfl (sv (EV.ld (v := .agg #[.int .i64 a0_0, .int .i64 a0_1, .int .i64 a0_2]) 0 (some 3) rfl rfl rfl) rfl (sv (EV.fa 0 rfl) rfl (sv (EV.ld (v := .agg #[.int .i64 a1_0, .int .i64 a1_1, .int .i64 a1_2]) 1 (some 3) rfl rfl rfl) rfl ?_))))))))))))))
 revert H; refine bdI ?_; rintro t1 A1 H
 refine so rfl (op_call (laws_eqRow.ok a0_0 a0_1 a0_2 a1_0 a1_1 a1_2 _ A1) [] 1 rfl rfl rfl rfl rfl ?_)
 rintro _ _ _ ⟨rfl, rfl, rfl⟩
 refine sv (EV.nt rfl) rfl (re (pr [2, 3, 10] [0, 1] [] rfl rfl rfl rfl ?_))
 revert H; refine ifsI ?_ ?_ <;> intro c2 H
 ·
  subst c2
  refine gf rfl rfl (gk (gs (gs (rg (sv (EV.fa 3 rfl) rfl (sv (EV.ld (v := .agg #[.int .i64 a0_3, .int .i64 a0_4, .int .i64 a0_5]) 0 (some 3) rfl rfl rfl) rfl (sv (EV.fa 3 rfl) rfl (sv (EV.ld (v := .agg #[.int .i64 a1_3, .int .i64 a1_4, .int .i64 a1_5]) 1 (some 3) rfl rfl rfl) rfl ?_))))))))
  revert H; refine bdI ?_; rintro t3 A3 H
  refine so rfl (op_call (laws_eqRow.ok a0_3 a0_4 a0_5 a1_3 a1_4 a1_5 _ A3) [] 1 rfl rfl rfl rfl rfl ?_)
  rintro _ _ _ ⟨rfl, rfl, rfl⟩
  refine sv (EV.nt rfl) rfl (re (pr [2, 3, 16] [0, 1] [] rfl rfl rfl rfl ?_))
  revert H; refine ifsI ?_ ?_ <;> intro c4 H
  ·
   subst c4
   refine gf rfl rfl (gk (gs (gs (rg (sv (EV.fa 6 rfl) rfl (sv (EV.ld 0 none rfl rfl rfl) rfl (sv (EV.fa 6 rfl) rfl (sv (EV.ld 1 none rfl rfl rfl) rfl (sv (EV.neb rfl rfl) rfl (re (pr [21] [] [] rfl rfl rfl rfl ?_)))))))))))
   revert H; refine ifsI ?_ ?_ <;> intro c5 H
   ·
    refine gf rfl (bN c5) (gk (gs (rg (sv (EV.as rfl) rfl (re ?_)))))
    cases H
    exact rt Try.func80 rfl (.tmp rfl .nil) rfl [] [] rfl rfl rfl rfl rfl ⟨rfl, rfl, rfl⟩
   ·
    refine gt rfl (bM c5) (gs (rg (sv (EV.as rfl) rfl (re ?_))))
    cases H
    exact rt Try.func80 rfl (.tmp rfl .nil) rfl [] [] rfl rfl rfl rfl rfl ⟨rfl, rfl, rfl⟩
  ·
   obtain rfl := bF c4
   refine gt rfl rfl (gs (rg (sv (EV.as rfl) rfl (re ?_))))
   cases H
   exact rt Try.func80 rfl (.tmp rfl .nil) rfl [] [] rfl rfl rfl rfl rfl ⟨rfl, rfl, rfl⟩
 ·
  obtain rfl := bF c2
  refine gt rfl rfl (gs (rg (sv (EV.as rfl) rfl (re ?_))))
  cases H
  exact rt Try.func80 rfl (.tmp rfl .nil) rfl [] [] rfl rfl rfl rfl rfl ⟨rfl, rfl, rfl⟩
end Go.Proofs.Ytfcebaplphpajaa.K
namespace Go.Proofs.Ytfcebaplphpajaa.K
open Go Go.RowKit
set_option linter.unusedVariables false
set_option linter.unusedSimpArgs false
def laws_eqPairS.l0 : Nat → Int → (List S99) → (List S99) → Option (Bool)
 | 0, _, _, _ => none
 | k + 1, x2_5, l0, l1 => if x2_5 < (l0.length : Int) then (if 0 ≤ x2_5 then (if x2_5 < (l1.length : Int) then ((laws_eqPair.f ((rd_T99 l0 x2_5).f0.f0) ((rd_T99 l0 x2_5).f0.f1) ((rd_T99 l0 x2_5).f0.f2) ((rd_T99 l0 x2_5).f1.f0) ((rd_T99 l0 x2_5).f1.f1) ((rd_T99 l0 x2_5).f1.f2) ((rd_T99 l0 x2_5).f2) ((rd_T99 l1 x2_5).f0.f0) ((rd_T99 l1 x2_5).f0.f1) ((rd_T99 l1 x2_5).f0.f2) ((rd_T99 l1 x2_5).f1.f0) ((rd_T99 l1 x2_5).f1.f1) ((rd_T99 l1 x2_5).f1.f2) ((rd_T99 l1 x2_5).f2)).bind fun t5 => (if t5 = true then (laws_eqPairS.l0 k (wrap64 (x2_5 + 1)) l0 l1) else (some false))) else none) else none) else (some true)
def laws_eqPairS.f (k : Nat) (l0 : List S99) (l1 : List S99) : Option (Bool) := if (l0.length : Int) = (l1.length : Int) then (laws_eqPairS.l0 k 0 l0 l1) else (some false)
set_option maxHeartbeats 4000000 in
set_option maxRecDepth 100000 in
theorem laws_eqPairS.ok (k : Nat) (l0 : List S99) (Al0 : Option Addr) (cl0 : Nat) (l1 : List S99) (Al1 : Option Addr) (cl1 : Nat) (r0 : Bool) (H : laws_eqPairS.f k l0 l1 = some r0) : Fn Try.prog 39 [.slice Al0 l0.length cl0, .slice Al1 l1.length cl1] [] [.sl 0 k99 Al0 cl0 l0 0 false, .sl 0 k99 Al1 cl1 l1 0 false] (fun v bx en => v = .bool r0 ∧ bx = [] ∧ en = []) := by
 refine fn_ 27 Try.func39 rfl rfl rfl (fun base T w0 => ?_)
 rw [laws_eqPairS.f] at H
 refine gs (rg (sv (EV.as rfl) rfl (re (gs (gs (rg (sv (EV.mv rfl) rfl (sv (EV.ln rfl) rfl (sv (EV.mv rfl) rfl (sv (EV.ln rfl) rfl (sv (EV.neq rfl rfl) rfl (re ?_))))))))))))
 revert H; refine ifsI ?_ ?_ <;> intro c1 H
 ·
  refine gf rfl (nF c1) (gk (gs (gs (rg (sv (EV.as rfl) rfl (re (pr [0, 1, 5] [] [0, 1] rfl rfl rfl rfl (gb ?_))))))))
  refine lo (fun kk S => ∃ (x2_5 : Int), laws_eqPairS.l0 kk x2_5 l0 l1 = some r0 ∧ S = ⟨[(0, .slice Al0 l0.length cl0), (1, .slice Al1 l1.length cl1), (5, .int .i64 x2_5)], [], [.sl 0 k99 Al0 cl0 l0 0 false, .sl 0 k99 Al1 cl1 l1 0 false]⟩) (fun S hS => ?_) (fun n0 ih0 S hS => ?_) ⟨0, H, rfl⟩ (fun h => wk [0, 1, 5] [] [⟨0, 0, 0, false⟩, ⟨1, 0, 0, false⟩] h)
  · clear H; obtain ⟨_, H, _⟩ := hS; rw [laws_eqPairS.l0] at H; cases H
  clear H
  obtain ⟨x2_5, H, rfl⟩ := hS
  rw [laws_eqPairS.l0] at H
  refine gs (gs (rg (sv (EV.mv rfl) rfl (sv (EV.mv rfl) rfl (sv (EV.ln rfl) rfl (sv (EV.lss rfl rfl) rfl (re ?_)))))))
  revert H; refine ifsI ?_ ?_ <;> intro c2 H
  ·
   refine gt rfl (dT c2) (gk (gs (gb (gs ?_))))
   revert H; refine ggI ?_; intro g3 H
   revert H; refine ggI ?_; intro g4 H
   refine dr [] [0, 1] [] 10 rfl rfl rfl rfl (xv 0 [] [0, 1] rfl (EV.mv rfl) rfl rfl rfl rfl (xv 1 [] [0, 1] rfl (EV.mv rfl) rfl rfl rfl rfl (xv 2 [] [0, 1] rfl (EV.ix 0 rfl rfl rfl g3 c2 rfl) rfl rfl rfl rfl (xv 3 [] [0, 1] rfl (EV.le (v := .agg #[.int .i64 ((rd_T99 l0 x2_5).f0.f0), .int .i64 ((rd_T99 l0 x2_5).f0.f1), .int .i64 ((rd_T99 l0 x2_5).f0.f2), .int .i64 ((rd_T99 l0 x2_5).f1.f0), .int .i64 ((rd_T99 l0 x2_5).f1.f1), .int .i64 ((rd_T99 l0 x2_5).f1.f2), .bool ((rd_T99 l0 x2_5).f2)]) x2_5 0 (some 7) 0 z99 rfl rfl rfl g3 c2 rfl rfl rfl) rfl rfl rfl rfl (xv 4 [] [0, 1] rfl (EV.mv rfl) rfl rfl rfl rfl (xv 5 [] [0, 1] rfl (EV.mv rfl) rfl rfl rfl rfl (xv 6 [] [0, 1] rfl (EV.ix 1 rfl rfl rfl g3 g4 rfl) rfl rfl rfl rfl (xv 7 [] [0, 1] rfl (EV.le (v := .agg #[.int .i64 ((rd_T99 l1 x2_5).f0.f0), .int .i64 ((rd_T99 l1 x2_5).f0.f1), .int .i64 ((rd_T99 l1 x2_5).f0.f2), .int .i64 ((rd_T99 l1 x2_5).f1.f0), .int .i64 ((rd_T99 l1 x2_5).f1.f1), .int .i64 ((rd_T99 l1 x2_5).f1.f2), .bool ((rd_T99 l1 x2_5).f2)]) x2_5 0 (some 7) 1 z99 rfl rfl rfl g3 g4 rfl rfl rfl) rfl rfl rfl rfl (one1 8 rfl rfl ?_)))))))))
   revert H; refine bdI ?_; rintro t5 A5 H
   refine op_call (laws_eqPair.ok ((rd_T99 l0 x2_5).f0.f0) ((rd_T99 l0 x2_5).f0.f1) ((rd_T99 l0 x2_5).f0.f2) ((rd_T99 l0 x2_5).f1.f0) ((rd_T99 l0 x2_5).f1.f1) ((rd_T99 l0 x2_5).f1.f2) ((rd_T99 l0 x2_5).f2) ((rd_T99 l1 x2_5).f0.f0) ((rd_T99 l1 x2_5).f0.f1) ((rd_T99 l1 x2_5).f0.f2) ((rd_T99 l1 x2_5).f1.f0) ((rd_T99 l1 x2_5).f1.f1) ((rd_T99 l1 x2_5).f1.f2) ((rd_T99 l1 x2_5).f2) _ A5) [] 1 rfl rfl rfl rfl rfl ?_
   rintro _ _ _ ⟨rfl, rfl, rfl⟩
   refine xs [] [0, 1] rfl rfl rfl (xv 9 [] [0, 1] rfl (EV.nt rfl) rfl rfl rfl rfl (xd (pr [0, 1, 5, 26] [] [0, 1] rfl rfl rfl rfl ?_)))
   revert H; refine ifsI ?_ ?_ <;> intro c6 H
   ·
    subst c6
    exact gf rfl rfl (gk (ge (rg (sv (EV.mv rfl) rfl (sv (EV.add rfl rfl) rfl (sv (EV.as rfl) rfl (re (wk [0, 1, 5] [] [⟨0, 0, 0, false⟩, ⟨1, 0, 0, false⟩] (ih0 _ (by omega) _ ⟨wrap64 (x2_5 + 1), H, rfl⟩)))))))))
   ·
    obtain rfl := bF c6
    refine gt rfl rfl (gs (rg (sv (EV.as rfl) rfl (re ?_))))
    cases H
    exact rt Try.func39 rfl (.tmp rfl .nil) rfl [] [] rfl rfl rfl rfl rfl ⟨rfl, rfl, rfl⟩
  ·
   refine gf rfl (dF c2) (gx rfl (gs (rg (sv (EV.as rfl) rfl (re (pr [4] [] [] rfl rfl rfl rfl ?_))))))
   cases H
   exact rt Try.func39 rfl (.tmp rfl .nil) rfl [] [] rfl rfl rfl rfl rfl ⟨rfl, rfl, rfl⟩
 ·
  refine gt rfl (nT c1) (gs (rg (sv (EV.as rfl) rfl (re (pr [4] [] [] rfl rfl rfl rfl ?_)))))
  cases H
  exact rt Try.func39 rfl (.tmp rfl .nil) rfl [] [] rfl rfl rfl rfl rfl ⟨rfl, rfl, rfl⟩
end Go.Proofs.Ytfcebaplphpajaa.K
namespace Go.Proofs.Ytfcebaplphpajaa.K
open Go Go.RowKit
set_option linter.unusedVariables false
set_option linter.unusedSimpArgs false
def laws_eqJoinResult.f (k : Nat) (l0_0 : List S99) (a0_1 : Int) (a0_2 : Int) (a0_3 : Int) (l1_0 : List S99) (a1_1 : Int) (a1_2 : Int) (a1_3 : Int) : Option (Bool) := (laws_eqPairS.f k l0_0 l1_0).bind fun t1 => (if t1 = true then (if a0_1 = a1_1 then (if a0_2 = a1_2 then (if a0_3 = a1_3 then (some true) else (some false)) else (some false)) else (some false)) else (some false))
set_option maxHeartbeats 4000000 in
set_option maxRecDepth 100000 in
theorem laws_eqJoinResult.ok (k : Nat) (l0_0 : List S99) (Al0_0 : Option Addr) (cl0_0 : Nat) (a0_1 : Int) (a0_2 : Int) (a0_3 : Int) (l1_0 : List S99) (Al1_0 : Option Addr) (cl1_0 : Nat) (a1_1 : Int) (a1_2 : Int) (a1_3 : Int) (r0 : Bool) (H : laws_eqJoinResult.f k l0_0 a0_1 a0_2 a0_3 l1_0 a1_1 a1_2 a1_3 = some r0) : Fn Try.prog 33 [.agg #[.slice Al0_0 l0_0.length cl0_0, .int .i64 a0_1, .int .i64 a0_2, .int .i64 a0_3], .agg #[.slice Al1_0 l1_0.length cl1_0, .int .i64 a1_1, .int .i64 a1_2, .int .i64 a1_3]] [] [.sl 0 k99 Al0_0 cl0_0 l0_0 0 false, .sl 0 k99 Al1_0 cl1_0 l1_0 0 false] (fun v bx en => v = .bool r0 ∧ bx = [] ∧ en = []) := by
 refine fn_ 26 Try.func33 rfl rfl rfl (fun base T w0 => ?_)
 rw [laws_eqJoinResult.f] at H
 refine gs (rg (so rfl (op_box (cs := [.slice Al0_0 l0_0.length cl0_0, .int .i64 a0_1, .int .i64 a0_2, .int .i64 a0_3]) rfl rfl rfl fun b2 => (so rfl (op_box (cs := [.slice Al1_0 l1_0.length cl1_0, .int .i64 a1_1, .int .i64 a1_2, .int .i64 a1_3]) rfl rfl rfl fun b3 => (sv (EV.as rfl) rfl (re (gs (gs (rg (sv (EV.fa 0 rfl) rfl (sv (EV.ld 0 none rfl rfl rfl) rfl (sv (EV.fa 0 rfl) rfl (sv (EV.ld 1 none rfl rfl rfl) rfl ?_))))))))))))))
 revert H; refine bdI ?_; rintro t1 A1 H
 refine so rfl (op_call (laws_eqPairS.ok k l0_0 Al0_0 cl0_0 l1_0 Al1_0 cl1_0 _ A1) [⟨0, 0, 0, false⟩, ⟨1, 0, 0, false⟩] 1 rfl rfl rfl rfl rfl ?_)
 rintro _ _ _ ⟨rfl, rfl, rfl⟩
 refine sv (EV.nt rfl) rfl (re (pr [2, 3, 10] [0, 1] [0, 1] rfl rfl rfl rfl ?_))
 revert H; refine ifsI ?_ ?_ <;> intro c2 H
 ·
  subst c2
  refine gf rfl rfl (gk (gs (gs (rg (sv (EV.fa 1 rfl) rfl (sv (EV.ld 0 none rfl rfl rfl) rfl (sv (EV.fa 1 rfl) rfl (sv (EV.ld 1 none rfl rfl rfl) rfl (sv (EV.neq rfl rfl) rfl (re ?_))))))))))
  revert H; refine ifsI ?_ ?_ <;> intro c3 H
  ·
   refine gf rfl (nF c3) (gk (gs (gs (rg (sv (EV.fa 2 rfl) rfl (sv (EV.ld 0 none rfl rfl rfl) rfl (sv (EV.fa 2 rfl) rfl (sv (EV.ld 1 none rfl rfl rfl) rfl (sv (EV.neq rfl rfl) rfl (re (pr [2, 3, 20] [0, 1] [0, 1] rfl rfl rfl rfl ?_)))))))))))
   revert H; refine ifsI ?_ ?_ <;> intro c4 H
   ·
    refine gf rfl (nF c4) (gk (gs (gs (rg (sv (EV.fa 3 rfl) rfl (sv (EV.ld 0 none rfl rfl rfl) rfl (sv (EV.fa 3 rfl) rfl (sv (EV.ld 1 none rfl rfl rfl) rfl (sv (EV.neq rfl rfl) rfl (re (pr [25] [] [] rfl rfl rfl rfl ?_)))))))))))
    revert H; refine ifsI ?_ ?_ <;> intro c5 H
    ·
     refine gf rfl (nF c5) (gk (gs (rg (sv (EV.as rfl) rfl (re ?_)))))
     cases H
     exact rt Try.func33 rfl (.tmp rfl .nil) rfl [] [] rfl rfl rfl rfl rfl ⟨rfl, rfl, rfl⟩
    ·
     refine gt rfl (nT c5) (gs (rg (sv (EV.as rfl) rfl (re ?_))))
     cases H
     exact rt Try.func33 rfl (.tmp rfl .nil) rfl [] [] rfl rfl rfl rfl rfl ⟨rfl, rfl, rfl⟩
   ·
    refine gt rfl (nT c4) (gs (rg (sv (EV.as rfl) rfl (re ?_))))
    cases H
    exact rt Try.func33 rfl (.tmp rfl .nil) rfl [] [] rfl rfl rfl rfl rfl ⟨rfl, rfl, rfl⟩
  ·
   refine gt rfl (nT c3) (gs (rg (sv (EV.as rfl) rfl (re (pr [4] [] [] rfl rfl rfl rfl ?_)))))
   cases H
   exact rt Try.func33 rfl (.tmp rfl .nil) rfl [] [] rfl rfl rfl rfl rfl ⟨rfl, rfl, rfl⟩
 ·
  obtain rfl := bF c2
  refine gt rfl rfl (gs (rg (sv (EV.as rfl) rfl (re ?_))))
  cases H
  exact rt Try.func33 rfl (.tmp rfl .nil) rfl [] [] rfl rfl rfl rfl rfl ⟨rfl, rfl, rfl⟩
end Go.Proofs.Ytfcebaplphpajaa.K
namespace Go.Proofs.Ytfcebaplphpajaa.K
open Go Go.RowKit
set_option linter.unusedVariables false
set_option linter.unusedSimpArgs false
def laws_markIntS.l0 : Nat → (List Int) → Int → Int → Option (Int × (List Int))
 | 0, _, _, _ => none
 | k + 1, x2_ml0, x2_1, x2_5 => if x2_5 < (x2_ml0.length : Int) then (if 0 ≤ x2_5 then (laws_markIntS.l0 k (x2_ml0.set x2_5.toNat x2_1) (wrap64 (x2_1 + 1)) (wrap64 (x2_5 + 1))) else none) else (some (x2_1, x2_ml0))
def laws_markIntS.f (k : Nat) (l0 : List Int) (a1 : Int) : Option (Int × (List Int)) := laws_markIntS.l0 k l0 a1 0
set_option maxHeartbeats 4000000 in
set_option maxRecDepth 100000 in
theorem laws_markIntS.ok (k : Nat) (l0 : List Int) (Al0 : Option Addr) (cl0 : Nat) (a1 : Int) (r0 : Int) (r1 : List Int) (H : laws_markIntS.f k l0 a1 = some (r0, r1)) : Fn Try.prog 34 [.slice Al0 l0.length cl0, .int .i64 a1] [] [.sl 1 (.int .i64) Al0 cl0 l0 1 false] (fun v bx en => v = .int .i64 r0 ∧ bx = [] ∧ en = [.sl 1 (.int .i64) Al0 cl0 r1 1 false] ∧ r1.length = l0.length) := by
 refine fn_ 19 Try.func34 rfl rfl rfl (fun base T w0 => ?_)
 rw [laws_markIntS.f] at H
 refine gs (rg (sv (EV.as rfl) rfl (re (gs (gs (rg (sv (EV.as rfl) rfl (re (gb ?_)))))))))
 refine lo (fun kk S => ∃ (x2_ml0 : List Int) (x2_1 : Int) (x2_5 : Int), laws_markIntS.l0 kk x2_ml0 x2_1 x2_5 = some (r0, r1) ∧ x2_ml0.length = l0.length ∧ S = ⟨[(0, .slice Al0 x2_ml0.length cl0), (1, .int .i64 x2_1), (5, .int .i64 x2_5)], [], [.sl 1 (.int .i64) Al0 cl0 x2_ml0 1 false]⟩) (fun S hS => ?_) (fun n0 ih0 S hS => ?_) ⟨l0, a1, 0, H, (by first | rfl | assumption | omega | (simp only [List.length_set]; first | done | assumption | omega)), rfl⟩ (fun h => wk [0, 1, 5] [] [⟨0, 1, 1, false⟩] h)
 · clear H; obtain ⟨_, _, _, H, _⟩ := hS; rw [laws_markIntS.l0] at H; cases H
 clear H
 obtain ⟨x2_ml0, x2_1, x2_5, H, ex2_ml0, rfl⟩ := hS
 rw [laws_markIntS.l0] at H
 refine gs (gs (rg (sv (EV.mv rfl) rfl (sv (EV.mv rfl) rfl (sv (EV.ln rfl) rfl (sv (EV.lss rfl rfl) rfl (re ?_)))))))
 revert H; refine ifsI ?_ ?_ <;> intro c1 H
 ·
  refine gt rfl (dT c1) (gk (gs (gb (gs (rg (sv (EV.mv rfl) rfl (sv (EV.mv rfl) rfl (sv (EV.mv rfl) rfl ?_))))))))
  revert H; refine ggI ?_; intro g2 H
  exact sv (EV.ix 0 rfl rfl rfl g2 c1 rfl) rfl (so rfl (op_stf x2_5 0 0 0 x2_1 rfl rfl rfl rfl g2 c1 rfl rfl rfl rfl dq rfl (rlT 0 (v' := .slice Al0 (x2_ml0.set x2_5.toNat x2_1).length cl0) rfl (sle _ _ _ _ _) (rlT 7 (v' := .slice Al0 (x2_ml0.set x2_5.toNat x2_1).length cl0) rfl (sle _ _ _ _ _) (rlT 12 (v' := .slice Al0 (x2_ml0.set x2_5.toNat x2_1).length cl0) rfl (sle _ _ _ _ _) (nmE (en := [.sl 1 (.int .i64) Al0 cl0 (x2_ml0.set x2_5.toNat x2_1) 1 true]) (by kernel_rfl) (re (pr [0, 1, 5] [] [0] rfl rfl rfl rfl (rg (sv (EV.mv rfl) rfl (sv (EV.add rfl rfl) rfl (sv (EV.as rfl) rfl (re (ge (rg (sv (EV.mv rfl) rfl (sv (EV.add rfl rfl) rfl (sv (EV.as rfl) rfl (re (wk [0, 1, 5] [] [⟨0, 1, 1, false⟩] (ih0 _ (by omega) _ ⟨x2_ml0.set x2_5.toNat x2_1, wrap64 (x2_1 + 1), wrap64 (x2_5 + 1), H, (by first | rfl | assumption | omega | (simp only [List.length_set]; first | done | assumption | omega)), rfl⟩)))))))))))))))))))))
 ·
  refine gf rfl (dF c1) (gx rfl (gs (rg (sv (EV.mv rfl) rfl (sv (EV.as rfl) rfl (re (pr [4] [] [0] rfl rfl rfl rfl ?_)))))))
  cases H
  exact rt Try.func34 rfl (.tmp rfl .nil) rfl [] [⟨0, 1, 1, false⟩] rfl rfl rfl rfl rfl ⟨rfl, rfl, rfl, by first | rfl | assumption | omega | (simp only [List.length_set]; first | done | assumption | omega)⟩
end Go.Proofs.Ytfcebaplphpajaa.K
namespace Go.Proofs.Ytfcebaplphpajaa.K
open Go Go.RowKit
set_option linter.unusedVariables false
set_option linter.unusedSimpArgs false
def laws_markPairS.l0 : Nat → (List S99) → Int → Int → Option (Int × (List S99))
 | 0, _, _, _ => none
 | k + 1, x2_ml0, x2_1, x2_5 => if x2_5 < (x2_ml0.length : Int) then (if 0 ≤ x2_5 then ((some (x2_ml0.set x2_5.toNat (⟨(⟨x2_1, (rd_T99 x2_ml0 x2_5).f0.f1, (rd_T99 x2_ml0 x2_5).f0.f2⟩ : S77), (⟨(rd_T99 x2_ml0 x2_5).f1.f0, (rd_T99 x2_ml0 x2_5).f1.f1, (rd_T99 x2_ml0 x2_5).f1.f2⟩ : S77), (rd_T99 x2_ml0 x2_5).f2⟩ : S99))).bind fun s3 => (if x2_5 < (s3.length : Int) then ((some (s3.set x2_5.toNat (⟨(⟨(rd_T99 s3 x2_5).f0.f0, wrap64 (x2_1 + 1), (rd_T99 s3 x2_5).f0.f2⟩ : S77), (⟨(rd_T99 s3 x2_5).f1.f0, (rd_T99 s3 x2_5).f1.f1, (rd_T99 s3 x2_5).f1.f2⟩ : S77), (rd_T99 s3 x2_5).f2⟩ : S99))).bind fun s5 => (if x2_5 < (s5.length : Int) then ((some (s5.set x2_5.toNat (⟨(⟨(rd_T99 s5 x2_5).f0.f0, (rd_T99 s5 x2_5).f0.f1, wrap64 ((wrap64 (x2_1 + 1)) + 1)⟩ : S77), (⟨(rd_T99 s5 x2_5).f1.f0, (rd_T99 s5 x2_5).f1.f1, (rd_T99 s5 x2_5).f1.f2⟩ : S77), (rd_T99 s5 x2_5).f2⟩ : S99))).bind fun s7 => (if x2_5 < (s7.length : Int) then ((some (s7.set x2_5.toNat (⟨(⟨(rd_T99 s7 x2_5).f0.f0, (rd_T99 s7 x2_5).f0.f1, (rd_T99 s7 x2_5).f0.f2⟩ : S77), (⟨wrap64 ((wrap64 ((wrap64 (x2_1 + 1)) + 1)) + 1), (rd_T99 s7 x2_5).f1.f1, (rd_T99 s7 x2_5).f1.f2⟩ : S77), (rd_T99 s7 x2_5).f2⟩ : S99))).bind fun s9 => (if x2_5 < (s9.length : Int) then ((some (s9.set x2_5.toNat (⟨(⟨(rd_T99 s9 x2_5).f0.f0, (rd_T99 s9 x2_5).f0.f1, (rd_T99 s9 x2_5).f0.f2⟩ : S77), (⟨(rd_T99 s9 x2_5).f1.f0, wrap64 ((wrap64 ((wrap64 ((wrap64 (x2_1 + 1)) + 1)) + 1)) + 1), (rd_T99 s9 x2_5).f1.f2⟩ : S77), (rd_T99 s9 x2_5).f2⟩ : S99))).bind fun s11 => (if x2_5 < (s11.length : Int) then ((some (s11.set x2_5.toNat (⟨(⟨(rd_T99 s11 x2_5).f0.f0, (rd_T99 s11 x2_5).f0.f1, (rd_T99 s11 x2_5).f0.f2⟩ : S77), (⟨(rd_T99 s11 x2_5).f1.f0, (rd_T99 s11 x2_5).f1.f1, wrap64 ((wrap64 ((wrap64 ((wrap64 ((wrap64 (x2_1 + 1)) + 1)) + 1)) + 1)) + 1)⟩ : S77), (rd_T99 s11 x2_5).f2⟩ : S99))).bind fun s13 => (if x2_5 < (s13.length : Int) then ((some (s13.set x2_5.toNat (⟨(⟨(rd_T99 s13 x2_5).f0.f0, (rd_T99 s13 x2_5).f0.f1, (rd_T99 s13 x2_5).f0.f2⟩ : S77), (⟨(rd_T99 s13 x2_5).f1.f0, (rd_T99 s13 x2_5).f1.f1, (rd_T99 s13 x2_5).f1.f2⟩ : S77), decide ((Int.tmod (wrap64 ((wrap64 ((wrap64 ((wrap64 ((wrap64 ((wrap64 (x2_1 + 1)) + 1)) + 1)) + 1)) + 1)) + 1)) 3) = 0)⟩ : S99))).bind fun s15 => (laws_markPairS.l0 k s15 (wrap64 ((wrap64 ((wrap64 ((wrap64 ((wrap64 ((wrap64 ((wrap64 (x2_1 + 1)) + 1)) + 1)) + 1)) + 1)) + 1)) + 1)) (wrap64 (x2_5 + 1)))) else none)) else none)) else none)) else none)) else none)) else none)) else none) else (some (x2_1, x2_ml0))
def laws_markPairS.f (k : Nat) (l0 : List S99) (a1 : Int) : Option (Int × (List S99)) := laws_markPairS.l0 k l0 a1 0
set_option maxHeartbeats 4000000 in
set_option maxRecDepth 100000 in
theorem laws_markPairS.ok (k : Nat) (l0 : List S99) (Al0 : Option Addr) (cl0 : Nat) (a1 : Int) (r0 : Int) (r1 : List S99) (H : laws_markPairS.f k l0 a1 = some (r0, r1)) : Fn Try.prog 40 [.slice Al0 l0.length cl0, .int .i64 a1] [] [.sl 1 k99 Al0 cl0 l0 1 false] (fun v bx en => v = .int .i64 r0 ∧ bx = [] ∧ en = [.sl 1 k99 Al0 cl0 r1 1 false] ∧ r1.length = l0.length) := by
 refine fn_ 70 Try.func40 rfl rfl rfl (fun base T w0 => ?_)
 rw [laws_markPairS.f] at H
 refine gs (rg (sv (EV.as rfl) rfl (re (gs (gs (rg (sv (EV.as rfl) rfl (re (gb ?_)))))))))
 refine lo (fun kk S => ∃ (x2_ml0 : List S99) (x2_1 : Int) (x2_5 : Int), laws_markPairS.l0 kk x2_ml0 x2_1 x2_5 = some (r0, r1) ∧ x2_ml0.length = l0.length ∧ S = ⟨[(0, .slice Al0 x2_ml0.length cl0), (1, .int .i64 x2_1), (5, .int .i64 x2_5)], [], [.sl 1 k99 Al0 cl0 x2_ml0 1 false]⟩) (fun S hS => ?_) (fun n0 ih0 S hS => ?_) ⟨l0, a1, 0, H, (by first | rfl | assumption | omega | (simp only [List.length_set]; first | done | assumption | omega)), rfl⟩ (fun h => wk [0, 1, 5] [] [⟨0, 1, 1, false⟩] h)
 · clear H; obtain ⟨_, _, _, H, _⟩ := hS; rw [laws_markPairS.l0] at H; cases H
 clear H
 obtain ⟨x2_ml0, x2_1, x2_5, H, ex2_ml0, rfl⟩ := hS
 rw [laws_markPairS.l0] at H
 refine gs (gs (rg (sv (EV.mv rfl) rfl (sv (EV.mv rfl) rfl (sv (EV.ln rfl) rfl (sv (EV.lss rfl rfl) rfl (re ?_)))))))
 revert H; refine ifsI ?_ ?_ <;> intro c1 H
 ·
  refine gt rfl (dT c1) (gk (gs (gb (gs (rg (sv (EV.mv rfl) rfl (sv (EV.mv rfl) rfl (sv (EV.mv rfl) rfl ?_))))))))
  revert H; refine ggI ?_; intro g2 H
  refine sv (EV.ix 0 rfl rfl rfl g2 c1 rfl) rfl (sv (EV.fa 0 rfl) rfl (sv (EV.fa 0 rfl) rfl ?_))
  revert H; refine bdI ?_; intro s3 A3 H; have q3 := stl (Option.some.inj A3)
  refine so rfl (op_stg x2_5 0 0 z99 (⟨(⟨x2_1, (rd_T99 x2_ml0 x2_5).f0.f1, (rd_T99 x2_ml0 x2_5).f0.f2⟩ : S77), (⟨(rd_T99 x2_ml0 x2_5).f1.f0, (rd_T99 x2_ml0 x2_5).f1.f1, (rd_T99 x2_ml0 x2_5).f1.f2⟩ : S77), (rd_T99 x2_ml0 x2_5).f2⟩ : S99) (Option.some.inj A3) rfl rfl rfl rfl g2 c1 rfl rfl rfl rfl dq rfl (rlT 0 (v' := .slice Al0 s3.length cl0) rfl (slq _ _ q3) (rlT 7 (v' := .slice Al0 s3.length cl0) rfl (slq _ _ q3) (rlT 12 (v' := .slice Al0 s3.length cl0) rfl (slq _ _ q3) (nmE (en := [.sl 1 k99 Al0 cl0 s3 1 true]) (by kernel_rfl) (re (pr [0, 1, 5] [] [0] rfl rfl rfl rfl (gs (rg (sv (EV.mv rfl) rfl (sv (EV.add rfl rfl) rfl (sv (EV.as rfl) rfl (re (gs (rg (sv (EV.mv rfl) rfl (sv (EV.mv rfl) rfl (sv (EV.mv rfl) rfl ?_))))))))))))))))))
  revert H; refine ggI ?_; intro g4 H
  refine sv (EV.ix 0 rfl rfl rfl g2 g4 rfl) rfl (sv (EV.fa 0 rfl) rfl (sv (EV.fa 1 rfl) rfl ?_))
  revert H; refine bdI ?_; intro s5 A5 H; have q5 := stl (Option.some.inj A5)
  refine so rfl (op_stg x2_5 1 0 z99 (⟨(⟨(rd_T99 s3 x2_5).f0.f0, wrap64 (x2_1 + 1), (rd_T99 s3 x2_5).f0.f2⟩ : S77), (⟨(rd_T99 s3 x2_5).f1.f0, (rd_T99 s3 x2_5).f1.f1, (rd_T99 s3 x2_5).f1.f2⟩ : S77), (rd_T99 s3 x2_5).f2⟩ : S99) (Option.some.inj A5) rfl rfl rfl rfl g2 g4 rfl rfl rfl rfl dq rfl (rlT 0 (v' := .slice Al0 s5.length cl0) rfl (slq _ _ q5) (rlT 20 (v' := .slice Al0 s5.length cl0) rfl (slq _ _ q5) (nmE (en := [.sl 1 k99 Al0 cl0 s5 1 true]) (by kernel_rfl) (re (gs (rg (sv (EV.mv rfl) rfl (sv (EV.add rfl rfl) rfl (sv (EV.as rfl) rfl (re (pr [0, 1, 5] [] [0] rfl rfl rfl rfl (gs (rg (sv (EV.mv rfl) rfl (sv (EV.mv rfl) rfl (sv (EV.mv rfl) rfl ?_)))))))))))))))))
  revert H; refine ggI ?_; intro g6 H
  refine sv (EV.ix 0 rfl rfl rfl g2 g6 rfl) rfl (sv (EV.fa 0 rfl) rfl (sv (EV.fa 2 rfl) rfl ?_))
  revert H; refine bdI ?_; intro s7 A7 H; have q7 := stl (Option.some.inj A7)
  refine so rfl (op_stg x2_5 2 0 z99 (⟨(⟨(rd_T99 s5 x2_5).f0.f0, (rd_T99 s5 x2_5).f0.f1, wrap64 ((wrap64 (x2_1 + 1)) + 1)⟩ : S77), (⟨(rd_T99 s5 x2_5).f1.f0, (rd_T99 s5 x2_5).f1.f1, (rd_T99 s5 x2_5).f1.f2⟩ : S77), (rd_T99 s5 x2_5).f2⟩ : S99) (Option.some.inj A7) rfl rfl rfl rfl g2 g6 rfl rfl rfl rfl dq rfl (rlT 0 (v' := .slice Al0 s7.length cl0) rfl (slq _ _ q7) (rlT 28 (v' := .slice Al0 s7.length cl0) rfl (slq _ _ q7) (nmE (en := [.sl 1 k99 Al0 cl0 s7 1 true]) (by kernel_rfl) (re (gs (rg (sv (EV.mv rfl) rfl (sv (EV.add rfl rfl) rfl (sv (EV.as rfl) rfl (re (gs (rg (sv (EV.mv rfl) rfl (sv (EV.mv rfl) rfl (sv (EV.mv rfl) rfl ?_))))))))))))))))
  revert H; refine ggI ?_; intro g8 H
  refine sv (EV.ix 0 rfl rfl rfl g2 g8 rfl) rfl (sv (EV.fa 3 rfl) rfl (sv (EV.fa 0 rfl) rfl ?_))
  revert H; refine bdI ?_; intro s9 A9 H; have q9 := stl (Option.some.inj A9)
  refine so rfl (op_stg x2_5 3 0 z99 (⟨(⟨(rd_T99 s7 x2_5).f0.f0, (rd_T99 s7 x2_5).f0.f1, (rd_T99 s7 x2_5).f0.f2⟩ : S77), (⟨wrap64 ((wrap64 ((wrap64 (x2_1 + 1)) + 1)) + 1), (rd_T99 s7 x2_5).f1.f1, (rd_T99 s7 x2_5).f1.f2⟩ : S77), (rd_T99 s7 x2_5).f2⟩ : S99) (Option.some.inj A9) rfl rfl rfl rfl g2 g8 rfl rfl rfl rfl dq rfl (rlT 0 (v' := .slice Al0 s9.length cl0) rfl (slq _ _ q9) (rlT 28 (v' := .slice Al0 s9.length cl0) rfl (slq _ _ q9) (rlT 36 (v' := .slice Al0 s9.length cl0) rfl (slq _ _ q9) (nmE (en := [.sl 1 k99 Al0 cl0 s9 1 true]) (by kernel_rfl) (re (pr [0, 1, 5] [] [0] rfl rfl rfl rfl (gs (rg (sv (EV.mv rfl) rfl (sv (EV.add rfl rfl) rfl (sv (EV.as rfl) rfl (re (gs (rg (sv (EV.mv rfl) rfl (sv (EV.mv rfl) rfl (sv (EV.mv rfl) rfl ?_))))))))))))))))))
  revert H; refine ggI ?_; intro g10 H
  refine sv (EV.ix 0 rfl rfl rfl g2 g10 rfl) rfl (sv (EV.fa 3 rfl) rfl (sv (EV.fa 1 rfl) rfl ?_))
  revert H; refine bdI ?_; intro s11 A11 H; have q11 := stl (Option.some.inj A11)
  refine so rfl (op_stg x2_5 4 0 z99 (⟨(⟨(rd_T99 s9 x2_5).f0.f0, (rd_T99 s9 x2_5).f0.f1, (rd_T99 s9 x2_5).f0.f2⟩ : S77), (⟨(rd_T99 s9 x2_5).f1.f0, wrap64 ((wrap64 ((wrap64 ((wrap64 (x2_1 + 1)) + 1)) + 1)) + 1), (rd_T99 s9 x2_5).f1.f2⟩ : S77), (rd_T99 s9 x2_5).f2⟩ : S99) (Option.some.inj A11) rfl rfl rfl rfl g2 g10 rfl rfl rfl rfl dq rfl (rlT 0 (v' := .slice Al0 s11.length cl0) rfl (slq _ _ q11) (rlT 44 (v' := .slice Al0 s11.length cl0) rfl (slq _ _ q11) (nmE (en := [.sl 1 k99 Al0 cl0 s11 1 true]) (by kernel_rfl) (re (gs (rg (sv (EV.mv rfl) rfl (sv (EV.add rfl rfl) rfl (sv (EV.as rfl) rfl (re (pr [0, 1, 5] [] [0] rfl rfl rfl rfl (gs (rg (sv (EV.mv rfl) rfl (sv (EV.mv rfl) rfl (sv (EV.mv rfl) rfl ?_)))))))))))))))))
  revert H; refine ggI ?_; intro g12 H
  refine sv (EV.ix 0 rfl rfl rfl g2 g12 rfl) rfl (sv (EV.fa 3 rfl) rfl (sv (EV.fa 2 rfl) rfl ?_))
  revert H; refine bdI ?_; intro s13 A13 H; have q13 := stl (Option.some.inj A13)
  refine so rfl (op_stg x2_5 5 0 z99 (⟨(⟨(rd_T99 s11 x2_5).f0.f0, (rd_T99 s11 x2_5).f0.f1, (rd_T99 s11 x2_5).f0.f2⟩ : S77), (⟨(rd_T99 s11 x2_5).f1.f0, (rd_T99 s11 x2_5).f1.f1, wrap64 ((wrap64 ((wrap64 ((wrap64 ((wrap64 (x2_1 + 1)) + 1)) + 1)) + 1)) + 1)⟩ : S77), (rd_T99 s11 x2_5).f2⟩ : S99) (Option.some.inj A13) rfl rfl rfl rfl g2 g12 rfl rfl rfl rfl dq rfl (rlT 0 (v' := .slice Al0 s13.length cl0) rfl (slq _ _ q13) (rlT 52 (v' := .slice Al0 s13.length cl0) rfl (slq _ _ q13) (nmE (en := [.sl 1 k99 Al0 cl0 s13 1 true]) (by kernel_rfl) (re (gs (rg (sv (EV.mv rfl) rfl (sv (EV.add rfl rfl) rfl (sv (EV.as rfl) rfl (re (gs (rg (sv (EV.mv rfl) rfl (sv (EV.mv rfl) rfl (sv (EV.mv rfl) rfl (sv (EV.rem rfl rfl dq) rfl (sv (EV.eql rfl rfl) rfl ?_))))))))))))))))))
  revert H; refine ggI ?_; intro g14 H
  refine sv (EV.ix 0 rfl rfl rfl g2 g14 rfl) rfl (sv (EV.fa 6 rfl) rfl ?_)
  revert H; refine bdI ?_; intro s15 A15 H; have q15 := stl (Option.some.inj A15)
  exact so rfl (op_stg x2_5 6 0 z99 (⟨(⟨(rd_T99 s13 x2_5).f0.f0, (rd_T99 s13 x2_5).f0.f1, (rd_T99 s13 x2_5).f0.f2⟩ : S77), (⟨(rd_T99 s13 x2_5).f1.f0, (rd_T99 s13 x2_5).f1.f1, (rd_T99 s13 x2_5).f1.f2⟩ : S77), decide ((Int.tmod (wrap64 ((wrap64 ((wrap64 ((wrap64 ((wrap64 ((wrap64 (x2_1 + 1)) + 1)) + 1)) + 1)) + 1)) + 1)) 3) = 0)⟩ : S99) (Option.some.inj A15) rfl rfl rfl rfl g2 g14 rfl rfl rfl rfl dq rfl (rlT 0 (v' := .slice Al0 s15.length cl0) rfl (slq _ _ q15) (rlT 52 (v' := .slice Al0 s15.length cl0) rfl (slq _ _ q15) (rlT 60 (v' := .slice Al0 s15.length cl0) rfl (slq _ _ q15) (nmE (en := [.sl 1 k99 Al0 cl0 s15 1 true]) (by kernel_rfl) (re (pr [0, 1, 5] [] [0] rfl rfl rfl rfl (rg (sv (EV.mv rfl) rfl (sv (EV.add rfl rfl) rfl (sv (EV.as rfl) rfl (re (ge (rg (sv (EV.mv rfl) rfl (sv (EV.add rfl rfl) rfl (sv (EV.as rfl) rfl (re (wk [0, 1, 5] [] [⟨0, 1, 1, false⟩] (ih0 _ (by omega) _ ⟨s15, wrap64 ((wrap64 ((wrap64 ((wrap64 ((wrap64 ((wrap64 ((wrap64 (x2_1 + 1)) + 1)) + 1)) + 1)) + 1)) + 1)) + 1), wrap64 (x2_5 + 1), H, (by first | rfl | assumption | omega | (simp only [List.length_set]; first | done | assumption | omega)), rfl⟩))))))))))))))))))))
 ·
  refine gf rfl (dF c1) (gx rfl (gs (rg (sv (EV.mv rfl) rfl (sv (EV.as rfl) rfl (re (pr [4] [] [0] rfl rfl rfl rfl ?_)))))))
  cases H
  exact rt Try.func40 rfl (.tmp rfl .nil) rfl [] [⟨0, 1, 1, false⟩] rfl rfl rfl rfl rfl ⟨rfl, rfl, rfl, by first | rfl | assumption | omega | (simp only [List.length_set]; first | done | assumption | omega)⟩
end Go.Proofs.Ytfcebaplphpajaa.K
namespace Go.Proofs.Ytfcebaplphpajaa.K
open Go Go.RowKit
set_option linter.unusedVariables false
set_option linter.unusedSimpArgs false
def laws_markJoinResult.f (k : Nat) (l0_0 : List S99) (a0_1 : Int) (a0_2 : Int) (a0_3 : Int) (a1 : Int) : Option (Int × (List S99)) := (laws_markPairS.f k l0_0 a1).bind fun bt1 => (some (bt1.1, bt1.2))
set_option maxHeartbeats 4000000 in
set_option maxRecDepth 100000 in
theorem laws_markJoinResult.ok (k : Nat) (l0_0 : List S99) (Al0_0 : Option Addr) (cl0_0 : Nat) (a0_1 : Int) (a0_2 : Int) (a0_3 : Int) (a1 : Int) (r0 : Int) (r1 : List S99) (H : laws_markJoinResult.f k l0_0 a0_1 a0_2 a0_3 a1 = some (r0, r1)) : Fn Try.prog 35 [.agg #[.slice Al0_0 l0_0.length cl0_0, .int .i64 a0_1, .int .i64 a0_2, .int .i64 a0_3], .int .i64 a1] [] [.sl 1 k99 Al0_0 cl0_0 l0_0 1 false] (fun v bx en => v = .int .i64 r0 ∧ bx = [] ∧ en = [.sl 1 k99 Al0_0 cl0_0 r1 1 false] ∧ r1.length = l0_0.length) := by
 refine fn_ 10 Try.func35 rfl rfl rfl (fun base T w0 => ?_)
 rw [laws_markJoinResult.f] at H
 refine gs (rg (so rfl (op_box (cs := [.slice Al0_0 l0_0.length cl0_0, .int .i64 a0_1, .int .i64 a0_2, .int .i64 a0_3]) rfl rfl rfl fun b2 => (sv (EV.as rfl) rfl (re (gs (rg (sv (EV.fa 0 rfl) rfl (sv (EV.ld 0 none rfl rfl rfl) rfl (sv (EV.mv rfl) rfl ?_))))))))))
 revert H; refine bdI ?_; rintro ⟨t1_0, t1_1⟩ A1 H
 refine so rfl (op_callM (laws_markPairS.ok k l0_0 Al0_0 cl0_0 a1 _ _ A1) [⟨0, 1, 1, false⟩] [] [0] 2 rfl rfl rfl rfl rfl rfl rfl rfl ?_)
 rintro _ _ _ ⟨rfl, rfl, rfl, q1_0⟩
 refine rlT 0 (v' := .agg #[.slice Al0_0 t1_1.length cl0_0, .int .i64 a0_1, .int .i64 a0_2, .int .i64 a0_3]) rfl (by simp only [q1_0]) (rlT 6 (v' := .slice Al0_0 t1_1.length cl0_0) rfl (slq _ _ q1_0) (rlB 0 (cs' := [.slice Al0_0 t1_1.length cl0_0, .int .i64 a0_1, .int .i64 a0_2, .int .i64 a0_3]) rfl (by simp only [q1_0]) (nmE (en := [.sl 1 k99 Al0_0 cl0_0 t1_1 3 false]) (by kernel_rfl) (sv (EV.as rfl) rfl (re (pr [1] [] [0] rfl rfl rfl rfl (gs (rg (sv (EV.mv rfl) rfl (sv (EV.as rfl) rfl (re ?_)))))))))))
 cases H
 exact rt Try.func35 rfl (.tmp rfl .nil) rfl [] [⟨0, 1, 1, false⟩] rfl rfl rfl rfl rfl ⟨rfl, rfl, rfl, by first | rfl | assumption | omega | (simp only [List.length_set]; first | done | assumption | omega)⟩
end Go.Proofs.Ytfcebaplphpajaa.K
namespace Go.Proofs.Ytfcebaplphpajaa.K
open Go Go.RowKit
set_option linter.unusedVariables false
set_option linter.unusedSimpArgs false
def laws_heldPairS.l0 : Nat → Int → Int → (List S99) → Option (Int)
 | 0, _, _, _ => none
 | k + 1, x2_1, x2_5, l0 => if x2_5 < (l0.length : Int) then (if 0 ≤ x2_5 then (if ((rd_T99 l0 x2_5).f0.f0) = x2_1 then (if ((rd_T99 l0 x2_5).f0.f1) = (wrap64 (x2_1 + 1)) then (if ((rd_T99 l0 x2_5).f0.f2) = (wrap64 ((wrap64 (x2_1 + 1)) + 1)) then (if ((rd_T99 l0 x2_5).f1.f0) = (wrap64 ((wrap64 ((wrap64 (x2_1 + 1)) + 1)) + 1)) then (if ((rd_T99 l0 x2_5).f1.f1) = (wrap64 ((wrap64 ((wrap64 ((wrap64 (x2_1 + 1)) + 1)) + 1)) + 1)) then (if ((rd_T99 l0 x2_5).f1.f2) = (wrap64 ((wrap64 ((wrap64 ((wrap64 ((wrap64 (x2_1 + 1)) + 1)) + 1)) + 1)) + 1)) then (if (((rd_T99 l0 x2_5).f2) == (decide ((Int.tmod (wrap64 ((wrap64 ((wrap64 ((wrap64 ((wrap64 ((wrap64 (x2_1 + 1)) + 1)) + 1)) + 1)) + 1)) + 1)) 3) = 0))) = true then (laws_heldPairS.l0 k (wrap64 ((wrap64 ((wrap64 ((wrap64 ((wrap64 ((wrap64 ((wrap64 (x2_1 + 1)) + 1)) + 1)) + 1)) + 1)) + 1)) + 1)) (wrap64 (x2_5 + 1)) l0) else (some (-1))) else (some (-1))) else (some (-1))) else (some (-1))) else (some (-1))) else (some (-1))) else (some (-1))) else none) else (some x2_1)
def laws_heldPairS.f (k : Nat) (l0 : List S99) (a1 : Int) : Option (Int) := laws_heldPairS.l0 k a1 0 l0
set_option maxHeartbeats 4000000 in
set_option maxRecDepth 100000 in
theorem laws_heldPairS.ok (k : Nat) (l0 : List S99) (Al0 : Option Addr) (cl0 : Nat) (a1 : Int) (r0 : Int) (H : laws_heldPairS.f k l0 a1 = some r0) : Fn Try.prog 41 [.slice Al0 l0.length cl0, .int .i64 a1] [] [.sl 0 k99 Al0 cl0 l0 0 false] (fun v bx en => v = .int .i64 r0 ∧ bx = [] ∧ en = []) := by
 refine fn_ 84 Try.func41 rfl rfl rfl (fun base T w0 => ?_)
 rw [laws_heldPairS.f] at H
 refine gs (rg (sv (EV.as rfl) rfl (re (gs (gs (rg (sv (EV.as rfl) rfl (re (gb ?_)))))))))
 refine lo (fun kk S => ∃ (x2_1 : Int) (x2_5 : Int), laws_heldPairS.l0 kk x2_1 x2_5 l0 = some r0 ∧ S = ⟨[(0, .slice Al0 l0.length cl0), (1, .int .i64 x2_1), (5, .int .i64 x2_5)], [], [.sl 0 k99 Al0 cl0 l0 0 false]⟩) (fun S hS => ?_) (fun n0 ih0 S hS => ?_) ⟨a1, 0, H, rfl⟩ (fun h => wk [0, 1, 5] [] [⟨0, 0, 0, false⟩] h)
 · clear H; obtain ⟨_, _, H, _⟩ := hS; rw [laws_heldPairS.l0] at H; cases H
 clear H
 obtain ⟨x2_1, x2_5, H, rfl⟩ := hS
 rw [laws_heldPairS.l0] at H
 refine gs (gs (rg (sv (EV.mv rfl) rfl (sv (EV.mv rfl) rfl (sv (EV.ln rfl) rfl (sv (EV.lss rfl rfl) rfl (re ?_)))))))
 revert H; refine ifsI ?_ ?_ <;> intro c1 H
 ·
  refine gt rfl (dT c1) (gk (gs (gb (gs (gs (rg (sv (EV.mv rfl) rfl (sv (EV.mv rfl) rfl ?_))))))))
  revert H; refine ggI ?_; intro g2 H
  refine sv (EV.ix 0 rfl rfl rfl g2 c1 rfl) rfl (sv (EV.fa 0 rfl) rfl (sv (EV.fa 0 rfl) rfl (sv (EV.le (v := .int .i64 ((rd_T99 l0 x2_5).f0.f0)) x2_5 0 none 0 z99 rfl rfl rfl g2 c1 rfl rfl rfl) rfl (sv (EV.mv rfl) rfl (sv (EV.neq rfl rfl) rfl (re (pr [0, 1, 5, 19] [] [0] rfl rfl rfl rfl ?_)))))))
  revert H; refine ifsI ?_ ?_ <;> intro c3 H
  ·
   refine gf rfl (nF c3) (gk (gs (rg (sv (EV.mv rfl) rfl (sv (EV.add rfl rfl) rfl (sv (EV.as rfl) rfl (re (gs (gs (rg (sv (EV.mv rfl) rfl (sv (EV.mv rfl) rfl (sv (EV.ix 0 rfl rfl rfl g2 c1 rfl) rfl (sv (EV.fa 0 rfl) rfl (sv (EV.fa 1 rfl) rfl (sv (EV.le (v := .int .i64 ((rd_T99 l0 x2_5).f0.f1)) x2_5 1 none 0 z99 rfl rfl rfl g2 c1 rfl rfl rfl) rfl (sv (EV.mv rfl) rfl (sv (EV.neq rfl rfl) rfl (re (pr [0, 1, 5, 29] [] [0] rfl rfl rfl rfl ?_))))))))))))))))))))
   revert H; refine ifsI ?_ ?_ <;> intro c4 H
   ·
    refine gf rfl (nF c4) (gk (gs (rg (sv (EV.mv rfl) rfl (sv (EV.add rfl rfl) rfl (sv (EV.as rfl) rfl (re (gs (gs (rg (sv (EV.mv rfl) rfl (sv (EV.mv rfl) rfl (sv (EV.ix 0 rfl rfl rfl g2 c1 rfl) rfl (sv (EV.fa 0 rfl) rfl (sv (EV.fa 2 rfl) rfl (sv (EV.le (v := .int .i64 ((rd_T99 l0 x2_5).f0.f2)) x2_5 2 none 0 z99 rfl rfl rfl g2 c1 rfl rfl rfl) rfl (sv (EV.mv rfl) rfl (sv (EV.neq rfl rfl) rfl (re (pr [0, 1, 5, 39] [] [0] rfl rfl rfl rfl ?_))))))))))))))))))))
    revert H; refine ifsI ?_ ?_ <;> intro c5 H
    ·
     refine gf rfl (nF c5) (gk (gs (rg (sv (EV.mv rfl) rfl (sv (EV.add rfl rfl) rfl (sv (EV.as rfl) rfl (re (gs (gs (rg (sv (EV.mv rfl) rfl (sv (EV.mv rfl) rfl (sv (EV.ix 0 rfl rfl rfl g2 c1 rfl) rfl (sv (EV.fa 3 rfl) rfl (sv (EV.fa 0 rfl) rfl (sv (EV.le (v := .int .i64 ((rd_T99 l0 x2_5).f1.f0)) x2_5 3 none 0 z99 rfl rfl rfl g2 c1 rfl rfl rfl) rfl (sv (EV.mv rfl) rfl (sv (EV.neq rfl rfl) rfl (re (pr [0, 1, 5, 49] [] [0] rfl rfl rfl rfl ?_))))))))))))))))))))
     revert H; refine ifsI ?_ ?_ <;> intro c6 H
     ·
      refine gf rfl (nF c6) (gk (gs (rg (sv (EV.mv rfl) rfl (sv (EV.add rfl rfl) rfl (sv (EV.as rfl) rfl (re (gs (gs (rg (sv (EV.mv rfl) rfl (sv (EV.mv rfl) rfl (sv (EV.ix 0 rfl rfl rfl g2 c1 rfl) rfl (sv (EV.fa 3 rfl) rfl (sv (EV.fa 1 rfl) rfl (sv (EV.le (v := .int .i64 ((rd_T99 l0 x2_5).f1.f1)) x2_5 4 none 0 z99 rfl rfl rfl g2 c1 rfl rfl rfl) rfl (sv (EV.mv rfl) rfl (sv (EV.neq rfl rfl) rfl (re (pr [0, 1, 5, 59] [] [0] rfl rfl rfl rfl ?_))))))))))))))))))))
      revert H; refine ifsI ?_ ?_ <;> intro c7 H
      ·
       refine gf rfl (nF c7) (gk (gs (rg (sv (EV.mv rfl) rfl (sv (EV.add rfl rfl) rfl (sv (EV.as rfl) rfl (re (gs (gs (rg (sv (EV.mv rfl) rfl (sv (EV.mv rfl) rfl (sv (EV.ix 0 rfl rfl rfl g2 c1 rfl) rfl (sv (EV.fa 3 rfl) rfl (sv (EV.fa 2 rfl) rfl (sv (EV.le (v := .int .i64 ((rd_T99 l0 x2_5).f1.f2)) x2_5 5 none 0 z99 rfl rfl rfl g2 c1 rfl rfl rfl) rfl (sv (EV.mv rfl) rfl (sv (EV.neq rfl rfl) rfl (re (pr [0, 1, 5, 69] [] [0] rfl rfl rfl rfl ?_))))))))))))))))))))
       revert H; refine ifsI ?_ ?_ <;> intro c8 H
       ·
        refine gf rfl (nF c8) (gk (gs (rg (sv (EV.mv rfl) rfl (sv (EV.add rfl rfl) rfl (sv (EV.as rfl) rfl (re (gs (gs (rg (sv (EV.mv rfl) rfl (sv (EV.mv rfl) rfl (sv (EV.ix 0 rfl rfl rfl g2 c1 rfl) rfl (sv (EV.fa 6 rfl) rfl (sv (EV.le (v := .bool ((rd_T99 l0 x2_5).f2)) x2_5 6 none 0 z99 rfl rfl rfl g2 c1 rfl rfl rfl) rfl (sv (EV.mv rfl) rfl (sv (EV.rem rfl rfl dq) rfl (sv (EV.eql rfl rfl) rfl (sv (EV.neb rfl rfl) rfl (re (pr [0, 1, 5, 80] [] [0] rfl rfl rfl rfl ?_)))))))))))))))))))))
        revert H; refine ifsI ?_ ?_ <;> intro c9 H
        ·
         exact gf rfl (bN c9) (gk (rg (sv (EV.mv rfl) rfl (sv (EV.add rfl rfl) rfl (sv (EV.as rfl) rfl (re (ge (rg (sv (EV.mv rfl) rfl (sv (EV.add rfl rfl) rfl (sv (EV.as rfl) rfl (re (wk [0, 1, 5] [] [⟨0, 0, 0, false⟩] (ih0 _ (by omega) _ ⟨wrap64 ((wrap64 ((wrap64 ((wrap64 ((wrap64 ((wrap64 ((wrap64 (x2_1 + 1)) + 1)) + 1)) + 1)) + 1)) + 1)) + 1), wrap64 (x2_5 + 1), H, rfl⟩))))))))))))))
        ·
         refine gt rfl (bM c9) (gs (rg (sv (EV.as rfl) rfl (re ?_))))
         cases H
         exact rt Try.func41 rfl (.tmp rfl .nil) rfl [] [] rfl rfl rfl rfl rfl ⟨rfl, rfl, rfl⟩
       ·
        refine gt rfl (nT c8) (gs (rg (sv (EV.as rfl) rfl (re ?_))))
        cases H
        exact rt Try.func41 rfl (.tmp rfl .nil) rfl [] [] rfl rfl rfl rfl rfl ⟨rfl, rfl, rfl⟩
      ·
       refine gt rfl (nT c7) (gs (rg (sv (EV.as rfl) rfl (re ?_))))
       cases H
       exact rt Try.func41 rfl (.tmp rfl .nil) rfl [] [] rfl rfl rfl rfl rfl ⟨rfl, rfl, rfl⟩
     ·
      refine gt rfl (nT c6) (gs (rg (sv (EV.as rfl) rfl (re ?_))))
      cases H
      exact rt Try.func41 rfl (.tmp rfl .nil) rfl [] [] rfl rfl rfl rfl rfl ⟨rfl, rfl, rfl⟩
    ·
     refine gt rfl (nT c5) (gs (rg (sv (EV.as rfl) rfl (re ?_))))
     cases H
     exact rt Try.func41 rfl (.tmp rfl .nil) rfl [] [] rfl rfl rfl rfl rfl ⟨rfl, rfl, rfl⟩
   ·
    refine gt rfl (nT c4) (gs (rg (sv (EV.as rfl) rfl (re ?_))))
    cases H
    exact rt Try.func41 rfl (.tmp rfl .nil) rfl [] [] rfl rfl rfl rfl rfl ⟨rfl, rfl, rfl⟩
  ·
   refine gt rfl (nT c3) (gs (rg (sv (EV.as rfl) rfl (re ?_))))
   cases H
   exact rt Try.func41 rfl (.tmp rfl .nil) rfl [] [] rfl rfl rfl rfl rfl ⟨rfl, rfl, rfl⟩
 ·
  refine gf rfl (dF c1) (gx rfl (gs (rg (sv (EV.mv rfl) rfl (sv (EV.as rfl) rfl (re (pr [4] [] [] rfl rfl rfl rfl ?_)))))))
  cases H
  exact rt Try.func41 rfl (.tmp rfl .nil) rfl [] [] rfl rfl rfl rfl rfl ⟨rfl, rfl, rfl⟩
end Go.Proofs.Ytfcebaplphpajaa.K
namespace Go.Proofs.Ytfcebaplphpajaa.K
open Go Go.RowKit
set_option linter.unusedVariables false
set_option linter.unusedSimpArgs false
def laws_heldJoinResult.f (k : Nat) (l0_0 : List S99) (a0_1 : Int) (a0_2 : Int) (a0_3 : Int) (a1 : Int) : Option (Int) := (laws_heldPairS.f k l0_0 a1).bind fun t1 => (if t1 < 0 then (some (-1)) else (some t1))
set_option maxHeartbeats 4000000 in
set_option maxRecDepth 100000 in
theorem laws_heldJoinResult.ok (k : Nat) (l0_0 : List S99) (Al0_0 : Option Addr) (cl0_0 : Nat) (a0_1 : Int) (a0_2 : Int) (a0_3 : Int) (a1 : Int) (r0 : Int) (H : laws_heldJoinResult.f k l0_0 a0_1 a0_2 a0_3 a1 = some r0) : Fn Try.prog 36 [.agg #[.slice Al0_0 l0_0.length cl0_0, .int .i64 a0_1, .int .i64 a0_2, .int .i64 a0_3], .int .i64 a1] [] [.sl 0 k99 Al0_0 cl0_0 l0_0 0 false] (fun v bx en => v = .int .i64 r0 ∧ bx = [] ∧ en = []) := by
 refine fn_ 12 Try.func36 rfl rfl rfl (fun base T w0 => ?_)
 rw [laws_heldJoinResult.f] at H
 refine gs (rg (so rfl (op_box (cs := [.slice Al0_0 l0_0.length cl0_0, .int .i64 a0_1, .int .i64 a0_2, .int .i64 a0_3]) rfl rfl rfl fun b2 => (sv (EV.as rfl) rfl (re (gs (rg (sv (EV.fa 0 rfl) rfl (sv (EV.ld 0 none rfl rfl rfl) rfl (sv (EV.mv rfl) rfl ?_))))))))))
 revert H; refine bdI ?_; rintro t1 A1 H
 refine so rfl (op_call (laws_heldPairS.ok k l0_0 Al0_0 cl0_0 a1 _ A1) [⟨0, 0, 0, false⟩] 1 rfl rfl rfl rfl rfl ?_)
 rintro _ _ _ ⟨rfl, rfl, rfl⟩
 refine sv (EV.as rfl) rfl (re (pr [1] [] [] rfl rfl rfl rfl (gs (gs (rg (sv (EV.mv rfl) rfl (sv (EV.lss rfl rfl) rfl (re ?_))))))))
 revert H; refine ifsI ?_ ?_ <;> intro c2 H
 ·
  refine gt rfl (dT c2) (gs (rg (sv (EV.as rfl) rfl (re ?_))))
  cases H
  exact rt Try.func36 rfl (.tmp rfl .nil) rfl [] [] rfl rfl rfl rfl rfl ⟨rfl, rfl, rfl⟩
 ·
  refine gf rfl (dF c2) (gk (gs (rg (sv (EV.mv rfl) rfl (sv (EV.as rfl) rfl (re ?_))))))
  cases H
  exact rt Try.func36 rfl (.tmp rfl .nil) rfl [] [] rfl rfl rfl rfl rfl ⟨rfl, rfl, rfl⟩
end Go.Proofs.Ytfcebaplphpajaa.K
namespace Go.Proofs.Ytfcebaplphpajaa.K
open Go Go.RowKit
set_option linter.unusedVariables false
set_option linter.unusedSimpArgs false
def laws_FnExactRunJoin.f (k : Nat) (a0 : Int) (l1 : List S79) (l2 : List S79) (l3 : List Int) : Option (Bool) := if (l3.length : Int) > 1048576 then (some true) else ((laws_szRowS.f l1 1048576).bind fun t2 => (if t2 < 0 then (some true) else ((laws_szRowS.f l2 t2).bind fun t4 => (if t4 < 0 then (some true) else ((laws_toRowS.f k l1).bind fun t6 => ((laws_toRowS.f k l2).bind fun t7 => ((laws_toIntS.f k l3).bind fun t8 => ((spec_RunJoin.f k a0 t6 t7 t8).bind fun bt9 => ((laws_toRowS.f k l1).bind fun t10 => ((laws_toRowS.f k l2).bind fun t11 => ((laws_toIntS.f k l3).bind fun t12 => ((impl_RunJoin.f k a0 t10 t11 t12).bind fun bt13 => ((laws_eqJoinResult.f k bt13.1 bt13.2.1 bt13.2.2.1 bt13.2.2.2.1 bt9.1 bt9.2.1 bt9.2.2.1 bt9.2.2.2.1).bind fun t14 => (if t14 = true then (if (bt13.2.2.2.2 == bt9.2.2.2.2) = true then ((laws_toRowS.f k l1).bind fun t17 => ((laws_eqRowS.f k t10 t17).bind fun t18 => (if t18 = true then ((laws_toRowS.f k l2).bind fun t20 => ((laws_eqRowS.f k t11 t20).bind fun t21 => (if t21 = true then ((laws_toIntS.f k l3).bind fun t23 => ((laws_eqIntS.f k t12 t23).bind fun t24 => (if t24 = true then ((laws_markRowS.f k t10 1).bind fun bt26 => ((laws_markRowS.f k t11 bt26.1).bind fun bt27 => ((laws_markIntS.f k t12 bt27.1).bind fun bt28 => (if bt28.1 < 0 then (some false) else ((laws_eqJoinResult.f k bt13.1 bt13.2.1 bt13.2.2.1 bt13.2.2.2.1 bt9.1 bt9.2.1 bt9.2.2.1 bt9.2.2.2.1).bind fun t30 => (if t30 = true then ((laws_markJoinResult.f k bt13.1 bt13.2.1 bt13.2.2.1 bt13.2.2.2.1 1).bind fun bt32 => ((laws_heldJoinResult.f k bt32.2 bt13.2.1 bt13.2.2.1 bt13.2.2.2.1 1).bind fun t33 => (if t33 < 0 then (some false) else (if t33 = bt32.1 then ((laws_toRowS.f k l1).bind fun t36 => ((laws_toRowS.f k l2).bind fun t37 => ((laws_toIntS.f k l3).bind fun t38 => ((impl_RunJoin.f k a0 t36 t37 t38).bind fun bt39 => ((laws_eqJoinResult.f k bt39.1 bt39.2.1 bt39.2.2.1 bt39.2.2.2.1 bt9.1 bt9.2.1 bt9.2.2.1 bt9.2.2.2.1).bind fun t40 => (if t40 = true then (if (bt39.2.2.2.2 == bt9.2.2.2.2) = true then ((laws_heldJoinResult.f k bt32.2 bt13.2.1 bt13.2.2.1 bt13.2.2.2.1 1).bind fun t43 => (if t43 < 0 then (some false) else (if t43 = bt32.1 then (some true) else (some false)))) else (some false)) else (some false))))))) else (some false))))) else (some false))))))) else (some false)))) else (some false)))) else (some false)))) else (some false)) else (some false)))))))))))))))
set_option maxHeartbeats 4000000 in
set_option maxRecDepth 100000 in
theorem laws_FnExactRunJoin.ok (k : Nat) (a0 : Int) (l1 : List S79) (Al1 : Option Addr) (cl1 : Nat) (l2 : List S79) (Al2 : Option Addr) (cl2 : Nat) (l3 : List Int) (Al3 : Option Addr) (cl3 : Nat) (r0 : Bool) (H : laws_FnExactRunJoin.f k a0 l1 l2 l3 = some r0) : Fn Try.prog 8 [.int .i64 a0, .slice Al1 l1.length cl1, .slice Al2 l2.length cl2, .slice Al3 l3.length cl3] [] [.sl 0 k79 Al1 cl1 l1 0 false, .sl 0 k79 Al2 cl2 l2 0 false, .sl 0 (.int .i64) Al3 cl3 l3 0 false] (fun v bx en => v = .bool r0 ∧ bx = [] ∧ en = []) := by
 refine fn_ 145 Try.func8 rfl rfl rfl (fun base T w0 => ?_)
 rw [laws_FnExactRunJoin.f] at H
 refine gs (rg (sv (EV.as rfl) rfl (re (gs (gs (rg (sv (EV.mv rfl) rfl (sv (EV.ln rfl) rfl (sv (EV.gtr rfl rfl) rfl (re ?_))))))))))
 revert H; refine ifsI ?_ ?_ <;> intro c1 H
 ·
  refine gt rfl (dT c1) (gs (rg (sv (EV.as rfl) rfl (re (pr [8] [] [] rfl rfl rfl rfl ?_)))))
  cases H
  exact rt Try.func8 rfl (.tmp rfl .nil) rfl [] [] rfl rfl rfl rfl rfl ⟨rfl, rfl, rfl⟩
 ·
  refine gf rfl (dF c1) (gk (gs (rg (sv (EV.as rfl) rfl (re (gs (rg (sv (EV.mv rfl) rfl (sv (EV.mv rfl) rfl ?_)))))))))
  revert H; refine bdI ?_; rintro t2 A2 H
  refine so rfl (op_call (laws_szRowS.ok l1 Al1 cl1 1048576 _ A2) [⟨0, 0, 0, false⟩] 1 rfl rfl rfl rfl rfl ?_)
  rintro _ _ _ ⟨rfl, rfl, rfl⟩
  refine sv (EV.as rfl) rfl (re (pr [0, 1, 2, 3, 9] [] [0, 1, 2] rfl rfl rfl rfl (gs (gs (rg (sv (EV.mv rfl) rfl (sv (EV.lss rfl rfl) rfl (re ?_))))))))
  revert H; refine ifsI ?_ ?_ <;> intro c3 H
  ·
   refine gt rfl (dT c3) (gs (rg (sv (EV.as rfl) rfl (re (pr [8] [] [] rfl rfl rfl rfl ?_)))))
   cases H
   exact rt Try.func8 rfl (.tmp rfl .nil) rfl [] [] rfl rfl rfl rfl rfl ⟨rfl, rfl, rfl⟩
  ·
   refine gf rfl (dF c3) (gk (gs (rg (sv (EV.mv rfl) rfl (sv (EV.mv rfl) rfl ?_)))))
   revert H; refine bdI ?_; rintro t4 A4 H
   refine so rfl (op_call (laws_szRowS.ok l2 Al2 cl2 t2 _ A4) [⟨1, 0, 0, false⟩] 1 rfl rfl rfl rfl rfl ?_)
   rintro _ _ _ ⟨rfl, rfl, rfl⟩
   refine sv (EV.as rfl) rfl (re (gs (gs (rg (sv (EV.mv rfl) rfl (sv (EV.lss rfl rfl) rfl (re (pr [0, 1, 2, 3, 34] [] [0, 1, 2] rfl rfl rfl rfl ?_))))))))
   revert H; refine ifsI ?_ ?_ <;> intro c5 H
   ·
    refine gt rfl (dT c5) (gs (rg (sv (EV.as rfl) rfl (re ?_))))
    cases H
    exact rt Try.func8 rfl (.tmp rfl .nil) rfl [] [] rfl rfl rfl rfl rfl ⟨rfl, rfl, rfl⟩
   ·
    refine gf rfl (dF c5) (gk (gs (rg (sv (EV.mv rfl) rfl (sv (EV.mv rfl) rfl ?_)))))
    revert H; refine bdI ?_; rintro t6 A6 H
    refine so rfl (op_call (laws_toRowS.ok k l1 Al1 cl1 _ A6) [⟨0, 0, 0, false⟩] 1 rfl rfl rfl rfl rfl ?_)
    rintro _ _ _ ⟨At6, ct6, rfl, rfl, rfl⟩
    refine sv (EV.mv rfl) rfl ?_
    revert H; refine bdI ?_; rintro t7 A7 H
    refine so rfl (op_call (laws_toRowS.ok k l2 Al2 cl2 _ A7) [⟨1, 0, 0, false⟩] 3 rfl rfl rfl rfl rfl ?_)
    rintro _ _ _ ⟨At7, ct7, rfl, rfl, rfl⟩
    refine sv (EV.mv rfl) rfl ?_
    revert H; refine bdI ?_; rintro t8 A8 H
    refine so rfl (op_call (laws_toIntS.ok k l3 Al3 cl3 _ A8) [⟨2, 0, 0, false⟩] 5 rfl rfl rfl rfl rfl ?_)
    rintro _ _ _ ⟨At8, ct8, rfl, rfl, rfl⟩
    revert H; refine bdI ?_; rintro ⟨t9_0, t9_1, t9_2, t9_3, t9_4⟩ A9 H
    refine so rfl (op_call (spec_RunJoin.ok k a0 t6 At6 ct6 t7 At7 ct7 t8 At8 ct8 _ _ _ _ _ A9) [⟨3, 0, 0, false⟩, ⟨4, 0, 0, false⟩, ⟨5, 0, 0, false⟩] 7 rfl rfl rfl rfl rfl ?_)
    rintro _ _ _ ⟨At9_0, ct9_0, rfl, rfl, rfl⟩
    refine sv (EV.mv rfl) rfl (sv (EV.ex rfl rfl) rfl (sv (EV.ex rfl rfl) rfl (so rfl (op_alloc (cs := [.slice none 0 0, .int .i64 0, .int .i64 0, .int .i64 0]) (by kernel_rfl) rfl fun b10 => (so rfl (op_st (cs' := [.slice At9_0 t9_0.length ct9_0, .int .i64 t9_1, .int .i64 t9_2, .int .i64 t9_3]) 0 rfl rfl rfl rfl rfl rfl (sv (EV.as rfl) rfl (re (pr [0, 1, 2, 3, 10, 11] [0] [0, 1, 2, 6] rfl rfl rfl rfl (gs (rg (sv (EV.mv rfl) rfl ?_))))))))))))
    revert H; refine bdI ?_; rintro t10 A10 H
    refine so rfl (op_call (laws_toRowS.ok k l1 Al1 cl1 _ A10) [⟨0, 0, 0, false⟩] 9 rfl rfl rfl rfl rfl ?_)
    rintro _ _ _ ⟨At10, ct10, rfl, rfl, rfl⟩
    refine sv (EV.as rfl) rfl (re (gs (rg (sv (EV.mv rfl) rfl ?_))))
    revert H; refine bdI ?_; rintro t11 A11 H
    refine so rfl (op_call (laws_toRowS.ok k l2 Al2 cl2 _ A11) [⟨1, 0, 0, false⟩] 11 rfl rfl rfl rfl rfl ?_)
    rintro _ _ _ ⟨At11, ct11, rfl, rfl, rfl⟩
    refine sv (EV.as rfl) rfl (re (gs (rg (sv (EV.mv rfl) rfl ?_))))
    revert H; refine bdI ?_; rintro t12 A12 H
    refine so rfl (op_call (laws_toIntS.ok k l3 Al3 cl3 _ A12) [⟨2, 0, 0, false⟩] 13 rfl rfl rfl rfl rfl ?_)
    rintro _ _ _ ⟨At12, ct12, rfl, rfl, rfl⟩
    refine sv (EV.as rfl) rfl (re (pr [0, 1, 2, 3, 10, 11, 12, 13, 14] [0] [0, 1, 2, 3, 4, 5, 6] rfl rfl rfl rfl (gs (rg (sv (EV.mv rfl) rfl (sv (EV.mv rfl) rfl (sv (EV.mv rfl) rfl (sv (EV.mv rfl) rfl ?_))))))))
    revert H; refine bdI ?_; rintro ⟨t13_0, t13_1, t13_2, t13_3, t13_4⟩ A13 H
    refine so rfl (op_call (impl_RunJoin.ok k a0 t10 At10 ct10 t11 At11 ct11 t12 At12 ct12 _ _ _ _ _ A13) [⟨4, 0, 0, false⟩, ⟨5, 0, 0, false⟩, ⟨6, 0, 0, false⟩] 15 rfl rfl rfl rfl rfl ?_)
    rintro _ _ _ ⟨At13_0, ct13_0, rfl, rfl, rfl⟩
    refine sv (EV.mv rfl) rfl (sv (EV.ex rfl rfl) rfl (sv (EV.ex rfl rfl) rfl (so rfl (op_alloc (cs := [.slice none 0 0, .int .i64 0, .int .i64 0, .int .i64 0]) (by kernel_rfl) rfl fun b15 => (so rfl (op_st (cs' := [.slice At13_0 t13_0.length ct13_0, .int .i64 t13_1, .int .i64 t13_2, .int .i64 t13_3]) 1 rfl rfl rfl rfl rfl rfl (sv (EV.as rfl) rfl (re (pr [0, 1, 2, 3, 10, 11, 12, 13, 14, 15, 16] [0, 1] [0, 1, 2, 3, 4, 5, 6, 7] rfl rfl rfl rfl (gs (gs (rg (sv (EV.ld (v := .agg #[.slice At13_0 t13_0.length ct13_0, .int .i64 t13_1, .int .i64 t13_2, .int .i64 t13_3]) 1 (some 4) rfl rfl rfl) rfl (sv (EV.ld (v := .agg #[.slice At9_0 t9_0.length ct9_0, .int .i64 t9_1, .int .i64 t9_2, .int .i64 t9_3]) 0 (some 4) rfl rfl rfl) rfl ?_))))))))))))))
    revert H; refine bdI ?_; rintro t14 A14 H
    refine so rfl (op_call (laws_eqJoinResult.ok k t13_0 At13_0 ct13_0 t13_1 t13_2 t13_3 t9_0 At9_0 ct9_0 t9_1 t9_2 t9_3 _ A14) [⟨7, 0, 0, false⟩, ⟨3, 0, 0, false⟩] 17 rfl rfl rfl rfl rfl ?_)
    rintro _ _ _ ⟨rfl, rfl, rfl⟩
    refine sv (EV.nt rfl) rfl (sv (EV.mv rfl) rfl ?_)
    revert H; refine ifsI ?_ ?_ <;> intro c15 H
    ·
     subst c15
     refine ts 64 rfl rfl (sv (EV.mv rfl) rfl (sv (EV.mv rfl) rfl (sv (EV.neb rfl rfl) rfl (sv (EV.pf rfl rfl rfl) rfl (re (pr [0, 1, 2, 3, 10, 11, 12, 13, 14, 15, 16, 68] [0, 1] [0, 1, 2, 3, 4, 5, 6, 7] rfl rfl rfl rfl ?_))))))
     revert H; refine ifsI ?_ ?_ <;> intro c16 H
     ·
      refine gf rfl (bN c16) (gk (gs (gs (rg (sv (EV.mv rfl) rfl (sv (EV.mv rfl) rfl ?_))))))
      revert H; refine bdI ?_; rintro t17 A17 H
      refine so rfl (op_call (laws_toRowS.ok k l1 Al1 cl1 _ A17) [⟨0, 0, 0, false⟩] 17 rfl rfl rfl rfl rfl ?_)
      rintro _ _ _ ⟨At17, ct17, rfl, rfl, rfl⟩
      revert H; refine bdI ?_; rintro t18 A18 H
      refine so rfl (op_call (laws_eqRowS.ok k t10 At10 ct10 t17 At17 ct17 _ A18) [⟨4, 0, 0, false⟩, ⟨8, 0, 0, false⟩] 19 rfl rfl rfl rfl rfl ?_)
      rintro _ _ _ ⟨rfl, rfl, rfl⟩
      refine sv (EV.nt rfl) rfl (re ?_)
      revert H; refine ifsI ?_ ?_ <;> intro c19 H
      ·
       subst c19
       refine gf rfl rfl (gk (gs (gs (rg (sv (EV.mv rfl) rfl (sv (EV.mv rfl) rfl ?_))))))
       revert H; refine bdI ?_; rintro t20 A20 H
       refine so rfl (op_call (laws_toRowS.ok k l2 Al2 cl2 _ A20) [⟨1, 0, 0, false⟩] 19 rfl rfl rfl rfl rfl ?_)
       rintro _ _ _ ⟨At20, ct20, rfl, rfl, rfl⟩
       revert H; refine bdI ?_; rintro t21 A21 H
       refine so rfl (op_call (laws_eqRowS.ok k t11 At11 ct11 t20 At20 ct20 _ A21) [⟨5, 0, 0, false⟩, ⟨9, 0, 0, false⟩] 21 rfl rfl rfl rfl rfl ?_)
       rintro _ _ _ ⟨rfl, rfl, rfl⟩
       refine sv (EV.nt rfl) rfl (re (pr [0, 1, 2, 3, 10, 11, 12, 13, 14, 15, 16, 78] [0, 1] [0, 1, 2, 3, 4, 5, 6, 7] rfl rfl rfl rfl ?_))
       revert H; refine ifsI ?_ ?_ <;> intro c22 H
       ·
        subst c22
        refine gf rfl rfl (gk (gs (gs (rg (sv (EV.mv rfl) rfl (sv (EV.mv rfl) rfl ?_))))))
        revert H; refine bdI ?_; rintro t23 A23 H
        refine so rfl (op_call (laws_toIntS.ok k l3 Al3 cl3 _ A23) [⟨2, 0, 0, false⟩] 17 rfl rfl rfl rfl rfl ?_)
        rintro _ _ _ ⟨At23, ct23, rfl, rfl, rfl⟩
        revert H; refine bdI ?_; rintro t24 A24 H
        refine so rfl (op_call (laws_eqIntS.ok k t12 At12 ct12 t23 At23 ct23 _ A24) [⟨6, 0, 0, false⟩, ⟨8, 0, 0, false⟩] 19 rfl rfl rfl rfl rfl ?_)
        rintro _ _ _ ⟨rfl, rfl, rfl⟩
        refine sv (EV.nt rfl) rfl (re ?_)
        revert H; refine ifsI ?_ ?_ <;> intro c25 H
        ·
         subst c25
         refine gf rfl rfl (gk (gs (rg (sv (EV.as rfl) rfl (re (pr [0, 1, 2, 3, 10, 11, 12, 13, 14, 15, 16, 17] [0, 1] [0, 1, 2, 3, 4, 5, 6, 7] rfl rfl rfl rfl (gs (rg (sv (EV.mv rfl) rfl (sv (EV.mv rfl) rfl ?_))))))))))
         revert H; refine bdI ?_; rintro ⟨t26_0, t26_1⟩ A26 H
         refine so rfl (op_callM (laws_markRowS.ok k t10 At10 ct10 1 _ _ A26) [⟨4, 1, 1, false⟩] [] [0, 1] 17 rfl rfl rfl rfl rfl rfl rfl rfl ?_)
         rintro _ _ _ ⟨rfl, rfl, rfl, q26_0⟩
         refine rlT 12 (v' := .slice At10 t26_1.length ct10) rfl (slq _ _ q26_0) (rlT 84 (v' := .slice At10 t26_1.length ct10) rfl (slq _ _ q26_0) (nmE (en := [.sl 0 k79 Al1 cl1 l1 0 false, .sl 0 k79 Al2 cl2 l2 0 false, .sl 0 (.int .i64) Al3 cl3 l3 0 false, .sl 2 k99 At9_0 ct9_0 t9_0 8 true, .sl 2 k77 At11 ct11 t11 12 true, .sl 2 (.int .i64) At12 ct12 t12 14 true, .sl 2 k99 At13_0 ct13_0 t13_0 16 true, .sl 1 k77 At10 ct10 t26_1 18 false]) (by kernel_rfl) (sv (EV.as rfl) rfl (re (gs (rg (sv (EV.mv rfl) rfl (sv (EV.mv rfl) rfl ?_))))))))
         revert H; refine bdI ?_; rintro ⟨t27_0, t27_1⟩ A27 H
         refine so rfl (op_callM (laws_markRowS.ok k t11 At11 ct11 t26_0 _ _ A27) [⟨4, 1, 1, false⟩] [] [0, 1] 19 rfl rfl rfl rfl rfl rfl rfl rfl ?_)
         rintro _ _ _ ⟨rfl, rfl, rfl, q27_0⟩
         refine rlT 13 (v' := .slice At11 t27_1.length ct11) rfl (slq _ _ q27_0) (rlT 87 (v' := .slice At11 t27_1.length ct11) rfl (slq _ _ q27_0) (nmE (en := [.sl 0 k79 Al1 cl1 l1 0 false, .sl 0 k79 Al2 cl2 l2 0 false, .sl 0 (.int .i64) Al3 cl3 l3 0 false, .sl 2 k99 At9_0 ct9_0 t9_0 8 true, .sl 2 (.int .i64) At12 ct12 t12 14 true, .sl 2 k99 At13_0 ct13_0 t13_0 16 true, .sl 1 k77 At10 ct10 t26_1 18 false, .sl 1 k77 At11 ct11 t27_1 20 false]) (by kernel_rfl) (sv (EV.as rfl) rfl (re (pr [0, 1, 2, 3, 10, 11, 14, 15, 16, 17] [0, 1] [0, 1, 2, 3, 4, 5] rfl rfl rfl rfl (gs (rg (sv (EV.mv rfl) rfl (sv (EV.mv rfl) rfl ?_)))))))))
         revert H; refine bdI ?_; rintro ⟨t28_0, t28_1⟩ A28 H
         refine so rfl (op_callM (laws_markIntS.ok k t12 At12 ct12 t27_0 _ _ A28) [⟨4, 1, 1, false⟩] [] [0, 1] 17 rfl rfl rfl rfl rfl rfl rfl rfl ?_)
         rintro _ _ _ ⟨rfl, rfl, rfl, q28_0⟩
         refine rlT 14 (v' := .slice At12 t28_1.length ct12) rfl (slq _ _ q28_0) (rlT 90 (v' := .slice At12 t28_1.length ct12) rfl (slq _ _ q28_0) (nmE (en := [.sl 0 k79 Al1 cl1 l1 0 false, .sl 0 k79 Al2 cl2 l2 0 false, .sl 0 (.int .i64) Al3 cl3 l3 0 false, .sl 2 k99 At9_0 ct9_0 t9_0 8 true, .sl 2 k99 At13_0 ct13_0 t13_0 16 true, .sl 1 (.int .i64) At12 ct12 t28_1 18 false]) (by kernel_rfl) (sv (EV.as rfl) rfl (re (gs (gs (rg (sv (EV.mv rfl) rfl (sv (EV.lss rfl rfl) rfl (sv (EV.mv rfl) rfl ?_))))))))))
         revert H; refine ifsI ?_ ?_ <;> intro c29 H
         ·
          refine ts 95 rfl (dT c29) (sk rfl (sk rfl (sk rfl (sk rfl (sv (EV.pt rfl rfl rfl) rfl (sv (EV.mv rfl) rfl (sk rfl (sk rfl (sk rfl (sv (EV.pt rfl rfl rfl) rfl (re (pr [0, 1, 2, 3, 10, 11, 15, 105] [0, 1] [0, 1, 2, 3, 4] rfl rfl rfl rfl (gt rfl rfl (gs (rg (sv (EV.as rfl) rfl (re (pr [8] [] [] rfl rfl rfl rfl ?_))))))))))))))))))
          cases H
          exact rt Try.func8 rfl (.tmp rfl .nil) rfl [] [] rfl rfl rfl rfl rfl ⟨rfl, rfl, rfl⟩
         ·
          refine ts 95 rfl (dF c29) (sv (EV.ld (v := .agg #[.slice At13_0 t13_0.length ct13_0, .int .i64 t13_1, .int .i64 t13_2, .int .i64 t13_3]) 1 (some 4) rfl rfl rfl) rfl (sv (EV.ld (v := .agg #[.slice At9_0 t9_0.length ct9_0, .int .i64 t9_1, .int .i64 t9_2, .int .i64 t9_3]) 0 (some 4) rfl rfl rfl) rfl ?_))
          revert H; refine bdI ?_; rintro t30 A30 H
          refine so rfl (op_call (laws_eqJoinResult.ok k t13_0 At13_0 ct13_0 t13_1 t13_2 t13_3 t9_0 At9_0 ct9_0 t9_1 t9_2 t9_3 _ A30) [⟨4, 0, 0, false⟩, ⟨3, 0, 0, false⟩] 19 rfl rfl rfl rfl rfl ?_)
          rintro _ _ _ ⟨rfl, rfl, rfl⟩
          refine sv (EV.nt rfl) rfl (sv (EV.pf rfl rfl rfl) rfl (sv (EV.mv rfl) rfl ?_))
          revert H; refine ifsI ?_ ?_ <;> intro c31 H
          ·
           subst c31
           refine ts 101 rfl rfl (sv (EV.mv rfl) rfl (sv (EV.mv rfl) rfl (sv (EV.neb rfl rfl) rfl (sv (EV.pf rfl rfl rfl) rfl (re (pr [0, 1, 2, 3, 10, 11, 15, 105] [0, 1] [0, 1, 2, 3, 4] rfl rfl rfl rfl (gf rfl (bN c16) (gk (gs (rg (sv (EV.as rfl) rfl (re (gs (rg (sv (EV.ld (v := .agg #[.slice At13_0 t13_0.length ct13_0, .int .i64 t13_1, .int .i64 t13_2, .int .i64 t13_3]) 1 (some 4) rfl rfl rfl) rfl (sv (EV.mv rfl) rfl ?_))))))))))))))))
           revert H; refine bdI ?_; rintro ⟨t32_0, t32_1⟩ A32 H
           refine so rfl (op_callM (laws_markJoinResult.ok k t13_0 At13_0 ct13_0 t13_1 t13_2 t13_3 1 _ _ A32) [⟨4, 1, 1, false⟩] [] [0, 1] 17 rfl rfl rfl rfl rfl rfl rfl rfl ?_)
           rintro _ _ _ ⟨rfl, rfl, rfl, q32_0⟩
           refine rlT 106 (v' := .agg #[.slice At13_0 t32_1.length ct13_0, .int .i64 t13_1, .int .i64 t13_2, .int .i64 t13_3]) rfl (by simp only [q32_0]) (rlB 1 (cs' := [.slice At13_0 t32_1.length ct13_0, .int .i64 t13_1, .int .i64 t13_2, .int .i64 t13_3]) rfl (by simp only [q32_0]) (nmE (en := [.sl 0 k79 Al1 cl1 l1 0 false, .sl 0 k79 Al2 cl2 l2 0 false, .sl 0 (.int .i64) Al3 cl3 l3 0 false, .sl 2 k99 At9_0 ct9_0 t9_0 8 true, .sl 1 k99 At13_0 ct13_0 t32_1 18 false]) (by kernel_rfl) (sv (EV.as rfl) rfl (re (gs (rg (sv (EV.as rfl) rfl (re (gs (rg (sv (EV.ld (v := .agg #[.slice At13_0 t32_1.length ct13_0, .int .i64 t13_1, .int .i64 t13_2, .int .i64 t13_3]) 1 (some 4) rfl rfl rfl) rfl (sv (EV.mv rfl) rfl ?_))))))))))))
           revert H; refine bdI ?_; rintro t33 A33 H
           refine so rfl (op_call (laws_heldJoinResult.ok k t32_1 At13_0 ct13_0 t13_1 t13_2 t13_3 1 _ A33) [⟨4, 0, 0, false⟩] 19 rfl rfl rfl rfl rfl ?_)
           rintro _ _ _ ⟨rfl, rfl, rfl⟩
           refine sv (EV.as rfl) rfl (re (pr [0, 1, 2, 3, 10, 11, 15, 18, 19] [0, 1] [0, 1, 2, 3, 4] rfl rfl rfl rfl (gs (gs (rg (sv (EV.mv rfl) rfl (sv (EV.lss rfl rfl) rfl (re ?_))))))))
           revert H; refine ifsI ?_ ?_ <;> intro c34 H
           ·
            refine gt rfl (dT c34) (gs (rg (sv (EV.as rfl) rfl (re (pr [8] [] [] rfl rfl rfl rfl ?_)))))
            cases H
            exact rt Try.func8 rfl (.tmp rfl .nil) rfl [] [] rfl rfl rfl rfl rfl ⟨rfl, rfl, rfl⟩
           ·
            refine gf rfl (dF c34) (gk (gs (gs (rg (sv (EV.mv rfl) rfl (sv (EV.mv rfl) rfl (sv (EV.neq rfl rfl) rfl (re ?_))))))))
            revert H; refine ifsI ?_ ?_ <;> intro c35 H
            ·
             refine gf rfl (nF c35) (gk (gs (rg (sv (EV.mv rfl) rfl (sv (EV.mv rfl) rfl ?_)))))
             revert H; refine bdI ?_; rintro t36 A36 H
             refine so rfl (op_call (laws_toRowS.ok k l1 Al1 cl1 _ A36) [⟨0, 0, 0, false⟩] 19 rfl rfl rfl rfl rfl ?_)
             rintro _ _ _ ⟨At36, ct36, rfl, rfl, rfl⟩
             refine sv (EV.mv rfl) rfl ?_
             revert H; refine bdI ?_; rintro t37 A37 H
             refine so rfl (op_call (laws_toRowS.ok k l2 Al2 cl2 _ A37) [⟨1, 0, 0, false⟩] 21 rfl rfl rfl rfl rfl ?_)
             rintro _ _ _ ⟨At37, ct37, rfl, rfl, rfl⟩
             refine sv (EV.mv rfl) rfl ?_
             revert H; refine bdI ?_; rintro t38 A38 H
             refine so rfl (op_call (laws_toIntS.ok k l3 Al3 cl3 _ A38) [⟨2, 0, 0, false⟩] 23 rfl rfl rfl rfl rfl ?_)
             rintro _ _ _ ⟨At38, ct38, rfl, rfl, rfl⟩
             revert H; refine bdI ?_; rintro ⟨t39_0, t39_1, t39_2, t39_3, t39_4⟩ A39 H
             refine so rfl (op_call (impl_RunJoin.ok k a0 t36 At36 ct36 t37 At37 ct37 t38 At38 ct38 _ _ _ _ _ A39) [⟨5, 0, 0, false⟩, ⟨6, 0, 0, false⟩, ⟨7, 0, 0, false⟩] 25 rfl rfl rfl rfl rfl ?_)
             rintro _ _ _ ⟨At39_0, ct39_0, rfl, rfl, rfl⟩
             refine sv (EV.mv rfl) rfl (sv (EV.ex rfl rfl) rfl (sv (EV.ex rfl rfl) rfl (so rfl (op_alloc (cs := [.slice none 0 0, .int .i64 0, .int .i64 0, .int .i64 0]) (by kernel_rfl) rfl fun b20 => (so rfl (op_st (cs' := [.slice At39_0 t39_0.length ct39_0, .int .i64 t39_1, .int .i64 t39_2, .int .i64 t39_3]) 2 rfl rfl rfl rfl rfl rfl (sv (EV.as rfl) rfl (re (pr [10, 11, 15, 18, 20, 21] [0, 1, 2] [3, 4, 8] rfl rfl rfl rfl (gs (gs (rg (sv (EV.ld (v := .agg #[.slice At39_0 t39_0.length ct39_0, .int .i64 t39_1, .int .i64 t39_2, .int .i64 t39_3]) 2 (some 4) rfl rfl rfl) rfl (sv (EV.ld (v := .agg #[.slice At9_0 t9_0.length ct9_0, .int .i64 t9_1, .int .i64 t9_2, .int .i64 t9_3]) 0 (some 4) rfl rfl rfl) rfl ?_))))))))))))))
             revert H; refine bdI ?_; rintro t40 A40 H
             refine so rfl (op_call (laws_eqJoinResult.ok k t39_0 At39_0 ct39_0 t39_1 t39_2 t39_3 t9_0 At9_0 ct9_0 t9_1 t9_2 t9_3 _ A40) [⟨2, 0, 0, false⟩, ⟨0, 0, 0, false⟩] 27 rfl rfl rfl rfl rfl ?_)
             rintro _ _ _ ⟨rfl, rfl, rfl⟩
             refine sv (EV.nt rfl) rfl (sv (EV.mv rfl) rfl ?_)
             revert H; refine ifsI ?_ ?_ <;> intro c41 H
             ·
              subst c41
              refine ts 132 rfl rfl (sv (EV.mv rfl) rfl (sv (EV.mv rfl) rfl (sv (EV.neb rfl rfl) rfl (sv (EV.pf rfl rfl rfl) rfl (re (pr [15, 18, 136] [1] [1] rfl rfl rfl rfl ?_))))))
              revert H; refine ifsI ?_ ?_ <;> intro c42 H
              ·
               refine gf rfl (bN c42) (gk (gs (rg (sv (EV.as rfl) rfl (re (gs (rg (sv (EV.ld (v := .agg #[.slice At13_0 t32_1.length ct13_0, .int .i64 t13_1, .int .i64 t13_2, .int .i64 t13_3]) 0 (some 4) rfl rfl rfl) rfl (sv (EV.mv rfl) rfl ?_)))))))))
               revert H; refine bdI ?_; rintro t43 A43 H
               refine so rfl (op_call (laws_heldJoinResult.ok k t32_1 At13_0 ct13_0 t13_1 t13_2 t13_3 1 _ A43) [⟨0, 0, 0, false⟩] 19 rfl rfl rfl rfl rfl ?_)
               rintro _ _ _ ⟨rfl, rfl, rfl⟩
               refine sv (EV.as rfl) rfl (re (gs (gs (rg (sv (EV.mv rfl) rfl (sv (EV.lss rfl rfl) rfl (re (pr [18, 19, 141] [] [] rfl rfl rfl rfl ?_))))))))
               revert H; refine ifsI ?_ ?_ <;> intro c44 H
               ·
                refine gt rfl (dT c44) (gs (rg (sv (EV.as rfl) rfl (re ?_))))
                cases H
                exact rt Try.func8 rfl (.tmp rfl .nil) rfl [] [] rfl rfl rfl rfl rfl ⟨rfl, rfl, rfl⟩
               ·
                refine gf rfl (dF c44) (gk (gs (gs (rg (sv (EV.mv rfl) rfl (sv (EV.mv rfl) rfl (sv (EV.neq rfl rfl) rfl (re ?_))))))))
                revert H; refine ifsI ?_ ?_ <;> intro c45 H
                ·
                 refine gf rfl (nF c45) (gk (gs (rg (sv (EV.as rfl) rfl (re (pr [8] [] [] rfl rfl rfl rfl ?_))))))
                 cases H
                 exact rt Try.func8 rfl (.tmp rfl .nil) rfl [] [] rfl rfl rfl rfl rfl ⟨rfl, rfl, rfl⟩
                ·
                 refine gt rfl (nT c45) (gs (rg (sv (EV.as rfl) rfl (re (pr [8] [] [] rfl rfl rfl rfl ?_)))))
                 cases H
                 exact rt Try.func8 rfl (.tmp rfl .nil) rfl [] [] rfl rfl rfl rfl rfl ⟨rfl, rfl, rfl⟩
              ·
               refine gt rfl (bM c42) (gs (rg (sv (EV.as rfl) rfl (re ?_))))
               cases H
               exact rt Try.func8 rfl (.tmp rfl .nil) rfl [] [] rfl rfl rfl rfl rfl ⟨rfl, rfl, rfl⟩
             ·
              obtain rfl := bF c41
              refine ts 132 rfl rfl (sk rfl (sk rfl (sk rfl (sv (EV.pt rfl rfl rfl) rfl (re (pr [15, 18, 136] [1] [1] rfl rfl rfl rfl (gt rfl rfl (gs (rg (sv (EV.as rfl) rfl (re ?_)))))))))))
              cases H
              exact rt Try.func8 rfl (.tmp rfl .nil) rfl [] [] rfl rfl rfl rfl rfl ⟨rfl, rfl, rfl⟩
            ·
             refine gt rfl (nT c35) (gs (rg (sv (EV.as rfl) rfl (re (pr [8] [] [] rfl rfl rfl rfl ?_)))))
             cases H
             exact rt Try.func8 rfl (.tmp rfl .nil) rfl [] [] rfl rfl rfl rfl rfl ⟨rfl, rfl, rfl⟩
          ·
           obtain rfl := bF c31
           refine ts 101 rfl rfl (sk rfl (sk rfl (sk rfl (sv (EV.pt rfl rfl rfl) rfl (re (pr [0, 1, 2, 3, 10, 11, 15, 105] [0, 1] [0, 1, 2, 3, 4] rfl rfl rfl rfl (gt rfl rfl (gs (rg (sv (EV.as rfl) rfl (re (pr [8] [] [] rfl rfl rfl rfl ?_))))))))))))
           cases H
           exact rt Try.func8 rfl (.tmp rfl .nil) rfl [] [] rfl rfl rfl rfl rfl ⟨rfl, rfl, rfl⟩
        ·
         obtain rfl := bF c25
         refine gt rfl rfl (gs (rg (sv (EV.as rfl) rfl (re (pr [8] [] [] rfl rfl rfl rfl ?_)))))
         cases H
         exact rt Try.func8 rfl (.tmp rfl .nil) rfl [] [] rfl rfl rfl rfl rfl ⟨rfl, rfl, rfl⟩
       ·
        obtain rfl := bF c22
        refine gt rfl rfl (gs (rg (sv (EV.as rfl) rfl (re (pr [8] [] [] rfl rfl rfl rfl ?_)))))
        cases H
        exact rt Try.func8 rfl (.tmp rfl .nil) rfl [] [] rfl rfl rfl rfl rfl ⟨rfl, rfl, rfl⟩
      ·
       obtain rfl := bF c19
       refine gt rfl rfl (gs (rg (sv (EV.as rfl) rfl (re (pr [8] [] [] rfl rfl rfl rfl ?_)))))
       cases H
       exact rt Try.func8 rfl (.tmp rfl .nil) rfl [] [] rfl rfl rfl rfl rfl ⟨rfl, rfl, rfl⟩
     ·
      refine gt rfl (bM c16) (gs (rg (sv (EV.as rfl) rfl (re (pr [8] [] [] rfl rfl rfl rfl ?_)))))
      cases H
      exact rt Try.func8 rfl (.tmp rfl .nil) rfl [] [] rfl rfl rfl rfl rfl ⟨rfl, rfl, rfl⟩
    ·
     obtain rfl := bF c15
     refine ts 64 rfl rfl (sk rfl (sk rfl (sk rfl (sv (EV.pt rfl rfl rfl) rfl (re (pr [0, 1, 2, 3, 10, 11, 12, 13, 14, 15, 16, 68] [0, 1] [0, 1, 2, 3, 4, 5, 6, 7] rfl rfl rfl rfl (gt rfl rfl (gs (rg (sv (EV.as rfl) rfl (re (pr [8] [] [] rfl rfl rfl rfl ?_))))))))))))
     cases H
     exact rt Try.func8 rfl (.tmp rfl .nil) rfl [] [] rfl rfl rfl rfl rfl ⟨rfl, rfl, rfl⟩
end Go.Proofs.Ytfcebaplphpajaa.K
