/- Walks: what the functions compute. Printed by gen.py; no condition. -/
import Derived.Test.YtamjndlkompeeaaVFnJoinerTerminatione
namespace Go.Proofs.Ytamjndlkompeeaa.K
open Go Go.RowKit
set_option linter.unusedVariables false
set_option linter.unusedSimpArgs false
def impl_StepJoiner.j0 : Nat → (List S151) → Int → (List S27) → Int → Int → (List S27) → Int → Int → Int → (List S99) → (List S99) → (List Bool) → Int → Option ((List S27) × Int × Int × (List S151) × Int × Bool)
 | 0, _, _, _, _, _, _, _, _, _, _, _, _, _ => none
 | k + 1, x2_11, x2_13, x2_4_0, x2_4_1, x2_4_2, x2_8_0, x2_8_1, x2_8_2, x2_12_0, x2_12_1, x2_12_2, x2_12_3, x2_12_4 => (impl_UnmatchedRows.f k x2_12_0 x2_12_1 x2_12_2 x2_12_3 x2_12_4).bind fun t42 => (if x2_11.length + t42.length ≤ 2513169434916 then (some (x2_8_0, x2_8_1, x2_8_2, x2_11 ++ t42, x2_13, true)) else none)
def impl_StepJoiner.f (k : Nat) (l0_0 : List S27) (a0_1 : Int) (a0_2 : Int) (a1 : Int) : Option ((List S27) × Int × Int × (List S151) × Int × Bool) := (impl_cloneJoiner.f k l0_0 a0_1 a0_2).bind fun bt1 => ((impl_IsValidJoiner.f k l0_0 a0_1 a0_2).bind fun t2 => (if t2 = true then (if (l0_0.length : Int) = 0 then (some (bt1.1, bt1.2.1, bt1.2.2, [], 0, false)) else ((impl_isGrant.f a1).bind fun t5 => (if t5 = true then (if 0 < (bt1.1.length : Int) then ((impl_BuildSide.f k ((rd_T27 bt1.1 0).f0) ((rd_T27 bt1.1 0).f1) ((rd_T27 bt1.1 0).f2) ((rd_T27 bt1.1 0).f3) ((rd_T27 bt1.1 0).f4) a1).bind fun t11 => (if (((rd_T27 bt1.1 0).f1).length : Int) = 0 then (if 1 ≤ (bt1.1.length : Int) then ((impl_UnmatchedRows.f k ((rd_T27 bt1.1 0).f0) ((rd_T27 bt1.1 0).f1) ((rd_T27 bt1.1 0).f2) ((rd_T27 bt1.1 0).f3) ((rd_T27 bt1.1 0).f4)).bind fun t14 => (some (bt1.1.drop (1 : Int).toNat, bt1.2.1, bt1.2.2, t14, 0, true))) else none) else (if (((rd_T27 bt1.1 0).f2).length : Int) = 0 then (if 1 ≤ (bt1.1.length : Int) then ((impl_UnmatchedRows.f k ((rd_T27 bt1.1 0).f0) ((rd_T27 bt1.1 0).f1) ((rd_T27 bt1.1 0).f2) ((rd_T27 bt1.1 0).f3) ((rd_T27 bt1.1 0).f4)).bind fun t17 => (some (bt1.1.drop (1 : Int).toNat, bt1.2.1, bt1.2.2, t17, 0, true))) else none) else (if t11 = 0 then ((impl_NeedsNestedLoop.f k ((rd_T27 bt1.1 0).f0) ((rd_T27 bt1.1 0).f1) ((rd_T27 bt1.1 0).f2) ((rd_T27 bt1.1 0).f3) ((rd_T27 bt1.1 0).f4)).bind fun t19 => (if t19 = true then ((impl_NextChunk.f k ((rd_T27 bt1.1 0).f2) a1).bind fun bt21 => ((impl_JoinChunk.f k ((rd_T27 bt1.1 0).f0) ((rd_T27 bt1.1 0).f1) ((rd_T27 bt1.1 0).f2) ((rd_T27 bt1.1 0).f3) ((rd_T27 bt1.1 0).f4) bt21.1).bind fun bt22 => ((some (bt1.1.set (0 : Int).toNat (⟨bt22.2.1, bt22.2.2.1, bt21.2, bt22.2.2.2.2.1, bt22.2.2.2.2.2⟩ : S27))).bind fun s26 => ((impl_TotalCost.f k bt21.1).bind fun t27 => (some (s26, bt1.2.1, bt1.2.2, bt22.1, t27, true)))))) else ((impl_PartitionTask.f k ((rd_T27 bt1.1 0).f0) ((rd_T27 bt1.1 0).f1) ((rd_T27 bt1.1 0).f2) ((rd_T27 bt1.1 0).f3) ((rd_T27 bt1.1 0).f4)).bind fun bt28 => (if 1 ≤ (bt1.1.length : Int) then (if ([(⟨bt28.1, bt28.2.1, bt28.2.2.1, bt28.2.2.2.1, bt28.2.2.2.2.1⟩ : S27), (⟨bt28.2.2.2.2.2.1, bt28.2.2.2.2.2.2.1, bt28.2.2.2.2.2.2.2.1, bt28.2.2.2.2.2.2.2.2.1, bt28.2.2.2.2.2.2.2.2.2.1⟩ : S27)] : List S27).length + (bt1.1.drop (1 : Int).toNat).length ≤ 1599289640401 then ((impl_TaskCost.f k ((rd_T27 bt1.1 0).f0) ((rd_T27 bt1.1 0).f1) ((rd_T27 bt1.1 0).f2) ((rd_T27 bt1.1 0).f3) ((rd_T27 bt1.1 0).f4)).bind fun t33 => (some (([(⟨bt28.1, bt28.2.1, bt28.2.2.1, bt28.2.2.2.1, bt28.2.2.2.2.1⟩ : S27), (⟨bt28.2.2.2.2.2.1, bt28.2.2.2.2.2.2.1, bt28.2.2.2.2.2.2.2.1, bt28.2.2.2.2.2.2.2.2.1, bt28.2.2.2.2.2.2.2.2.2.1⟩ : S27)] : List S27) ++ (bt1.1.drop (1 : Int).toNat), wrap64 (bt1.2.1 + t33), wrap64 (bt1.2.2 + 1), [], 8, true))) else none) else none)))) else (if 1 ≤ (bt1.1.length : Int) then ((impl_JoinChunk.f k ((rd_T27 bt1.1 0).f0) ((rd_T27 bt1.1 0).f1) ((rd_T27 bt1.1 0).f2) ((rd_T27 bt1.1 0).f3) ((rd_T27 bt1.1 0).f4) ((rd_T27 bt1.1 0).f2)).bind fun bt39 => ((impl_TotalCost.f k ((rd_T27 bt1.1 0).f2)).bind fun t40 => (if t11 = 1 then ((impl_TotalCost.f k ((rd_T27 bt1.1 0).f1)).bind fun t46 => (impl_StepJoiner.j0 k bt39.1 t46 [] 0 0 (bt1.1.drop (1 : Int).toNat) bt1.2.1 bt1.2.2 bt39.2.1 bt39.2.2.1 bt39.2.2.2.1 bt39.2.2.2.2.1 bt39.2.2.2.2.2)) else (impl_StepJoiner.j0 k bt39.1 t40 [] 0 0 (bt1.1.drop (1 : Int).toNat) bt1.2.1 bt1.2.2 bt39.2.1 bt39.2.2.1 bt39.2.2.2.1 bt39.2.2.2.2.1 bt39.2.2.2.2.2)))) else none))))) else none) else (some (bt1.1, bt1.2.1, bt1.2.2, [], 0, false))))) else (some (bt1.1, bt1.2.1, bt1.2.2, [], 0, false))))
set_option maxHeartbeats 4000000 in
set_option maxRecDepth 100000 in
theorem impl_StepJoiner.ok (k : Nat) (l0_0 : List S27) (Al0_0 : Option Addr) (cl0_0 : Nat) (a0_1 : Int) (a0_2 : Int) (a1 : Int) (r0 : List S27) (r1 : Int) (r2 : Int) (r3 : List S151) (r4 : Int) (r5 : Bool) (H : impl_StepJoiner.f k l0_0 a0_1 a0_2 a1 = some (r0, r1, r2, r3, r4, r5)) : Fn Try.prog 118 [.agg #[.slice Al0_0 l0_0.length cl0_0, .int .i64 a0_1, .int .i64 a0_2], .int .i64 a1] [] [.sl 0 k27 Al0_0 cl0_0 l0_0 0 false] (fun v bx en => ∃ A0 c0 A3 c3, v = .tuple #[.agg #[.slice A0 r0.length c0, .int .i64 r1, .int .i64 r2], .slice A3 r3.length c3, .int .i64 r4, .bool r5] ∧ bx = [] ∧ en = [.sl 1 k27 A0 c0 r0 1 true, .sl 2 k151 A3 c3 r3 2 true]) := by
 refine fn_ 142 Try.func118 rfl rfl rfl (fun base T w0 => ?_)
 rw [impl_StepJoiner.f] at H
 refine gs (rg (so rfl (op_box (cs := [.slice Al0_0 l0_0.length cl0_0, .int .i64 a0_1, .int .i64 a0_2]) rfl rfl rfl fun b2 => (so rfl (op_alloc (cs := [.slice none 0 0, .int .i64 0, .int .i64 0]) (by kernel_rfl) rfl fun b4 => (sv (EV.as rfl) rfl (sv (EV.as rfl) rfl (sv (EV.as rfl) rfl (re (gs (rg (sv (EV.ld (v := .agg #[.slice Al0_0 l0_0.length cl0_0, .int .i64 a0_1, .int .i64 a0_2]) 0 (some 3) rfl rfl rfl) rfl ?_))))))))))))
 revert H; refine bdI ?_; rintro ⟨t1_0, t1_1, t1_2⟩ A1 H
 refine so rfl (op_call (impl_cloneJoiner.ok k l0_0 Al0_0 cl0_0 a0_1 a0_2 _ _ _ A1) [⟨0, 0, 0, false⟩] 1 rfl rfl rfl rfl rfl ?_)
 rintro _ _ _ ⟨At1_0, ct1_0, rfl, rfl, rfl⟩
 refine so rfl (op_alloc (cs := [.slice none 0 0, .int .i64 0, .int .i64 0]) (by kernel_rfl) rfl fun b8 => (so rfl (op_st (cs' := [.slice At1_0 t1_0.length ct1_0, .int .i64 t1_1, .int .i64 t1_2]) 2 rfl rfl rfl rfl rfl rfl (re (pr [1, 2, 4, 8] [0, 1, 2] [0, 1] rfl rfl rfl rfl (gs (gs (rg (sv (EV.ld (v := .agg #[.slice Al0_0 l0_0.length cl0_0, .int .i64 a0_1, .int .i64 a0_2]) 0 (some 3) rfl rfl rfl) rfl ?_)))))))))
 revert H; refine bdI ?_; rintro t2 A2 H
 refine so rfl (op_call (impl_IsValidJoiner.ok k l0_0 Al0_0 cl0_0 a0_1 a0_2 _ A2) [⟨0, 0, 0, false⟩] 3 rfl rfl rfl rfl rfl ?_)
 rintro _ _ _ ⟨rfl, rfl, rfl⟩
 refine sv (EV.nt rfl) rfl (sv (EV.mv rfl) rfl ?_)
 revert H; refine ifsI ?_ ?_ <;> intro c3 H
 ·
  subst c3
  refine ts 26 rfl rfl (sv (EV.fa 0 rfl) rfl (sv (EV.ld 0 none rfl rfl rfl) rfl (sv (EV.ln rfl) rfl (sv (EV.eql rfl rfl) rfl (sv (EV.pf rfl rfl rfl) rfl (sv (EV.mv rfl) rfl ?_))))))
  revert H; refine ifsI ?_ ?_ <;> intro c4 H
  ·
   refine ts 32 rfl (dT c4) (sk rfl (sk rfl (sk rfl (sv (EV.pt rfl rfl rfl) rfl (re (pr [1, 4, 8, 36] [1, 2] [1] rfl rfl rfl rfl (gt rfl rfl (gs (rg (sv (EV.ld (v := .agg #[.slice At1_0 t1_0.length ct1_0, .int .i64 t1_1, .int .i64 t1_2]) 1 (some 3) rfl rfl rfl) rfl (so rfl (op_st (cs' := [.slice At1_0 t1_0.length ct1_0, .int .i64 t1_1, .int .i64 t1_2]) 0 rfl rfl rfl rfl rfl rfl (sv (EV.as rfl) rfl (sv (EV.as rfl) rfl (sv (EV.as rfl) rfl (re (nil_ k151 3 dq ?_)))))))))))))))))
   cases H
   exact rt Try.func118 rfl (.cell 0 (some 3) rfl rfl rfl (.tmp rfl (.tmp rfl (.tmp rfl .nil)))) rfl [] [⟨0, 1, 1, true⟩, ⟨1, 2, 2, true⟩] rfl rfl rfl rfl rfl ⟨_, _, _, _, rfl, rfl, rfl⟩
  ·
   refine ts 32 rfl (dF c4) (sv (EV.mv rfl) rfl ?_)
   revert H; refine bdI ?_; rintro t5 A5 H
   refine so rfl (op_call (impl_isGrant.ok a1 _ A5) [] 3 rfl rfl rfl rfl rfl ?_)
   rintro _ _ _ ⟨rfl, rfl, rfl⟩
   refine sv (EV.nt rfl) rfl (sv (EV.pf rfl rfl rfl) rfl (re (pr [1, 4, 8, 36] [1, 2] [1] rfl rfl rfl rfl ?_)))
   revert H; refine ifsI ?_ ?_ <;> intro c6 H
   ·
    subst c6
    refine gf rfl rfl (gk (gs (rg (sv (EV.fa 0 rfl) rfl (sv (EV.ld 1 none rfl rfl rfl) rfl ?_)))))
    revert H; refine ggI ?_; intro g7 H
    refine sv (EV.ix 0 rfl rfl rfl dq g7 rfl) rfl (opn (i := 0) 0 z27 rfl dq g7 fun A_8 c_8 A_9 c_9 A_10 c_10 => (sv (EV.lc (v := .agg #[.int .i64 ((rd_T27 t1_0 0).f0), .slice A_8 ((rd_T27 t1_0 0).f1).length c_8, .slice A_9 ((rd_T27 t1_0 0).f2).length c_9, .slice A_10 ((rd_T27 t1_0 0).f3).length c_10, .int .i64 ((rd_T27 t1_0 0).f4)]) 0 (some 5) 1 rfl rfl rfl rfl) rfl (so rfl (op_alloc (cs := [.int .i64 0, .slice none 0 0, .slice none 0 0, .slice none 0 0, .int .i64 0]) (by kernel_rfl) rfl fun b9 => (so rfl (op_st (cs' := [.int .i64 ((rd_T27 t1_0 0).f0), .slice A_8 ((rd_T27 t1_0 0).f1).length c_8, .slice A_9 ((rd_T27 t1_0 0).f2).length c_9, .slice A_10 ((rd_T27 t1_0 0).f3).length c_10, .int .i64 ((rd_T27 t1_0 0).f4)]) 2 rfl rfl rfl rfl rfl rfl (re (gs (rg (sv (EV.ld (v := .agg #[.int .i64 ((rd_T27 t1_0 0).f0), .slice A_8 ((rd_T27 t1_0 0).f1).length c_8, .slice A_9 ((rd_T27 t1_0 0).f2).length c_9, .slice A_10 ((rd_T27 t1_0 0).f3).length c_10, .int .i64 ((rd_T27 t1_0 0).f4)]) 2 (some 5) rfl rfl rfl) rfl (sv (EV.mv rfl) rfl ?_)))))))))))
    revert H; refine bdI ?_; rintro t11 A11 H
    refine so rfl (op_call (impl_BuildSide.ok k ((rd_T27 t1_0 0).f0) ((rd_T27 t1_0 0).f1) A_8 c_8 ((rd_T27 t1_0 0).f2) A_9 c_9 ((rd_T27 t1_0 0).f3) A_10 c_10 ((rd_T27 t1_0 0).f4) a1 _ A11) [⟨2, 0, 0, false⟩, ⟨3, 0, 0, false⟩, ⟨4, 0, 0, false⟩] 3 rfl rfl rfl rfl rfl ?_)
    rintro _ _ _ ⟨rfl, rfl, rfl⟩
    refine sv (EV.as rfl) rfl (re (pr [1, 4, 8, 9, 10] [0, 1, 2] [0, 1, 2, 3, 4] rfl rfl rfl rfl (gs (gb (gs (rg (sv (EV.fa 1 rfl) rfl (sv (EV.ld 2 none rfl rfl rfl) rfl (sv (EV.ln rfl) rfl (sv (EV.eql rfl rfl) rfl (sv (EV.mv rfl) rfl ?_)))))))))))
    revert H; refine ifsI ?_ ?_ <;> intro c12 H
    ·
     refine ts 50 rfl (dT c12) (sk rfl (sk rfl (sk rfl (sk rfl (sv (EV.pt rfl rfl rfl) rfl (sv (EV.as rfl) rfl (re (pr [1, 4, 8, 9, 10, 45] [0, 1, 2] [0, 1, 2, 3, 4] rfl rfl rfl rfl (gt rfl rfl (gs (rg (sv (EV.fa 0 rfl) rfl (sv (EV.ld 1 none rfl rfl rfl) rfl ?_)))))))))))))
     revert H; refine ggI ?_; intro g13 H
     refine cutp (l' := t1_0.drop (1 : Int).toNat) 1 (t1_0.length : Int) 0 rfl dq g13 (Int.le_refl _) rfl 1 dq (.inl dq) ctl (sv (EV.ct 1 (t1_0.length : Int) 0 rfl rfl rfl rfl dq g13 (Int.le_refl _) rfl rfl ctnl) rfl (sv (EV.fa 0 rfl) rfl (so rfl (op_st (cs' := [.slice (cutA At1_0 ct1_0 (1 : Int).toNat 5) (t1_0.drop (1 : Int).toNat).length (ct1_0 - (1 : Int).toNat), .int .i64 t1_1, .int .i64 t1_2]) 1 rfl rfl rfl rfl rfl rfl (re (pr [4, 8, 9] [0, 1, 2] [2, 3, 4, 5] rfl rfl rfl rfl (gs (dr [1, 2] [0, 1, 2, 3] [4, 5, 6] 7 rfl rfl rfl rfl (xv 0 [1, 2] [0, 1, 2, 3] rfl (EV.ld (v := .agg #[.slice (cutA At1_0 ct1_0 (1 : Int).toNat 5) (t1_0.drop (1 : Int).toNat).length (ct1_0 - (1 : Int).toNat), .int .i64 t1_1, .int .i64 t1_2]) 0 (some 3) rfl rfl rfl) rfl rfl rfl rfl (xv 1 [1, 2] [0, 1, 2, 3] rfl (EV.ld (v := .agg #[.int .i64 ((rd_T27 t1_0 0).f0), .slice A_8 ((rd_T27 t1_0 0).f1).length c_8, .slice A_9 ((rd_T27 t1_0 0).f2).length c_9, .slice A_10 ((rd_T27 t1_0 0).f3).length c_10, .int .i64 ((rd_T27 t1_0 0).f4)]) 1 (some 5) rfl rfl rfl) rfl rfl rfl rfl (one1 2 rfl rfl ?_)))))))))))
     revert H; refine bdI ?_; rintro t14 A14 H
     refine op_call (impl_UnmatchedRows.ok k ((rd_T27 t1_0 0).f0) ((rd_T27 t1_0 0).f1) A_8 c_8 ((rd_T27 t1_0 0).f2) A_9 c_9 ((rd_T27 t1_0 0).f3) A_10 c_10 ((rd_T27 t1_0 0).f4) _ A14) [⟨0, 0, 0, false⟩, ⟨1, 0, 0, false⟩, ⟨2, 0, 0, false⟩] 3 rfl rfl rfl rfl rfl ?_
     rintro _ _ _ ⟨At14, ct14, rfl, rfl, rfl⟩
     refine xs [1, 2] [0, 1, 2, 3] rfl rfl rfl (one1 3 rfl rfl (op_st (cs' := [.slice (cutA At1_0 ct1_0 (1 : Int).toNat 5) (t1_0.drop (1 : Int).toNat).length (ct1_0 - (1 : Int).toNat), .int .i64 t1_1, .int .i64 t1_2]) 0 rfl rfl rfl rfl rfl rfl (xs [1, 2] [0, 1, 2, 3] rfl rfl rfl (one1 4 rfl rfl (ov (EV.as rfl) rfl (xn rfl (one1 5 rfl rfl (ov (EV.as rfl) rfl (xn rfl (one1 6 rfl rfl (ov (EV.as rfl) rfl (xn rfl (xd ?_)))))))))))))
     cases H
     exact rt Try.func118 rfl (.cell 0 (some 3) rfl rfl rfl (.tmp rfl (.tmp rfl (.tmp rfl .nil)))) rfl [] [⟨3, 1, 1, true⟩, ⟨4, 2, 2, true⟩] rfl rfl rfl rfl rfl ⟨_, _, _, _, rfl, rfl, rfl⟩
    ·
     refine ts 50 rfl (dF c12) (sv (EV.fa 2 rfl) rfl (sv (EV.ld 2 none rfl rfl rfl) rfl (sv (EV.ln rfl) rfl (sv (EV.eql rfl rfl) rfl (sv (EV.pf rfl rfl rfl) rfl (sv (EV.as rfl) rfl (re (pr [1, 4, 8, 9, 10, 45] [0, 1, 2] [0, 1, 2, 3, 4] rfl rfl rfl rfl ?_))))))))
     revert H; refine ifsI ?_ ?_ <;> intro c15 H
     ·
      refine gt rfl (dT c15) (gs (rg (sv (EV.fa 0 rfl) rfl (sv (EV.ld 1 none rfl rfl rfl) rfl ?_))))
      revert H; refine ggI ?_; intro g16 H
      refine cutp (l' := t1_0.drop (1 : Int).toNat) 1 (t1_0.length : Int) 0 rfl dq g16 (Int.le_refl _) rfl 1 dq (.inl dq) ctl (sv (EV.ct 1 (t1_0.length : Int) 0 rfl rfl rfl rfl dq g16 (Int.le_refl _) rfl rfl ctnl) rfl (sv (EV.fa 0 rfl) rfl (so rfl (op_st (cs' := [.slice (cutA At1_0 ct1_0 (1 : Int).toNat 5) (t1_0.drop (1 : Int).toNat).length (ct1_0 - (1 : Int).toNat), .int .i64 t1_1, .int .i64 t1_2]) 1 rfl rfl rfl rfl rfl rfl (re (pr [4, 8, 9] [0, 1, 2] [2, 3, 4, 5] rfl rfl rfl rfl (gs (dr [1, 2] [0, 1, 2, 3] [4, 5, 6] 7 rfl rfl rfl rfl (xv 0 [1, 2] [0, 1, 2, 3] rfl (EV.ld (v := .agg #[.slice (cutA At1_0 ct1_0 (1 : Int).toNat 5) (t1_0.drop (1 : Int).toNat).length (ct1_0 - (1 : Int).toNat), .int .i64 t1_1, .int .i64 t1_2]) 0 (some 3) rfl rfl rfl) rfl rfl rfl rfl (xv 1 [1, 2] [0, 1, 2, 3] rfl (EV.ld (v := .agg #[.int .i64 ((rd_T27 t1_0 0).f0), .slice A_8 ((rd_T27 t1_0 0).f1).length c_8, .slice A_9 ((rd_T27 t1_0 0).f2).length c_9, .slice A_10 ((rd_T27 t1_0 0).f3).length c_10, .int .i64 ((rd_T27 t1_0 0).f4)]) 1 (some 5) rfl rfl rfl) rfl rfl rfl rfl (one1 2 rfl rfl ?_)))))))))))
      revert H; refine bdI ?_; rintro t17 A17 H
      refine op_call (impl_UnmatchedRows.ok k ((rd_T27 t1_0 0).f0) ((rd_T27 t1_0 0).f1) A_8 c_8 ((rd_T27 t1_0 0).f2) A_9 c_9 ((rd_T27 t1_0 0).f3) A_10 c_10 ((rd_T27 t1_0 0).f4) _ A17) [⟨0, 0, 0, false⟩, ⟨1, 0, 0, false⟩, ⟨2, 0, 0, false⟩] 3 rfl rfl rfl rfl rfl ?_
      rintro _ _ _ ⟨At17, ct17, rfl, rfl, rfl⟩
      refine xs [1, 2] [0, 1, 2, 3] rfl rfl rfl (one1 3 rfl rfl (op_st (cs' := [.slice (cutA At1_0 ct1_0 (1 : Int).toNat 5) (t1_0.drop (1 : Int).toNat).length (ct1_0 - (1 : Int).toNat), .int .i64 t1_1, .int .i64 t1_2]) 0 rfl rfl rfl rfl rfl rfl (xs [1, 2] [0, 1, 2, 3] rfl rfl rfl (one1 4 rfl rfl (ov (EV.as rfl) rfl (xn rfl (one1 5 rfl rfl (ov (EV.as rfl) rfl (xn rfl (one1 6 rfl rfl (ov (EV.as rfl) rfl (xn rfl (xd ?_)))))))))))))
      cases H
      exact rt Try.func118 rfl (.cell 0 (some 3) rfl rfl rfl (.tmp rfl (.tmp rfl (.tmp rfl .nil)))) rfl [] [⟨3, 1, 1, true⟩, ⟨4, 2, 2, true⟩] rfl rfl rfl rfl rfl ⟨_, _, _, _, rfl, rfl, rfl⟩
     ·
      refine gf rfl (dF c15) (gs (rg (sv (EV.mv rfl) rfl (sv (EV.neq rfl rfl) rfl (sv (EV.as rfl) rfl (re ?_))))))
      revert H; refine ifsI ?_ ?_ <;> intro c18 H
      ·
       refine gf rfl (nF c18) (gs (rg (sv (EV.ld (v := .agg #[.int .i64 ((rd_T27 t1_0 0).f0), .slice A_8 ((rd_T27 t1_0 0).f1).length c_8, .slice A_9 ((rd_T27 t1_0 0).f2).length c_9, .slice A_10 ((rd_T27 t1_0 0).f3).length c_10, .int .i64 ((rd_T27 t1_0 0).f4)]) 2 (some 5) rfl rfl rfl) rfl ?_)))
       revert H; refine bdI ?_; rintro t19 A19 H
       refine so rfl (op_call (impl_NeedsNestedLoop.ok k ((rd_T27 t1_0 0).f0) ((rd_T27 t1_0 0).f1) A_8 c_8 ((rd_T27 t1_0 0).f2) A_9 c_9 ((rd_T27 t1_0 0).f3) A_10 c_10 ((rd_T27 t1_0 0).f4) _ A19) [⟨2, 0, 0, false⟩, ⟨3, 0, 0, false⟩, ⟨4, 0, 0, false⟩] 3 rfl rfl rfl rfl rfl ?_)
       rintro _ _ _ ⟨rfl, rfl, rfl⟩
       refine sv (EV.as rfl) rfl (re (pr [1, 4, 8, 9, 91] [0, 1, 2] [0, 1, 2, 3, 4] rfl rfl rfl rfl ?_))
       revert H; refine ifsI ?_ ?_ <;> intro c20 H
       ·
        subst c20
        refine gt rfl rfl (gs (rg (sv (EV.fa 2 rfl) rfl (sv (EV.ld 2 none rfl rfl rfl) rfl (sv (EV.mv rfl) rfl ?_)))))
        revert H; refine bdI ?_; rintro ⟨t21_0, t21_1⟩ A21 H
        refine so rfl (op_call (impl_NextChunk.ok k ((rd_T27 t1_0 0).f2) A_9 c_9 a1 _ _ A21) [⟨3, 0, 0, false⟩] 3 rfl rfl rfl rfl rfl ?_)
        rintro _ _ _ ⟨At21_0, ct21_0, At21_1, ct21_1, rfl, rfl, rfl⟩
        refine sv (EV.mv rfl) rfl (sv (EV.ex rfl rfl) rfl (sv (EV.ex rfl rfl) rfl (sv (EV.as rfl) rfl (sv (EV.as rfl) rfl (re (pr [4, 8, 9, 14, 15] [0, 1, 2] [0, 1, 2, 3, 4, 5, 6] rfl rfl rfl rfl (gs (rg (sv (EV.ld (v := .agg #[.int .i64 ((rd_T27 t1_0 0).f0), .slice A_8 ((rd_T27 t1_0 0).f1).length c_8, .slice A_9 ((rd_T27 t1_0 0).f2).length c_9, .slice A_10 ((rd_T27 t1_0 0).f3).length c_10, .int .i64 ((rd_T27 t1_0 0).f4)]) 2 (some 5) rfl rfl rfl) rfl (sv (EV.mv rfl) rfl ?_))))))))))
        revert H; refine bdI ?_; rintro ⟨t22_0, t22_1, t22_2, t22_3, t22_4, t22_5⟩ A22 H
        refine so rfl (op_call (impl_JoinChunk.ok k ((rd_T27 t1_0 0).f0) ((rd_T27 t1_0 0).f1) A_8 c_8 ((rd_T27 t1_0 0).f2) A_9 c_9 ((rd_T27 t1_0 0).f3) A_10 c_10 ((rd_T27 t1_0 0).f4) t21_0 At21_0 ct21_0 _ _ _ _ _ _ A22) [⟨2, 0, 0, false⟩, ⟨3, 0, 0, false⟩, ⟨4, 0, 0, false⟩, ⟨5, 0, 0, false⟩] 6 rfl rfl rfl rfl rfl ?_)
        rintro _ _ _ ⟨At22_0, ct22_0, At22_2, ct22_2, At22_3, ct22_3, At22_4, ct22_4, rfl, rfl, rfl⟩
        refine sv (EV.mv rfl) rfl (sv (EV.ex rfl rfl) rfl (sv (EV.ex rfl rfl) rfl (so rfl (op_alloc (cs := [.int .i64 0, .slice none 0 0, .slice none 0 0, .slice none 0 0, .int .i64 0]) (by kernel_rfl) rfl fun b17 => (sv (EV.as rfl) rfl (so rfl (op_st (cs' := [.int .i64 t22_1, .slice At22_2 t22_2.length ct22_2, .slice At22_3 t22_3.length ct22_3, .slice At22_4 t22_4.length ct22_4, .int .i64 t22_5]) 3 rfl rfl rfl rfl rfl rfl (re (pr [4, 8, 14, 15, 16, 17] [0, 1, 3] [0, 5, 6, 7, 8, 9, 10] rfl rfl rfl rfl (gs (rg (sv (EV.mv rfl) rfl (sv (EV.fa 2 rfl) rfl (so rfl (op_st (cs' := [.int .i64 t22_1, .slice At22_2 t22_2.length ct22_2, .slice At21_1 t21_1.length ct21_1, .slice At22_4 t22_4.length ct22_4, .int .i64 t22_5]) 2 rfl rfl rfl rfl rfl rfl (re (gs (rg (sv (EV.fa 0 rfl) rfl (sv (EV.ld 1 none rfl rfl rfl) rfl (sv (EV.ld (v := .agg #[.int .i64 t22_1, .slice At22_2 t22_2.length ct22_2, .slice At21_1 t21_1.length ct21_1, .slice At22_4 t22_4.length ct22_4, .int .i64 t22_5]) 2 (some 5) rfl rfl rfl) rfl (sv (EV.ix 0 rfl rfl rfl dq g7 rfl) rfl (opn (i := 0) 0 z27 rfl dq g7 fun A_23 c_23 A_24 c_24 A_25 c_25 => (opnH (i := 0) (s := 5) (cls' := 2) [(A_23, c_23), (A_24, c_24), (A_25, c_25)] 0 7 11 z27 rfl rfl (by kernel_rfl) dq g7 dq rfl rfl (nmE (en := [.sl 2 k99 At21_0 ct21_0 t21_0 4 true, .sl 2 k99 At21_1 ct21_1 t21_1 5 true, .sl 2 k151 At22_0 ct22_0 t22_0 7 true, .sl 2 k99 At22_2 ct22_2 t22_2 8 true, .sl 2 k99 At22_3 ct22_3 t22_3 9 true, .sl 2 .bool At22_4 ct22_4 t22_4 10 true, holE k27 2 At1_0 ct1_0 t1_0 (0 : Int).toNat [.int .i64 ((rd_T27 t1_0 0).f0), .slice A_23 ((rd_T27 t1_0 0).f1).length c_23, .slice A_24 ((rd_T27 t1_0 0).f2).length c_24, .slice A_25 ((rd_T27 t1_0 0).f3).length c_25, .int .i64 ((rd_T27 t1_0 0).f4)] 11, .sl 1 k99 A_23 c_23 ((rd_T27 t1_0 0).f1) 12 true, .sl 1 k99 A_24 c_24 ((rd_T27 t1_0 0).f2) 13 true, .sl 1 .bool A_25 c_25 ((rd_T27 t1_0 0).f3) 14 true]) (by kernel_rfl) (so rfl (op_sth (cs' := [.int .i64 t22_1, .slice At22_2 t22_2.length ct22_2, .slice At21_1 t21_1.length ct21_1, .slice At22_4 t22_4.length ct22_4, .int .i64 t22_5]) 0 6 rfl rfl rfl rfl rfl (by kernel_rfl) rfl rfl (nmE (en := [.sl 2 k99 At21_0 ct21_0 t21_0 4 true, .sl 2 k99 At21_1 ct21_1 t21_1 5 true, .sl 2 k151 At22_0 ct22_0 t22_0 7 true, .sl 2 k99 At22_2 ct22_2 t22_2 8 true, .sl 2 k99 At22_3 ct22_3 t22_3 9 true, .sl 2 .bool At22_4 ct22_4 t22_4 10 true, .sl 1 k99 A_23 c_23 ((rd_T27 t1_0 0).f1) 12 true, .sl 1 k99 A_24 c_24 ((rd_T27 t1_0 0).f2) 13 true, .sl 1 .bool A_25 c_25 ((rd_T27 t1_0 0).f3) 14 true, holE k27 2 At1_0 ct1_0 t1_0 (0 : Int).toNat [.int .i64 t22_1, .slice At22_2 t22_2.length ct22_2, .slice At21_1 t21_1.length ct21_1, .slice At22_4 t22_4.length ct22_4, .int .i64 t22_5] 11]) (by kernel_rfl) ?_))))))))))))))))))))))))))))
        revert H; refine bdI ?_; intro s26 A26 H; have q26 := stl (Option.some.inj A26)
        refine hcl 9 (⟨t22_1, t22_2, t21_1, t22_4, t22_5⟩ : S27) [(At22_2, ct22_2), (At21_1, ct21_1), (At22_4, ct22_4)] [3, 1, 5] (Option.some.inj A26) rfl (by kernel_rfl) rfl (by kernel_rfl) (by kernel_rfl) (by kernel_rfl) (nmE (en := [.sl 2 k99 At21_0 ct21_0 t21_0 4 true, .sl 2 k99 At21_1 ct21_1 t21_1 11 true, .sl 2 k151 At22_0 ct22_0 t22_0 7 true, .sl 2 k99 At22_2 ct22_2 t22_2 11 true, .sl 2 k99 At22_3 ct22_3 t22_3 9 true, .sl 2 .bool At22_4 ct22_4 t22_4 11 true, .sl 1 k99 A_23 c_23 ((rd_T27 t1_0 0).f1) 12 true, .sl 1 k99 A_24 c_24 ((rd_T27 t1_0 0).f2) 13 true, .sl 1 .bool A_25 c_25 ((rd_T27 t1_0 0).f3) 14 true, .sl 2 k27 At1_0 ct1_0 s26 11 true]) (by kernel_rfl) (rlT 110 (v' := .slice At1_0 s26.length ct1_0) rfl (slq _ _ q26) (rlB 1 (cs' := [.slice At1_0 s26.length ct1_0, .int .i64 t1_1, .int .i64 t1_2]) rfl (by simp only [q26]) (re (pr [4, 8, 14, 16] [0, 1] [0, 2, 9] rfl rfl rfl rfl (gs (dr [1] [0, 1, 2] [6, 7] 8 rfl rfl rfl rfl (xv 0 [1] [0, 1, 2] rfl (EV.ld (v := .agg #[.slice At1_0 s26.length ct1_0, .int .i64 t1_1, .int .i64 t1_2]) 0 (some 3) rfl rfl rfl) rfl rfl rfl rfl (xv 1 [1] [0, 1, 2] rfl (EV.mv rfl) rfl rfl rfl rfl (xv 2 [1] [0, 1, 2] rfl (EV.mv rfl) rfl rfl rfl rfl (one1 3 rfl rfl ?_)))))))))))
        revert H; refine bdI ?_; rintro t27 A27 H
        refine op_call (impl_TotalCost.ok k t21_0 At21_0 ct21_0 _ A27) [⟨0, 0, 0, false⟩] 12 rfl rfl rfl rfl rfl ?_
        rintro _ _ _ ⟨rfl, rfl, rfl⟩
        refine xs [1] [0, 1, 2] rfl rfl rfl (one1 4 rfl rfl (op_st (cs' := [.slice At1_0 s26.length ct1_0, .int .i64 t1_1, .int .i64 t1_2]) 0 rfl rfl rfl rfl rfl rfl (xs [1] [0, 1, 2] rfl rfl rfl (one1 5 rfl rfl (ov (EV.as rfl) rfl (xs [1] [0, 1, 2] rfl rfl rfl (one1 6 rfl rfl (ov (EV.as rfl) rfl (xn rfl (one1 7 rfl rfl (ov (EV.as rfl) rfl (xn rfl (xd (pr [4, 5, 6, 7] [0] [1, 2] rfl rfl rfl rfl ?_))))))))))))))
        cases H
        exact rt Try.func118 rfl (.cell 0 (some 3) rfl rfl rfl (.tmp rfl (.tmp rfl (.tmp rfl .nil)))) rfl [] [⟨1, 1, 1, true⟩, ⟨0, 2, 2, true⟩] rfl rfl rfl rfl rfl ⟨_, _, _, _, rfl, rfl, rfl⟩
       ·
        obtain rfl := bF c20
        refine gf rfl rfl (gk (ge (gs (rg (sv (EV.ld (v := .agg #[.int .i64 ((rd_T27 t1_0 0).f0), .slice A_8 ((rd_T27 t1_0 0).f1).length c_8, .slice A_9 ((rd_T27 t1_0 0).f2).length c_9, .slice A_10 ((rd_T27 t1_0 0).f3).length c_10, .int .i64 ((rd_T27 t1_0 0).f4)]) 2 (some 5) rfl rfl rfl) rfl ?_)))))
        revert H; refine bdI ?_; rintro ⟨t28_0, t28_1, t28_2, t28_3, t28_4, t28_5, t28_6, t28_7, t28_8, t28_9, t28_10⟩ A28 H
        refine so rfl (op_call (impl_PartitionTask.ok k ((rd_T27 t1_0 0).f0) ((rd_T27 t1_0 0).f1) A_8 c_8 ((rd_T27 t1_0 0).f2) A_9 c_9 ((rd_T27 t1_0 0).f3) A_10 c_10 ((rd_T27 t1_0 0).f4) _ _ _ _ _ _ _ _ _ _ _ A28) [⟨2, 0, 0, false⟩, ⟨3, 0, 0, false⟩, ⟨4, 0, 0, false⟩] 3 rfl rfl rfl rfl rfl ?_)
        rintro _ _ _ ⟨At28_1, ct28_1, At28_2, ct28_2, At28_3, ct28_3, At28_6, ct28_6, At28_7, ct28_7, At28_8, ct28_8, rfl, rfl, rfl⟩
        refine sv (EV.mv rfl) rfl (sv (EV.ex rfl rfl) rfl (sv (EV.ex rfl rfl) rfl (sv (EV.ex rfl rfl) rfl (so rfl (op_alloc (cs := [.int .i64 0, .slice none 0 0, .slice none 0 0, .slice none 0 0, .int .i64 0]) (by kernel_rfl) rfl fun b18 => (so rfl (op_alloc (cs := [.int .i64 0, .slice none 0 0, .slice none 0 0, .slice none 0 0, .int .i64 0]) (by kernel_rfl) rfl fun b19 => (so rfl (op_st (cs' := [.int .i64 t28_0, .slice At28_1 t28_1.length ct28_1, .slice At28_2 t28_2.length ct28_2, .slice At28_3 t28_3.length ct28_3, .int .i64 t28_4]) 3 rfl rfl rfl rfl rfl rfl (so rfl (op_st (cs' := [.int .i64 t28_5, .slice At28_6 t28_6.length ct28_6, .slice At28_7 t28_7.length ct28_7, .slice At28_8 t28_8.length ct28_8, .int .i64 t28_9]) 4 rfl rfl rfl rfl rfl rfl (sv (EV.as rfl) rfl (re (pr [4, 8, 9, 18, 19] [0, 1, 2, 3, 4] [0, 1, 2, 3, 4, 5, 6, 7, 8, 9, 10] rfl rfl rfl rfl (gs ?_)))))))))))))))
        revert H; refine ggI ?_; intro g29 H
        refine dr [0, 1, 2, 3, 4] [] [7, 8] 9 rfl rfl rfl rfl (xv 0 [0, 1, 2, 3, 4] [] rfl (EV.ld (v := .agg #[.int .i64 t28_0, .slice At28_1 t28_1.length ct28_1, .slice At28_2 t28_2.length ct28_2, .slice At28_3 t28_3.length ct28_3, .int .i64 t28_4]) 3 (some 5) rfl rfl rfl) rfl rfl rfl rfl (xv 1 [0, 1, 2, 3, 4] [] rfl (EV.ld (v := .agg #[.int .i64 t28_5, .slice At28_6 t28_6.length ct28_6, .slice At28_7 t28_7.length ct28_7, .slice At28_8 t28_8.length ct28_8, .int .i64 t28_9]) 4 (some 5) rfl rfl rfl) rfl rfl rfl rfl (xv 3 [0, 1, 2, 3, 4] [] rfl (EV.fa 0 rfl) rfl rfl rfl rfl (xv 4 [0, 1, 2, 3, 4] [] rfl (EV.ld 1 none rfl rfl rfl) rfl rfl rfl rfl ?_))))
        refine one2 2 5 rfl rfl rfl rfl ?_ ?_
        ·
         refine op_lit (s := 5) (by_ := 88) k27 ([(⟨t28_0, t28_1, t28_2, t28_3, t28_4⟩ : S27), (⟨t28_5, t28_6, t28_7, t28_8, t28_9⟩ : S27)] : List S27) [[(At28_1, ct28_1), (At28_2, ct28_2), (At28_3, ct28_3)], [(At28_6, ct28_6), (At28_7, ct28_7), (At28_8, ct28_8)]] [5, 6, 7, 8, 9, 10] 10 [.tmp 123, .tmp 124] rfl rfl rfl rfl rfl rfl rfl rfl rfl rfl rfl rfl rfl dq rfl fun A125_30 c125_30 => (nmE (en := [.sl 2 k27 At1_0 ct1_0 t1_0 2 true, celE At1_0 ((0 : Int).toNat * 5) [.int .i64 ((rd_T27 t1_0 0).f0), .slice A_8 ((rd_T27 t1_0 0).f1).length c_8, .slice A_9 ((rd_T27 t1_0 0).f2).length c_9, .slice A_10 ((rd_T27 t1_0 0).f3).length c_10, .int .i64 ((rd_T27 t1_0 0).f4)] 2, .sl 1 k99 A_8 c_8 ((rd_T27 t1_0 0).f1) 2 true, .sl 1 k99 A_9 c_9 ((rd_T27 t1_0 0).f2) 2 true, .sl 1 .bool A_10 c_10 ((rd_T27 t1_0 0).f3) 2 true, .sl 2 k99 At28_1 ct28_1 t28_1 10 true, .sl 2 k99 At28_2 ct28_2 t28_2 10 true, .sl 2 .bool At28_3 ct28_3 t28_3 10 true, .sl 2 k99 At28_6 ct28_6 t28_6 10 true, .sl 2 k99 At28_7 ct28_7 t28_7 10 true, .sl 2 .bool At28_8 ct28_8 t28_8 10 true, .sl 2 k27 A125_30 c125_30 ([(⟨t28_0, t28_1, t28_2, t28_3, t28_4⟩ : S27), (⟨t28_5, t28_6, t28_7, t28_8, t28_9⟩ : S27)] : List S27) 10 true]) (by kernel_rfl) (xs [0, 1, 2, 3, 4] [] rfl rfl rfl (one1 5 rfl rfl (cutp (l' := t1_0.drop (1 : Int).toNat) 1 (t1_0.length : Int) 0 rfl dq g29 (Int.le_refl _) rfl 1 dq (.inl dq) ctl (ov (EV.ct 1 (t1_0.length : Int) 0 rfl rfl rfl rfl dq g29 (Int.le_refl _) rfl rfl ctnl) rfl (xs [0, 1, 2, 3, 4] [] rfl rfl rfl (one1 6 rfl rfl ?_)))))))
         revert H; refine ggI ?_; intro g31 H
         refine op_app (k := k27) (s := 5) (by_ := 88) 11 12 rfl rfl rfl rfl (ap2 g31 dq) (ap2n g31 dq) (.inr ⟨dq, dq, rfl, dq⟩) true (fun _ => .inr ⟨rfl, rfl, dq⟩) rfl rfl fun A129_32 c129_32 => (nmE (en := [.sl 2 k27 At1_0 ct1_0 t1_0 10 true, celE At1_0 ((0 : Int).toNat * 5) [.int .i64 ((rd_T27 t1_0 0).f0), .slice A_8 ((rd_T27 t1_0 0).f1).length c_8, .slice A_9 ((rd_T27 t1_0 0).f2).length c_9, .slice A_10 ((rd_T27 t1_0 0).f3).length c_10, .int .i64 ((rd_T27 t1_0 0).f4)] 10, .sl 1 k99 A_8 c_8 ((rd_T27 t1_0 0).f1) 10 true, .sl 1 k99 A_9 c_9 ((rd_T27 t1_0 0).f2) 10 true, .sl 1 .bool A_10 c_10 ((rd_T27 t1_0 0).f3) 10 true, .sl 1 k27 (cutA At1_0 ct1_0 (1 : Int).toNat 5) (ct1_0 - (1 : Int).toNat) (t1_0.drop (1 : Int).toNat) 10 true, .sl 2 k27 A129_32 c129_32 (([(⟨t28_0, t28_1, t28_2, t28_3, t28_4⟩ : S27), (⟨t28_5, t28_6, t28_7, t28_8, t28_9⟩ : S27)] : List S27) ++ (t1_0.drop (1 : Int).toNat)) 10 true]) (by kernel_rfl) (xs [0, 1, 2, 3, 4] [] rfl rfl rfl (one1 7 rfl rfl (ov (EV.fa 0 rfl) rfl (xn rfl (one1 8 rfl rfl (op_st (cs' := [.slice A129_32 (([(⟨t28_0, t28_1, t28_2, t28_3, t28_4⟩ : S27), (⟨t28_5, t28_6, t28_7, t28_8, t28_9⟩ : S27)] : List S27) ++ (t1_0.drop (1 : Int).toNat)).length c129_32, .int .i64 t1_1, .int .i64 t1_2]) 1 rfl rfl rfl rfl rfl rfl (xn rfl (xd (pr [4, 8, 9] [0, 1, 2] [2, 3, 4, 6] rfl rfl rfl rfl (gs (dr [0, 1, 2] [0, 1, 2, 3] [6] 7 rfl rfl rfl rfl (xv 0 [0, 1, 2] [0, 1, 2, 3] rfl (EV.fa 1 rfl) rfl rfl rfl rfl (xv 1 [0, 1, 2] [0, 1, 2, 3] rfl (EV.ld 1 none rfl rfl rfl) rfl rfl rfl rfl (xv 2 [0, 1, 2] [0, 1, 2, 3] rfl (EV.ld (v := .agg #[.int .i64 ((rd_T27 t1_0 0).f0), .slice A_8 ((rd_T27 t1_0 0).f1).length c_8, .slice A_9 ((rd_T27 t1_0 0).f2).length c_9, .slice A_10 ((rd_T27 t1_0 0).f3).length c_10, .int .i64 ((rd_T27 t1_0 0).f4)]) 2 (some 5) rfl rfl rfl) rfl rfl rfl rfl (one1 3 rfl rfl ?_))))))))))))))))
         revert H; refine bdI ?_; rintro t33 A33 H
         refine op_call (impl_TaskCost.ok k ((rd_T27 t1_0 0).f0) ((rd_T27 t1_0 0).f1) A_8 c_8 ((rd_T27 t1_0 0).f2) A_9 c_9 ((rd_T27 t1_0 0).f3) A_10 c_10 ((rd_T27 t1_0 0).f4) _ A33) [⟨0, 0, 0, false⟩, ⟨1, 0, 0, false⟩, ⟨2, 0, 0, false⟩] 11 rfl rfl rfl rfl rfl ?_
         rintro _ _ _ ⟨rfl, rfl, rfl⟩
         refine xs [0, 1, 2] [0, 1, 2, 3] rfl rfl rfl (xv 4 [0, 1, 2] [0, 1, 2, 3] rfl (EV.add rfl rfl) rfl rfl rfl rfl (xv 5 [0, 1, 2] [0, 1, 2, 3] rfl (EV.fa 1 rfl) rfl rfl rfl rfl (one1 6 rfl rfl (op_st (cs' := [.slice A129_32 (([(⟨t28_0, t28_1, t28_2, t28_3, t28_4⟩ : S27), (⟨t28_5, t28_6, t28_7, t28_8, t28_9⟩ : S27)] : List S27) ++ (t1_0.drop (1 : Int).toNat)).length c129_32, .int .i64 (wrap64 (t1_1 + t33)), .int .i64 t1_2]) 1 rfl rfl rfl rfl rfl rfl (xn rfl (xd (pr [4, 8] [0, 1] [3] rfl rfl rfl rfl (gs (rg (sv (EV.fa 2 rfl) rfl (sv (EV.ld 1 none rfl rfl rfl) rfl (sv (EV.add rfl rfl) rfl (sv (EV.fa 2 rfl) rfl (so rfl (op_st (cs' := [.slice A129_32 (([(⟨t28_0, t28_1, t28_2, t28_3, t28_4⟩ : S27), (⟨t28_5, t28_6, t28_7, t28_8, t28_9⟩ : S27)] : List S27) ++ (t1_0.drop (1 : Int).toNat)).length c129_32, .int .i64 (wrap64 (t1_1 + t33)), .int .i64 (wrap64 (t1_2 + 1))]) 1 rfl rfl rfl rfl rfl rfl (re (gs (rg (sv (EV.ld (v := .agg #[.slice A129_32 (([(⟨t28_0, t28_1, t28_2, t28_3, t28_4⟩ : S27), (⟨t28_5, t28_6, t28_7, t28_8, t28_9⟩ : S27)] : List S27) ++ (t1_0.drop (1 : Int).toNat)).length c129_32, .int .i64 (wrap64 (t1_1 + t33)), .int .i64 (wrap64 (t1_2 + 1))]) 1 (some 3) rfl rfl rfl) rfl (so rfl (op_st (cs' := [.slice A129_32 (([(⟨t28_0, t28_1, t28_2, t28_3, t28_4⟩ : S27), (⟨t28_5, t28_6, t28_7, t28_8, t28_9⟩ : S27)] : List S27) ++ (t1_0.drop (1 : Int).toNat)).length c129_32, .int .i64 (wrap64 (t1_1 + t33)), .int .i64 (wrap64 (t1_2 + 1))]) 0 rfl rfl rfl rfl rfl rfl (sv (EV.as rfl) rfl (sv (EV.as rfl) rfl (sv (EV.as rfl) rfl (re (pr [4, 5, 6, 7] [0] [0] rfl rfl rfl rfl (nil_ k151 11 dq ?_)))))))))))))))))))))))))))
         cases H
         exact rt Try.func118 rfl (.cell 0 (some 3) rfl rfl rfl (.tmp rfl (.tmp rfl (.tmp rfl .nil)))) rfl [] [⟨0, 1, 1, true⟩, ⟨1, 2, 2, true⟩] rfl rfl rfl rfl rfl ⟨_, _, _, _, rfl, rfl, rfl⟩
        ·
         refine cutp (l' := t1_0.drop (1 : Int).toNat) 1 (t1_0.length : Int) 0 rfl dq g29 (Int.le_refl _) rfl 1 dq (.inl dq) ctl (ov (EV.ct 1 (t1_0.length : Int) 0 rfl rfl rfl rfl dq g29 (Int.le_refl _) rfl rfl ctnl) rfl (xs [0, 1, 2, 3, 4] [] rfl rfl rfl (one1 2 rfl rfl (op_lit (s := 5) (by_ := 88) k27 ([(⟨t28_0, t28_1, t28_2, t28_3, t28_4⟩ : S27), (⟨t28_5, t28_6, t28_7, t28_8, t28_9⟩ : S27)] : List S27) [[(At28_1, ct28_1), (At28_2, ct28_2), (At28_3, ct28_3)], [(At28_6, ct28_6), (At28_7, ct28_7), (At28_8, ct28_8)]] [5, 6, 7, 8, 9, 10] 10 [.tmp 123, .tmp 124] rfl rfl rfl rfl rfl rfl rfl rfl rfl rfl rfl rfl rfl dq rfl fun A125_34 c125_34 => (nmE (en := [.sl 2 k27 At1_0 ct1_0 t1_0 2 true, celE At1_0 ((0 : Int).toNat * 5) [.int .i64 ((rd_T27 t1_0 0).f0), .slice A_8 ((rd_T27 t1_0 0).f1).length c_8, .slice A_9 ((rd_T27 t1_0 0).f2).length c_9, .slice A_10 ((rd_T27 t1_0 0).f3).length c_10, .int .i64 ((rd_T27 t1_0 0).f4)] 2, .sl 1 k99 A_8 c_8 ((rd_T27 t1_0 0).f1) 2 true, .sl 1 k99 A_9 c_9 ((rd_T27 t1_0 0).f2) 2 true, .sl 1 .bool A_10 c_10 ((rd_T27 t1_0 0).f3) 2 true, .sl 2 k99 At28_1 ct28_1 t28_1 10 true, .sl 2 k99 At28_2 ct28_2 t28_2 10 true, .sl 2 .bool At28_3 ct28_3 t28_3 10 true, .sl 2 k99 At28_6 ct28_6 t28_6 10 true, .sl 2 k99 At28_7 ct28_7 t28_7 10 true, .sl 2 .bool At28_8 ct28_8 t28_8 10 true, .sl 1 k27 (cutA At1_0 ct1_0 (1 : Int).toNat 5) (ct1_0 - (1 : Int).toNat) (t1_0.drop (1 : Int).toNat) 2 true, .sl 2 k27 A125_34 c125_34 ([(⟨t28_0, t28_1, t28_2, t28_3, t28_4⟩ : S27), (⟨t28_5, t28_6, t28_7, t28_8, t28_9⟩ : S27)] : List S27) 10 true]) (by kernel_rfl) (xs [0, 1, 2, 3, 4] [] rfl rfl rfl (one1 6 rfl rfl ?_)))))))
         revert H; refine ggI ?_; intro g35 H
         refine op_app (k := k27) (s := 5) (by_ := 88) 12 11 rfl rfl rfl rfl (ap2 g35 dq) (ap2n g35 dq) (.inr ⟨dq, dq, rfl, dq⟩) true (fun _ => .inr ⟨rfl, rfl, dq⟩) rfl rfl fun A129_36 c129_36 => (nmE (en := [.sl 2 k27 At1_0 ct1_0 t1_0 10 true, celE At1_0 ((0 : Int).toNat * 5) [.int .i64 ((rd_T27 t1_0 0).f0), .slice A_8 ((rd_T27 t1_0 0).f1).length c_8, .slice A_9 ((rd_T27 t1_0 0).f2).length c_9, .slice A_10 ((rd_T27 t1_0 0).f3).length c_10, .int .i64 ((rd_T27 t1_0 0).f4)] 10, .sl 1 k99 A_8 c_8 ((rd_T27 t1_0 0).f1) 10 true, .sl 1 k99 A_9 c_9 ((rd_T27 t1_0 0).f2) 10 true, .sl 1 .bool A_10 c_10 ((rd_T27 t1_0 0).f3) 10 true, .sl 1 k27 (cutA At1_0 ct1_0 (1 : Int).toNat 5) (ct1_0 - (1 : Int).toNat) (t1_0.drop (1 : Int).toNat) 10 true, .sl 2 k27 A129_36 c129_36 (([(⟨t28_0, t28_1, t28_2, t28_3, t28_4⟩ : S27), (⟨t28_5, t28_6, t28_7, t28_8, t28_9⟩ : S27)] : List S27) ++ (t1_0.drop (1 : Int).toNat)) 10 true]) (by kernel_rfl) (xs [0, 1, 2, 3, 4] [] rfl rfl rfl (one1 7 rfl rfl (ov (EV.fa 0 rfl) rfl (xn rfl (one1 8 rfl rfl (op_st (cs' := [.slice A129_36 (([(⟨t28_0, t28_1, t28_2, t28_3, t28_4⟩ : S27), (⟨t28_5, t28_6, t28_7, t28_8, t28_9⟩ : S27)] : List S27) ++ (t1_0.drop (1 : Int).toNat)).length c129_36, .int .i64 t1_1, .int .i64 t1_2]) 1 rfl rfl rfl rfl rfl rfl (xn rfl (xd (pr [4, 8, 9] [0, 1, 2] [2, 3, 4, 6] rfl rfl rfl rfl (gs (dr [0, 1, 2] [0, 1, 2, 3] [6] 7 rfl rfl rfl rfl (xv 0 [0, 1, 2] [0, 1, 2, 3] rfl (EV.fa 1 rfl) rfl rfl rfl rfl (xv 1 [0, 1, 2] [0, 1, 2, 3] rfl (EV.ld 1 none rfl rfl rfl) rfl rfl rfl rfl (xv 2 [0, 1, 2] [0, 1, 2, 3] rfl (EV.ld (v := .agg #[.int .i64 ((rd_T27 t1_0 0).f0), .slice A_8 ((rd_T27 t1_0 0).f1).length c_8, .slice A_9 ((rd_T27 t1_0 0).f2).length c_9, .slice A_10 ((rd_T27 t1_0 0).f3).length c_10, .int .i64 ((rd_T27 t1_0 0).f4)]) 2 (some 5) rfl rfl rfl) rfl rfl rfl rfl (one1 3 rfl rfl ?_))))))))))))))))
         revert H; refine bdI ?_; rintro t37 A37 H
         refine op_call (impl_TaskCost.ok k ((rd_T27 t1_0 0).f0) ((rd_T27 t1_0 0).f1) A_8 c_8 ((rd_T27 t1_0 0).f2) A_9 c_9 ((rd_T27 t1_0 0).f3) A_10 c_10 ((rd_T27 t1_0 0).f4) _ A37) [⟨0, 0, 0, false⟩, ⟨1, 0, 0, false⟩, ⟨2, 0, 0, false⟩] 11 rfl rfl rfl rfl rfl ?_
         rintro _ _ _ ⟨rfl, rfl, rfl⟩
         refine xs [0, 1, 2] [0, 1, 2, 3] rfl rfl rfl (xv 4 [0, 1, 2] [0, 1, 2, 3] rfl (EV.add rfl rfl) rfl rfl rfl rfl (xv 5 [0, 1, 2] [0, 1, 2, 3] rfl (EV.fa 1 rfl) rfl rfl rfl rfl (one1 6 rfl rfl (op_st (cs' := [.slice A129_36 (([(⟨t28_0, t28_1, t28_2, t28_3, t28_4⟩ : S27), (⟨t28_5, t28_6, t28_7, t28_8, t28_9⟩ : S27)] : List S27) ++ (t1_0.drop (1 : Int).toNat)).length c129_36, .int .i64 (wrap64 (t1_1 + t37)), .int .i64 t1_2]) 1 rfl rfl rfl rfl rfl rfl (xn rfl (xd (pr [4, 8] [0, 1] [3] rfl rfl rfl rfl (gs (rg (sv (EV.fa 2 rfl) rfl (sv (EV.ld 1 none rfl rfl rfl) rfl (sv (EV.add rfl rfl) rfl (sv (EV.fa 2 rfl) rfl (so rfl (op_st (cs' := [.slice A129_36 (([(⟨t28_0, t28_1, t28_2, t28_3, t28_4⟩ : S27), (⟨t28_5, t28_6, t28_7, t28_8, t28_9⟩ : S27)] : List S27) ++ (t1_0.drop (1 : Int).toNat)).length c129_36, .int .i64 (wrap64 (t1_1 + t37)), .int .i64 (wrap64 (t1_2 + 1))]) 1 rfl rfl rfl rfl rfl rfl (re (gs (rg (sv (EV.ld (v := .agg #[.slice A129_36 (([(⟨t28_0, t28_1, t28_2, t28_3, t28_4⟩ : S27), (⟨t28_5, t28_6, t28_7, t28_8, t28_9⟩ : S27)] : List S27) ++ (t1_0.drop (1 : Int).toNat)).length c129_36, .int .i64 (wrap64 (t1_1 + t37)), .int .i64 (wrap64 (t1_2 + 1))]) 1 (some 3) rfl rfl rfl) rfl (so rfl (op_st (cs' := [.slice A129_36 (([(⟨t28_0, t28_1, t28_2, t28_3, t28_4⟩ : S27), (⟨t28_5, t28_6, t28_7, t28_8, t28_9⟩ : S27)] : List S27) ++ (t1_0.drop (1 : Int).toNat)).length c129_36, .int .i64 (wrap64 (t1_1 + t37)), .int .i64 (wrap64 (t1_2 + 1))]) 0 rfl rfl rfl rfl rfl rfl (sv (EV.as rfl) rfl (sv (EV.as rfl) rfl (sv (EV.as rfl) rfl (re (pr [4, 5, 6, 7] [0] [0] rfl rfl rfl rfl (nil_ k151 11 dq ?_)))))))))))))))))))))))))))
         cases H
         exact rt Try.func118 rfl (.cell 0 (some 3) rfl rfl rfl (.tmp rfl (.tmp rfl (.tmp rfl .nil)))) rfl [] [⟨0, 1, 1, true⟩, ⟨1, 2, 2, true⟩] rfl rfl rfl rfl rfl ⟨_, _, _, _, rfl, rfl, rfl⟩
      ·
       refine gt rfl (nT c18) (gs (rg (sv (EV.fa 0 rfl) rfl (sv (EV.ld 1 none rfl rfl rfl) rfl ?_))))
       revert H; refine ggI ?_; intro g38 H
       refine cutp (l' := t1_0.drop (1 : Int).toNat) 1 (t1_0.length : Int) 0 rfl dq g38 (Int.le_refl _) rfl 1 dq (.inl dq) ctl (sv (EV.ct 1 (t1_0.length : Int) 0 rfl rfl rfl rfl dq g38 (Int.le_refl _) rfl rfl ctnl) rfl (sv (EV.fa 0 rfl) rfl (so rfl (op_st (cs' := [.slice (cutA At1_0 ct1_0 (1 : Int).toNat 5) (t1_0.drop (1 : Int).toNat).length (ct1_0 - (1 : Int).toNat), .int .i64 t1_1, .int .i64 t1_2]) 1 rfl rfl rfl rfl rfl rfl (re (pr [4, 8, 9, 10] [0, 1, 2] [2, 3, 4, 5] rfl rfl rfl rfl (gs (rg (sv (EV.ld (v := .agg #[.int .i64 ((rd_T27 t1_0 0).f0), .slice A_8 ((rd_T27 t1_0 0).f1).length c_8, .slice A_9 ((rd_T27 t1_0 0).f2).length c_9, .slice A_10 ((rd_T27 t1_0 0).f3).length c_10, .int .i64 ((rd_T27 t1_0 0).f4)]) 2 (some 5) rfl rfl rfl) rfl (sv (EV.fa 2 rfl) rfl (sv (EV.ld 2 none rfl rfl rfl) rfl ?_)))))))))))
       revert H; refine bdI ?_; rintro ⟨t39_0, t39_1, t39_2, t39_3, t39_4, t39_5⟩ A39 H
       refine so rfl (op_call (impl_JoinChunk.ok k ((rd_T27 t1_0 0).f0) ((rd_T27 t1_0 0).f1) A_8 c_8 ((rd_T27 t1_0 0).f2) A_9 c_9 ((rd_T27 t1_0 0).f3) A_10 c_10 ((rd_T27 t1_0 0).f4) ((rd_T27 t1_0 0).f2) A_9 c_9 _ _ _ _ _ _ A39) [⟨0, 0, 0, false⟩, ⟨1, 0, 0, false⟩, ⟨2, 0, 0, false⟩, ⟨1, 0, 0, false⟩] 3 rfl rfl rfl rfl rfl ?_)
       rintro _ _ _ ⟨At39_0, ct39_0, At39_2, ct39_2, At39_3, ct39_3, At39_4, ct39_4, rfl, rfl, rfl⟩
       refine sv (EV.mv rfl) rfl (sv (EV.ex rfl rfl) rfl (sv (EV.ex rfl rfl) rfl (so rfl (op_alloc (cs := [.int .i64 0, .slice none 0 0, .slice none 0 0, .slice none 0 0, .int .i64 0]) (by kernel_rfl) rfl fun b12 => (sv (EV.as rfl) rfl (so rfl (op_st (cs' := [.int .i64 t39_1, .slice At39_2 t39_2.length ct39_2, .slice At39_3 t39_3.length ct39_3, .slice At39_4 t39_4.length ct39_4, .int .i64 t39_5]) 3 rfl rfl rfl rfl rfl rfl (re (pr [4, 8, 9, 10, 11, 12] [0, 1, 2, 3] [0, 1, 2, 3, 4, 5, 6, 7] rfl rfl rfl rfl (gs (rg (sv (EV.fa 2 rfl) rfl (sv (EV.ld 2 none rfl rfl rfl) rfl ?_)))))))))))))
       revert H; refine bdI ?_; rintro t40 A40 H
       refine so rfl (op_call (impl_TotalCost.ok k ((rd_T27 t1_0 0).f2) A_9 c_9 _ A40) [⟨1, 0, 0, false⟩] 8 rfl rfl rfl rfl rfl ?_)
       rintro _ _ _ ⟨rfl, rfl, rfl⟩
       refine sv (EV.as rfl) rfl (re ?_)
       refine jo (fun S => ∃ (m : Nat) (x2_11 : List S151) (Ax2_11 : Option Addr) (cx2_11 : Nat) (x2_13 : Int) (x2_4_0 : List S27) (Ax2_4_0 : Option Addr) (cx2_4_0 : Nat) (x2_4_1 : Int) (x2_4_2 : Int) (x2_8_0 : List S27) (Ax2_8_0 : Option Addr) (cx2_8_0 : Nat) (x2_8_1 : Int) (x2_8_2 : Int) (x2_12_0 : Int) (x2_12_1 : List S99) (Ax2_12_1 : Option Addr) (cx2_12_1 : Nat) (x2_12_2 : List S99) (Ax2_12_2 : Option Addr) (cx2_12_2 : Nat) (x2_12_3 : List Bool) (Ax2_12_3 : Option Addr) (cx2_12_3 : Nat) (x2_12_4 : Int), impl_StepJoiner.j0 m x2_11 x2_13 x2_4_0 x2_4_1 x2_4_2 x2_8_0 x2_8_1 x2_8_2 x2_12_0 x2_12_1 x2_12_2 x2_12_3 x2_12_4 = some (r0, r1, r2, r3, r4, r5) ∧ S = ⟨[(4, .pointer (some ⟨b4, 0, none⟩)), (8, .pointer (some ⟨b8, 0, none⟩)), (11, .slice Ax2_11 x2_11.length cx2_11), (12, .pointer (some ⟨b12, 0, none⟩)), (13, .int .i64 x2_13)], [⟨b4, 60, [.slice Ax2_4_0 x2_4_0.length cx2_4_0, .int .i64 x2_4_1, .int .i64 x2_4_2]⟩, ⟨b8, 60, [.slice Ax2_8_0 x2_8_0.length cx2_8_0, .int .i64 x2_8_1, .int .i64 x2_8_2]⟩, ⟨b12, 27, [.int .i64 x2_12_0, .slice Ax2_12_1 x2_12_1.length cx2_12_1, .slice Ax2_12_2 x2_12_2.length cx2_12_2, .slice Ax2_12_3 x2_12_3.length cx2_12_3, .int .i64 x2_12_4]⟩], [.sl 2 k151 Ax2_11 cx2_11 x2_11 1 true, .sl 2 k27 Ax2_4_0 cx2_4_0 x2_4_0 2 true, .sl 1 k27 Ax2_8_0 cx2_8_0 x2_8_0 3 true, .sl 2 k99 Ax2_12_1 cx2_12_1 x2_12_1 4 true, .sl 2 k99 Ax2_12_2 cx2_12_2 x2_12_2 5 true, .sl 2 .bool Ax2_12_3 cx2_12_3 x2_12_3 6 true]⟩) (fun S hS => ?_) (fun jh0 => ?_)
       ·
        clear H
        obtain ⟨m41, x2_11, Ax2_11, cx2_11, x2_13, x2_4_0, Ax2_4_0, cx2_4_0, x2_4_1, x2_4_2, x2_8_0, Ax2_8_0, cx2_8_0, x2_8_1, x2_8_2, x2_12_0, x2_12_1, Ax2_12_1, cx2_12_1, x2_12_2, Ax2_12_2, cx2_12_2, x2_12_3, Ax2_12_3, cx2_12_3, x2_12_4, H, rfl⟩ := hS
        rcases m41 with _ | m41
        · rw [impl_StepJoiner.j0] at H; cases H
        rw [impl_StepJoiner.j0] at H
        refine gs (dr [1, 2] [1, 2, 3, 4, 5] [8, 9] 10 rfl rfl rfl rfl (xv 0 [1, 2] [1, 2, 3, 4, 5] rfl (EV.ld (v := .agg #[.slice Ax2_8_0 x2_8_0.length cx2_8_0, .int .i64 x2_8_1, .int .i64 x2_8_2]) 0 (some 3) rfl rfl rfl) rfl rfl rfl rfl (xv 1 [1, 2] [1, 2, 3, 4, 5] rfl (EV.mv rfl) rfl rfl rfl rfl (xv 2 [1, 2] [1, 2, 3, 4, 5] rfl (EV.ld (v := .agg #[.int .i64 x2_12_0, .slice Ax2_12_1 x2_12_1.length cx2_12_1, .slice Ax2_12_2 x2_12_2.length cx2_12_2, .slice Ax2_12_3 x2_12_3.length cx2_12_3, .int .i64 x2_12_4]) 1 (some 5) rfl rfl rfl) rfl rfl rfl rfl (xv 5 [1, 2] [1, 2, 3, 4, 5] rfl (EV.mv rfl) rfl rfl rfl rfl (one1 3 rfl rfl ?_))))))
        revert H; refine bdI ?_; rintro t42 A42 H
        refine op_call (impl_UnmatchedRows.ok m41 x2_12_0 x2_12_1 Ax2_12_1 cx2_12_1 x2_12_2 Ax2_12_2 cx2_12_2 x2_12_3 Ax2_12_3 cx2_12_3 x2_12_4 _ A42) [⟨3, 0, 0, false⟩, ⟨4, 0, 0, false⟩, ⟨5, 0, 0, false⟩] 7 rfl rfl rfl rfl rfl ?_
        rintro _ _ _ ⟨At42, ct42, rfl, rfl, rfl⟩
        refine xs [1, 2] [1, 2, 3, 4, 5] rfl rfl rfl (one1 4 rfl rfl ?_)
        revert H; refine ggI ?_; intro g43 H
        refine op_app (k := k151) (s := 7) (by_ := 56) 0 6 rfl rfl rfl rfl (ap2 g43 dq) (ap2n g43 dq) (.inl rfl) true (fun _ => .inl rfl) rfl rfl fun A89_44 c89_44 => (nmE (en := [.sl 2 k27 Ax2_4_0 cx2_4_0 x2_4_0 2 true, .sl 1 k27 Ax2_8_0 cx2_8_0 x2_8_0 3 true, .sl 2 k99 Ax2_12_1 cx2_12_1 x2_12_1 4 true, .sl 2 k99 Ax2_12_2 cx2_12_2 x2_12_2 5 true, .sl 2 .bool Ax2_12_3 cx2_12_3 x2_12_3 6 true, .sl 2 k151 At42 ct42 t42 8 true, .sl 2 k151 A89_44 c89_44 (x2_11 ++ t42) 1 true]) (by kernel_rfl) (xs [1, 2] [0, 1, 2, 3, 4] rfl rfl rfl (one1 6 rfl rfl (op_st (cs' := [.slice Ax2_8_0 x2_8_0.length cx2_8_0, .int .i64 x2_8_1, .int .i64 x2_8_2]) 0 rfl rfl rfl rfl rfl rfl (xs [1, 2] [0, 1, 2, 3, 4] rfl rfl rfl (one1 7 rfl rfl (ov (EV.as rfl) rfl (xs [1, 2] [0, 1, 2, 3, 4] rfl rfl rfl (one1 8 rfl rfl (ov (EV.as rfl) rfl (xn rfl (one1 9 rfl rfl (ov (EV.as rfl) rfl (xn rfl (xd (pr [4, 5, 6, 7] [0] [1, 6] rfl rfl rfl rfl ?_))))))))))))))))
        cases H
        exact rt Try.func118 rfl (.cell 0 (some 3) rfl rfl rfl (.tmp rfl (.tmp rfl (.tmp rfl .nil)))) rfl [] [⟨0, 1, 1, true⟩, ⟨1, 2, 2, true⟩] rfl rfl rfl rfl rfl ⟨_, _, _, _, rfl, rfl, rfl⟩
       ·
        refine gs (rg (sv (EV.mv rfl) rfl (sv (EV.eql rfl rfl) rfl (re ?_))))
        revert H; refine ifsI ?_ ?_ <;> intro c45 H
        ·
         refine gt rfl (dT c45) (rg (sv (EV.fa 1 rfl) rfl (sv (EV.ld 2 none rfl rfl rfl) rfl ?_)))
         revert H; refine bdI ?_; rintro t46 A46 H
         refine so rfl (op_call (impl_TotalCost.ok k ((rd_T27 t1_0 0).f1) A_8 c_8 _ A46) [⟨0, 0, 0, false⟩] 8 rfl rfl rfl rfl rfl ?_)
         rintro _ _ _ ⟨rfl, rfl, rfl⟩
         exact sv (EV.as rfl) rfl (re (pr [4, 8, 11, 12, 13] [0, 1, 3] [3, 4, 5, 6, 7] rfl rfl rfl rfl (nil_ k27 8 dq (wk [4, 8, 11, 12, 13] [0, 1, 2] [⟨1, 2, 1, true⟩, ⟨5, 2, 2, true⟩, ⟨0, 1, 3, true⟩, ⟨2, 2, 4, true⟩, ⟨3, 2, 5, true⟩, ⟨4, 2, 6, true⟩] (jh0 _ ⟨_, t39_0, At39_0, ct39_0, t46, [], none, 0, 0, 0, t1_0.drop (1 : Int).toNat, (cutA At1_0 ct1_0 (1 : Int).toNat 5), (ct1_0 - (1 : Int).toNat), t1_1, t1_2, t39_1, t39_2, At39_2, ct39_2, t39_3, At39_3, ct39_3, t39_4, At39_4, ct39_4, t39_5, H, rfl⟩)))))
        ·
         exact gf rfl (dF c45) (gk (nil_ k27 8 dq (wk [4, 8, 11, 12, 13] [0, 1, 3] [⟨4, 2, 1, true⟩, ⟨8, 2, 2, true⟩, ⟨3, 1, 3, true⟩, ⟨5, 2, 4, true⟩, ⟨6, 2, 5, true⟩, ⟨7, 2, 6, true⟩] (jh0 _ ⟨_, t39_0, At39_0, ct39_0, t40, [], none, 0, 0, 0, t1_0.drop (1 : Int).toNat, (cutA At1_0 ct1_0 (1 : Int).toNat 5), (ct1_0 - (1 : Int).toNat), t1_1, t1_2, t39_1, t39_2, At39_2, ct39_2, t39_3, At39_3, ct39_3, t39_4, At39_4, ct39_4, t39_5, H, rfl⟩))))
   ·
    obtain rfl := bF c6
    refine gt rfl rfl (gs (rg (sv (EV.ld (v := .agg #[.slice At1_0 t1_0.length ct1_0, .int .i64 t1_1, .int .i64 t1_2]) 1 (some 3) rfl rfl rfl) rfl (so rfl (op_st (cs' := [.slice At1_0 t1_0.length ct1_0, .int .i64 t1_1, .int .i64 t1_2]) 0 rfl rfl rfl rfl rfl rfl (sv (EV.as rfl) rfl (sv (EV.as rfl) rfl (sv (EV.as rfl) rfl (re (nil_ k151 3 dq ?_))))))))))
    cases H
    exact rt Try.func118 rfl (.cell 0 (some 3) rfl rfl rfl (.tmp rfl (.tmp rfl (.tmp rfl .nil)))) rfl [] [⟨0, 1, 1, true⟩, ⟨1, 2, 2, true⟩] rfl rfl rfl rfl rfl ⟨_, _, _, _, rfl, rfl, rfl⟩
 ·
  obtain rfl := bF c3
  refine ts 26 rfl rfl (sk rfl (sk rfl (sk rfl (sk rfl (sv (EV.pt rfl rfl rfl) rfl (sv (EV.mv rfl) rfl (sk rfl (sk rfl (sk rfl (sv (EV.pt rfl rfl rfl) rfl (re (pr [1, 4, 8, 36] [1, 2] [1] rfl rfl rfl rfl (gt rfl rfl (gs (rg (sv (EV.ld (v := .agg #[.slice At1_0 t1_0.length ct1_0, .int .i64 t1_1, .int .i64 t1_2]) 1 (some 3) rfl rfl rfl) rfl (so rfl (op_st (cs' := [.slice At1_0 t1_0.length ct1_0, .int .i64 t1_1, .int .i64 t1_2]) 0 rfl rfl rfl rfl rfl rfl (sv (EV.as rfl) rfl (sv (EV.as rfl) rfl (sv (EV.as rfl) rfl (re (nil_ k151 3 dq ?_)))))))))))))))))))))))
  cases H
  exact rt Try.func118 rfl (.cell 0 (some 3) rfl rfl rfl (.tmp rfl (.tmp rfl (.tmp rfl .nil)))) rfl [] [⟨0, 1, 1, true⟩, ⟨1, 2, 2, true⟩] rfl rfl rfl rfl rfl ⟨_, _, _, _, rfl, rfl, rfl⟩
def impl_runJoiner.l0 : Nat → (List S27) → Int → Int → (List S151) → Int → Int → Int → (List S151) → Int → Int → Int → (List Int) → Option ((List S151) × Int × Int × Int × Bool)
 | 0, _, _, _, _, _, _, _, _, _, _, _, _ => none
 | k + 1, x4_2_0, x4_2_1, x4_2_2, x4_4_0, x4_4_1, x4_4_2, x4_4_3, x4_6_0, x4_6_1, x4_6_2, x4_6_3, l1 => if (x4_2_0.length : Int) > 0 then (if (l1.length : Int) ≠ 0 then (if 0 ≤ (Int.tmod x4_6_1 (l1.length : Int)) then (if (Int.tmod x4_6_1 (l1.length : Int)) < (l1.length : Int) then ((impl_StepJoiner.f k x4_2_0 x4_2_1 x4_2_2 (rdOf 0 l1 (Int.tmod x4_6_1 (l1.length : Int)))).bind fun bt5 => (if bt5.2.2.2.2.2 = true then (if x4_6_0.length + bt5.2.2.2.1.length ≤ 2513169434916 then (impl_runJoiner.l0 k bt5.1 bt5.2.1 bt5.2.2.1 x4_4_0 x4_4_1 x4_4_2 x4_4_3 (x4_6_0 ++ bt5.2.2.2.1) (wrap64 (x4_6_1 + 1)) (mx x4_6_2 bt5.2.2.2.2.1) x4_6_3 l1) else none) else (some ([], 0, 0, 0, false)))) else none) else none) else none) else (some (x4_6_0, x4_6_1, x4_6_2, x4_2_1, true))
def impl_runJoiner.f (k : Nat) (l0_0 : List S27) (a0_1 : Int) (a0_2 : Int) (l1 : List Int) : Option ((List S151) × Int × Int × Int × Bool) := impl_runJoiner.l0 k l0_0 a0_1 a0_2 [] 0 0 0 [] 0 0 0 l1
set_option maxHeartbeats 4000000 in
set_option maxRecDepth 100000 in
theorem impl_runJoiner.ok (k : Nat) (l0_0 : List S27) (Al0_0 : Option Addr) (cl0_0 : Nat) (a0_1 : Int) (a0_2 : Int) (l1 : List Int) (Al1 : Option Addr) (cl1 : Nat) (r0 : List S151) (r1 : Int) (r2 : Int) (r3 : Int) (r4 : Bool) (H : impl_runJoiner.f k l0_0 a0_1 a0_2 l1 = some (r0, r1, r2, r3, r4)) : Fn Try.prog 93 [.agg #[.slice Al0_0 l0_0.length cl0_0, .int .i64 a0_1, .int .i64 a0_2], .slice Al1 l1.length cl1] [] [.sl 0 k27 Al0_0 cl0_0 l0_0 0 false, .sl 0 (.int .i64) Al1 cl1 l1 0 false] (fun v bx en => ∃ A0 c0, v = .tuple #[.agg #[.slice A0 r0.length c0, .int .i64 r1, .int .i64 r2, .int .i64 r3], .bool r4] ∧ bx = [] ∧ en = [.sl 2 k151 A0 c0 r0 1 true]) := by
 refine fn_ 53 Try.func93 rfl rfl rfl (fun base T w0 => ?_)
 rw [impl_runJoiner.f] at H
 refine gs (rg (so rfl (op_box (cs := [.slice Al0_0 l0_0.length cl0_0, .int .i64 a0_1, .int .i64 a0_2]) rfl rfl rfl fun b2 => (so rfl (op_alloc (cs := [.slice none 0 0, .int .i64 0, .int .i64 0, .int .i64 0]) (by kernel_rfl) rfl fun b4 => (sv (EV.as rfl) rfl (re (gs (rg (sv (EV.bd (v := .agg #[.slice none 0 0, .int .i64 0, .int .i64 0, .int .i64 0]) rfl (by kernel_rfl)) rfl (so rfl (op_alloc (cs := [.slice none 0 0, .int .i64 0, .int .i64 0, .int .i64 0]) (by kernel_rfl) rfl fun b6 => (so rfl (op_st (cs' := [.slice none 0 0, .int .i64 0, .int .i64 0, .int .i64 0]) 2 rfl rfl rfl rfl rfl rfl (re (gs (gb (nil_ k151 1 dq (nil_ k151 2 dq ?_)))))))))))))))))))
 refine lo (fun kk S => ∃ (x4_2_0 : List S27) (Ax4_2_0 : Option Addr) (cx4_2_0 : Nat) (x4_2_1 : Int) (x4_2_2 : Int) (x4_4_0 : List S151) (Ax4_4_0 : Option Addr) (cx4_4_0 : Nat) (x4_4_1 : Int) (x4_4_2 : Int) (x4_4_3 : Int) (x4_6_0 : List S151) (Ax4_6_0 : Option Addr) (cx4_6_0 : Nat) (x4_6_1 : Int) (x4_6_2 : Int) (x4_6_3 : Int), impl_runJoiner.l0 kk x4_2_0 x4_2_1 x4_2_2 x4_4_0 x4_4_1 x4_4_2 x4_4_3 x4_6_0 x4_6_1 x4_6_2 x4_6_3 l1 = some (r0, r1, r2, r3, r4) ∧ S = ⟨[(1, .slice Al1 l1.length cl1), (2, .pointer (some ⟨b2, 0, none⟩)), (4, .pointer (some ⟨b4, 0, none⟩)), (6, .pointer (some ⟨b6, 0, none⟩))], [⟨b2, 60, [.slice Ax4_2_0 x4_2_0.length cx4_2_0, .int .i64 x4_2_1, .int .i64 x4_2_2]⟩, ⟨b4, 110, [.slice Ax4_4_0 x4_4_0.length cx4_4_0, .int .i64 x4_4_1, .int .i64 x4_4_2, .int .i64 x4_4_3]⟩, ⟨b6, 110, [.slice Ax4_6_0 x4_6_0.length cx4_6_0, .int .i64 x4_6_1, .int .i64 x4_6_2, .int .i64 x4_6_3]⟩], [.sl 0 k27 Ax4_2_0 cx4_2_0 x4_2_0 0 false, .sl 2 k151 Ax4_4_0 cx4_4_0 x4_4_0 1 true, .sl 2 k151 Ax4_6_0 cx4_6_0 x4_6_0 2 true, .sl 0 (.int .i64) Al1 cl1 l1 0 false]⟩) (fun S hS => ?_) (fun n0 ih0 S hS => ?_) ⟨l0_0, Al0_0, cl0_0, a0_1, a0_2, [], none, 0, 0, 0, 0, [], none, 0, 0, 0, 0, H, rfl⟩ (fun h => wk [1, 2, 4, 6] [0, 1, 2] [⟨0, 0, 0, false⟩, ⟨2, 2, 1, true⟩, ⟨3, 2, 2, true⟩, ⟨1, 0, 0, false⟩] h)
 · clear H; obtain ⟨_, _, _, _, _, _, _, _, _, _, _, _, _, _, _, _, _, H, _⟩ := hS; rw [impl_runJoiner.l0] at H; cases H
 clear H
 obtain ⟨x4_2_0, Ax4_2_0, cx4_2_0, x4_2_1, x4_2_2, x4_4_0, Ax4_4_0, cx4_4_0, x4_4_1, x4_4_2, x4_4_3, x4_6_0, Ax4_6_0, cx4_6_0, x4_6_1, x4_6_2, x4_6_3, H, rfl⟩ := hS
 rw [impl_runJoiner.l0] at H
 refine gs (gs (rg (sv (EV.fa 0 rfl) rfl (sv (EV.ld 0 none rfl rfl rfl) rfl (sv (EV.ln rfl) rfl (sv (EV.gtr rfl rfl) rfl (re ?_)))))))
 revert H; refine ifsI ?_ ?_ <;> intro c1 H
 ·
  refine gt rfl (dT c1) (gk (gb (gs ?_)))
  revert H; refine ggI ?_; intro g2 H
  refine dr [0, 1, 2] [0, 1, 2, 3] [19] 20 rfl rfl rfl rfl (xv 0 [0, 1, 2] [0, 1, 2, 3] rfl (EV.ld (v := .agg #[.slice Ax4_2_0 x4_2_0.length cx4_2_0, .int .i64 x4_2_1, .int .i64 x4_2_2]) 0 (some 3) rfl rfl rfl) rfl rfl rfl rfl (xv 1 [0, 1, 2] [0, 1, 2, 3] rfl (EV.mv rfl) rfl rfl rfl rfl (xv 2 [0, 1, 2] [0, 1, 2, 3] rfl (EV.fa 1 rfl) rfl rfl rfl rfl (xv 3 [0, 1, 2] [0, 1, 2, 3] rfl (EV.ld 2 none rfl rfl rfl) rfl rfl rfl rfl (xv 4 [0, 1, 2] [0, 1, 2, 3] rfl (EV.mv rfl) rfl rfl rfl rfl (xv 5 [0, 1, 2] [0, 1, 2, 3] rfl (EV.ln rfl) rfl rfl rfl rfl (xv 6 [0, 1, 2] [0, 1, 2, 3] rfl (EV.rem rfl rfl g2) rfl rfl rfl rfl ?_)))))))
  revert H; refine ggI ?_; intro g3 H
  revert H; refine ggI ?_; intro g4 H
  refine xv 7 [0, 1, 2] [0, 1, 2, 3] rfl (EV.ix 3 rfl rfl rfl g3 g4 rfl) rfl rfl rfl rfl (xv 8 [0, 1, 2] [0, 1, 2, 3] rfl (EV.le (v := .int .i64 (rdOf 0 l1 (Int.tmod x4_6_1 (l1.length : Int)))) (Int.tmod x4_6_1 (l1.length : Int)) 0 none 3 0 rfl rfl rfl g3 g4 rfl rfl rfl) rfl rfl rfl rfl ?_)
  refine one2 9 15 rfl rfl rfl rfl ?_ ?_
  ·
   revert H; refine bdI ?_; rintro ⟨t5_0, t5_1, t5_2, t5_3, t5_4, t5_5⟩ A5 H
   refine op_call (impl_StepJoiner.ok n0 x4_2_0 Ax4_2_0 cx4_2_0 x4_2_1 x4_2_2 (rdOf 0 l1 (Int.tmod x4_6_1 (l1.length : Int))) _ _ _ _ _ _ A5) [⟨0, 0, 0, false⟩] 3 rfl rfl rfl rfl rfl ?_
   rintro _ _ _ ⟨At5_0, ct5_0, At5_3, ct5_3, rfl, rfl, rfl⟩
   refine xs [0, 1, 2] [0, 1, 2, 3] rfl rfl rfl (xv 10 [0, 1, 2] [0, 1, 2, 3] rfl (EV.mv rfl) rfl rfl rfl rfl (xv 11 [0, 1, 2] [0, 1, 2, 3] rfl (EV.ex rfl rfl) rfl rfl rfl rfl (xv 12 [0, 1, 2] [0, 1, 2, 3] rfl (EV.ex rfl rfl) rfl rfl rfl rfl (xv 13 [0, 1, 2] [0, 1, 2, 3] rfl (EV.ex rfl rfl) rfl rfl rfl rfl (xv 14 [0, 1, 2] [0, 1, 2, 3] rfl (EV.ex rfl rfl) rfl rfl rfl rfl (one1 15 rfl rfl (op_alloc (cs := [.slice none 0 0, .int .i64 0, .int .i64 0]) (by kernel_rfl) rfl fun b7 => (xs [0, 1, 2] [0, 1, 2, 3] rfl rfl rfl (one1 16 rfl rfl (op_st (cs' := [.slice At5_0 t5_0.length ct5_0, .int .i64 t5_1, .int .i64 t5_2]) 3 rfl rfl rfl rfl rfl rfl (xs [0, 1, 2] [0, 1, 2, 3] rfl rfl rfl (one1 17 rfl rfl (ov (EV.as rfl) rfl (xs [0, 1, 2] [0, 1, 2, 3] rfl rfl rfl (one1 18 rfl rfl (ov (EV.as rfl) rfl (xs [0, 1, 2] [0, 1, 2, 3] rfl rfl rfl (one1 19 rfl rfl (ov (EV.as rfl) rfl (xn rfl (xd (pr [1, 2, 4, 6, 7, 8, 9, 10] [0, 1, 2, 3] [0, 1, 2, 3, 4, 5] rfl rfl rfl rfl (gs (gs (rg (sv (EV.mv rfl) rfl (sv (EV.nt rfl) rfl (re ?_))))))))))))))))))))))))))))
   revert H; refine ifsI ?_ ?_ <;> intro c6 H
   ·
    subst c6
    refine gf rfl rfl (gk (gs (rg (sv (EV.ld (v := .agg #[.slice At5_0 t5_0.length ct5_0, .int .i64 t5_1, .int .i64 t5_2]) 3 (some 3) rfl rfl rfl) rfl (so rfl (op_st (cs' := [.slice At5_0 t5_0.length ct5_0, .int .i64 t5_1, .int .i64 t5_2]) 0 rfl rfl rfl rfl rfl rfl (re (gs (rg (sv (EV.fa 0 rfl) rfl (sv (EV.ld 2 none rfl rfl rfl) rfl (sv (EV.mv rfl) rfl ?_))))))))))))
    revert H; refine ggI ?_; intro g7 H
    exact so rfl (op_app (k := k151) (s := 7) (by_ := 56) 2 5 rfl rfl rfl rfl (ap2 g7 dq) (ap2n g7 dq) (.inl rfl) true (fun _ => .inl rfl) rfl rfl fun A38_8 c38_8 => (nmE (en := [.sl 0 k27 Ax4_2_0 cx4_2_0 x4_2_0 0 false, .sl 2 k151 Ax4_4_0 cx4_4_0 x4_4_0 1 true, .sl 0 (.int .i64) Al1 cl1 l1 0 false, .sl 1 k27 At5_0 ct5_0 t5_0 4 true, .sl 2 k151 At5_3 ct5_3 t5_3 5 true, .sl 2 k151 A38_8 c38_8 (x4_6_0 ++ t5_3) 2 true]) (by kernel_rfl) (sv (EV.fa 0 rfl) rfl (so rfl (op_st (cs' := [.slice A38_8 (x4_6_0 ++ t5_3).length c38_8, .int .i64 x4_6_1, .int .i64 x4_6_2, .int .i64 x4_6_3]) 2 rfl rfl rfl rfl rfl rfl (re (pr [1, 2, 4, 6, 9] [0, 1, 2] [1, 2, 3, 5] rfl rfl rfl rfl (gs (rg (sv (EV.fa 1 rfl) rfl (sv (EV.ld 2 none rfl rfl rfl) rfl (sv (EV.add rfl rfl) rfl (sv (EV.fa 1 rfl) rfl (so rfl (op_st (cs' := [.slice A38_8 (x4_6_0 ++ t5_3).length c38_8, .int .i64 (wrap64 (x4_6_1 + 1)), .int .i64 x4_6_2, .int .i64 x4_6_3]) 2 rfl rfl rfl rfl rfl rfl (re (rg (sv (EV.fa 2 rfl) rfl (sv (EV.ld 2 none rfl rfl rfl) rfl (sv (EV.mv rfl) rfl (sv (EV.mx rfl rfl) rfl (sv (EV.fa 2 rfl) rfl (so rfl (op_st (cs' := [.slice A38_8 (x4_6_0 ++ t5_3).length c38_8, .int .i64 (wrap64 (x4_6_1 + 1)), .int .i64 (mx x4_6_2 t5_4), .int .i64 x4_6_3]) 2 rfl rfl rfl rfl rfl rfl (re (pr [1, 2, 4, 6] [0, 1, 2] [0, 1, 2, 3] rfl rfl rfl rfl (ge (wk [1, 2, 4, 6] [0, 1, 2] [⟨2, 0, 0, false⟩, ⟨0, 2, 1, true⟩, ⟨3, 2, 2, true⟩, ⟨1, 0, 0, false⟩] (ih0 _ (by omega) _ ⟨t5_0, At5_0, ct5_0, t5_1, t5_2, x4_4_0, Ax4_4_0, cx4_4_0, x4_4_1, x4_4_2, x4_4_3, x4_6_0 ++ t5_3, A38_8, c38_8, wrap64 (x4_6_1 + 1), mx x4_6_2 t5_4, x4_6_3, H, rfl⟩)))))))))))))))))))))))))))))
   ·
    obtain rfl := bF c6
    refine gt rfl rfl (gs (rg (sv (EV.bd (v := .agg #[.slice none 0 0, .int .i64 0, .int .i64 0, .int .i64 0]) rfl (by kernel_rfl)) rfl (so rfl (op_st (cs' := [.slice none 0 0, .int .i64 0, .int .i64 0, .int .i64 0]) 1 rfl rfl rfl rfl rfl rfl (sv (EV.as rfl) rfl (re (pr [4, 5] [1] [] rfl rfl rfl rfl (nil_ k151 1 dq ?_)))))))))
    cases H
    exact rt Try.func93 rfl (.cell 0 (some 4) rfl rfl rfl (.tmp rfl .nil)) rfl [] [⟨0, 2, 1, true⟩] rfl rfl rfl rfl rfl ⟨_, _, rfl, rfl, rfl⟩
  ·
   refine op_alloc (cs := [.slice none 0 0, .int .i64 0, .int .i64 0]) (by kernel_rfl) rfl fun b7 => (xs [0, 1, 2] [0, 1, 2, 3] rfl rfl rfl (one1 9 rfl rfl ?_))
   revert H; refine bdI ?_; rintro ⟨t9_0, t9_1, t9_2, t9_3, t9_4, t9_5⟩ A9 H
   refine op_call (impl_StepJoiner.ok n0 x4_2_0 Ax4_2_0 cx4_2_0 x4_2_1 x4_2_2 (rdOf 0 l1 (Int.tmod x4_6_1 (l1.length : Int))) _ _ _ _ _ _ A9) [⟨0, 0, 0, false⟩] 3 rfl rfl rfl rfl rfl ?_
   rintro _ _ _ ⟨At9_0, ct9_0, At9_3, ct9_3, rfl, rfl, rfl⟩
   refine xs [0, 1, 2] [0, 1, 2, 3] rfl rfl rfl (xv 10 [0, 1, 2] [0, 1, 2, 3] rfl (EV.mv rfl) rfl rfl rfl rfl (xv 11 [0, 1, 2] [0, 1, 2, 3] rfl (EV.ex rfl rfl) rfl rfl rfl rfl (xv 12 [0, 1, 2] [0, 1, 2, 3] rfl (EV.ex rfl rfl) rfl rfl rfl rfl (xv 13 [0, 1, 2] [0, 1, 2, 3] rfl (EV.ex rfl rfl) rfl rfl rfl rfl (xv 14 [0, 1, 2] [0, 1, 2, 3] rfl (EV.ex rfl rfl) rfl rfl rfl rfl (one1 16 rfl rfl (op_st (cs' := [.slice At9_0 t9_0.length ct9_0, .int .i64 t9_1, .int .i64 t9_2]) 3 rfl rfl rfl rfl rfl rfl (xs [0, 1, 2] [0, 1, 2, 3] rfl rfl rfl (one1 17 rfl rfl (ov (EV.as rfl) rfl (xs [0, 1, 2] [0, 1, 2, 3] rfl rfl rfl (one1 18 rfl rfl (ov (EV.as rfl) rfl (xs [0, 1, 2] [0, 1, 2, 3] rfl rfl rfl (one1 19 rfl rfl (ov (EV.as rfl) rfl (xn rfl (xd (pr [1, 2, 4, 6, 7, 8, 9, 10] [0, 1, 2, 3] [0, 1, 2, 3, 4, 5] rfl rfl rfl rfl (gs (gs (rg (sv (EV.mv rfl) rfl (sv (EV.nt rfl) rfl (re ?_)))))))))))))))))))))))))
   revert H; refine ifsI ?_ ?_ <;> intro c10 H
   ·
    subst c10
    refine gf rfl rfl (gk (gs (rg (sv (EV.ld (v := .agg #[.slice At9_0 t9_0.length ct9_0, .int .i64 t9_1, .int .i64 t9_2]) 3 (some 3) rfl rfl rfl) rfl (so rfl (op_st (cs' := [.slice At9_0 t9_0.length ct9_0, .int .i64 t9_1, .int .i64 t9_2]) 0 rfl rfl rfl rfl rfl rfl (re (gs (rg (sv (EV.fa 0 rfl) rfl (sv (EV.ld 2 none rfl rfl rfl) rfl (sv (EV.mv rfl) rfl ?_))))))))))))
    revert H; refine ggI ?_; intro g11 H
    exact so rfl (op_app (k := k151) (s := 7) (by_ := 56) 2 5 rfl rfl rfl rfl (ap2 g11 dq) (ap2n g11 dq) (.inl rfl) true (fun _ => .inl rfl) rfl rfl fun A38_12 c38_12 => (nmE (en := [.sl 0 k27 Ax4_2_0 cx4_2_0 x4_2_0 0 false, .sl 2 k151 Ax4_4_0 cx4_4_0 x4_4_0 1 true, .sl 0 (.int .i64) Al1 cl1 l1 0 false, .sl 1 k27 At9_0 ct9_0 t9_0 4 true, .sl 2 k151 At9_3 ct9_3 t9_3 5 true, .sl 2 k151 A38_12 c38_12 (x4_6_0 ++ t9_3) 2 true]) (by kernel_rfl) (sv (EV.fa 0 rfl) rfl (so rfl (op_st (cs' := [.slice A38_12 (x4_6_0 ++ t9_3).length c38_12, .int .i64 x4_6_1, .int .i64 x4_6_2, .int .i64 x4_6_3]) 2 rfl rfl rfl rfl rfl rfl (re (pr [1, 2, 4, 6, 9] [0, 1, 2] [1, 2, 3, 5] rfl rfl rfl rfl (gs (rg (sv (EV.fa 1 rfl) rfl (sv (EV.ld 2 none rfl rfl rfl) rfl (sv (EV.add rfl rfl) rfl (sv (EV.fa 1 rfl) rfl (so rfl (op_st (cs' := [.slice A38_12 (x4_6_0 ++ t9_3).length c38_12, .int .i64 (wrap64 (x4_6_1 + 1)), .int .i64 x4_6_2, .int .i64 x4_6_3]) 2 rfl rfl rfl rfl rfl rfl (re (rg (sv (EV.fa 2 rfl) rfl (sv (EV.ld 2 none rfl rfl rfl) rfl (sv (EV.mv rfl) rfl (sv (EV.mx rfl rfl) rfl (sv (EV.fa 2 rfl) rfl (so rfl (op_st (cs' := [.slice A38_12 (x4_6_0 ++ t9_3).length c38_12, .int .i64 (wrap64 (x4_6_1 + 1)), .int .i64 (mx x4_6_2 t9_4), .int .i64 x4_6_3]) 2 rfl rfl rfl rfl rfl rfl (re (pr [1, 2, 4, 6] [0, 1, 2] [0, 1, 2, 3] rfl rfl rfl rfl (ge (wk [1, 2, 4, 6] [0, 1, 2] [⟨2, 0, 0, false⟩, ⟨0, 2, 1, true⟩, ⟨3, 2, 2, true⟩, ⟨1, 0, 0, false⟩] (ih0 _ (by omega) _ ⟨t9_0, At9_0, ct9_0, t9_1, t9_2, x4_4_0, Ax4_4_0, cx4_4_0, x4_4_1, x4_4_2, x4_4_3, x4_6_0 ++ t9_3, A38_12, c38_12, wrap64 (x4_6_1 + 1), mx x4_6_2 t9_4, x4_6_3, H, rfl⟩)))))))))))))))))))))))))))))
   ·
    obtain rfl := bF c10
    refine gt rfl rfl (gs (rg (sv (EV.bd (v := .agg #[.slice none 0 0, .int .i64 0, .int .i64 0, .int .i64 0]) rfl (by kernel_rfl)) rfl (so rfl (op_st (cs' := [.slice none 0 0, .int .i64 0, .int .i64 0, .int .i64 0]) 1 rfl rfl rfl rfl rfl rfl (sv (EV.as rfl) rfl (re (pr [4, 5] [1] [] rfl rfl rfl rfl (nil_ k151 1 dq ?_)))))))))
    cases H
    exact rt Try.func93 rfl (.cell 0 (some 4) rfl rfl rfl (.tmp rfl .nil)) rfl [] [⟨0, 2, 1, true⟩] rfl rfl rfl rfl rfl ⟨_, _, rfl, rfl, rfl⟩
 ·
  refine gf rfl (dF c1) (gx rfl (gs (rg (sv (EV.fa 1 rfl) rfl (sv (EV.ld 0 none rfl rfl rfl) rfl (sv (EV.fa 3 rfl) rfl (so rfl (op_st (cs' := [.slice Ax4_6_0 x4_6_0.length cx4_6_0, .int .i64 x4_6_1, .int .i64 x4_6_2, .int .i64 x4_2_1]) 2 rfl rfl rfl rfl rfl rfl (re (pr [4, 6] [1, 2] [1, 2] rfl rfl rfl rfl (gs (rg (sv (EV.ld (v := .agg #[.slice Ax4_6_0 x4_6_0.length cx4_6_0, .int .i64 x4_6_1, .int .i64 x4_6_2, .int .i64 x4_2_1]) 1 (some 4) rfl rfl rfl) rfl (so rfl (op_st (cs' := [.slice Ax4_6_0 x4_6_0.length cx4_6_0, .int .i64 x4_6_1, .int .i64 x4_6_2, .int .i64 x4_2_1]) 0 rfl rfl rfl rfl rfl rfl (sv (EV.as rfl) rfl (re ?_)))))))))))))))))
  cases H
  exact rt Try.func93 rfl (.cell 0 (some 4) rfl rfl rfl (.tmp rfl .nil)) rfl [] [⟨1, 2, 1, true⟩] rfl rfl rfl rfl rfl ⟨_, _, rfl, rfl, rfl⟩
def impl_StepsToFinish.f (k : Nat) (l0_0 : List S27) (a0_1 : Int) (a0_2 : Int) (l1 : List Int) : Option (Int × Bool) := (impl_IsValidJoiner.f k l0_0 a0_1 a0_2).bind fun t1 => (if t1 = true then ((impl_areGrants.f k l1).bind fun t3 => (if t3 = true then (if a0_1 > 50000 then (some (0, false)) else (if a0_2 > 500 then (some (0, false)) else (if (l0_0.length : Int) > 20 then (some (0, false)) else ((impl_cloneJoiner.f k l0_0 a0_1 a0_2).bind fun bt8 => ((impl_runJoiner.f k bt8.1 bt8.2.1 bt8.2.2 l1).bind fun bt9 => (if bt9.2.2.2.2 = true then (some (bt9.2.1, true)) else (some (0, false)))))))) else (some (0, false)))) else (some (0, false)))
set_option maxHeartbeats 4000000 in
set_option maxRecDepth 100000 in
theorem impl_StepsToFinish.ok (k : Nat) (l0_0 : List S27) (Al0_0 : Option Addr) (cl0_0 : Nat) (a0_1 : Int) (a0_2 : Int) (l1 : List Int) (Al1 : Option Addr) (cl1 : Nat) (r0 : Int) (r1 : Bool) (H : impl_StepsToFinish.f k l0_0 a0_1 a0_2 l1 = some (r0, r1)) : Fn Try.prog 38 [.agg #[.slice Al0_0 l0_0.length cl0_0, .int .i64 a0_1, .int .i64 a0_2], .slice Al1 l1.length cl1] [] [.sl 0 k27 Al0_0 cl0_0 l0_0 0 false, .sl 0 (.int .i64) Al1 cl1 l1 0 false] (fun v bx en => v = .tuple #[.int .i64 r0, .bool r1] ∧ bx = [] ∧ en = []) := by
 refine fn_ 43 Try.func38 rfl rfl rfl (fun base T w0 => ?_)
 rw [impl_StepsToFinish.f] at H
 refine gs (rg (so rfl (op_box (cs := [.slice Al0_0 l0_0.length cl0_0, .int .i64 a0_1, .int .i64 a0_2]) rfl rfl rfl fun b2 => (sv (EV.as rfl) rfl (sv (EV.as rfl) rfl (re (gs (gs (rg (sv (EV.ld (v := .agg #[.slice Al0_0 l0_0.length cl0_0, .int .i64 a0_1, .int .i64 a0_2]) 0 (some 3) rfl rfl rfl) rfl ?_))))))))))
 revert H; refine bdI ?_; rintro t1 A1 H
 refine so rfl (op_call (impl_IsValidJoiner.ok k l0_0 Al0_0 cl0_0 a0_1 a0_2 _ A1) [⟨0, 0, 0, false⟩] 1 rfl rfl rfl rfl rfl ?_)
 rintro _ _ _ ⟨rfl, rfl, rfl⟩
 refine sv (EV.nt rfl) rfl (sv (EV.mv rfl) rfl ?_)
 revert H; refine ifsI ?_ ?_ <;> intro c2 H
 ·
  subst c2
  refine ts 11 rfl rfl (sv (EV.mv rfl) rfl ?_)
  revert H; refine bdI ?_; rintro t3 A3 H
  refine so rfl (op_call (impl_areGrants.ok k l1 Al1 cl1 _ A3) [⟨1, 0, 0, false⟩] 1 rfl rfl rfl rfl rfl ?_)
  rintro _ _ _ ⟨rfl, rfl, rfl⟩
  refine sv (EV.nt rfl) rfl (sv (EV.pf rfl rfl rfl) rfl (sv (EV.mv rfl) rfl ?_))
  revert H; refine ifsI ?_ ?_ <;> intro c4 H
  ·
   subst c4
   refine ts 16 rfl rfl (sv (EV.fa 1 rfl) rfl (sv (EV.ld 0 none rfl rfl rfl) rfl (sv (EV.gtr rfl rfl) rfl (sv (EV.pf rfl rfl rfl) rfl (sv (EV.mv rfl) rfl ?_)))))
   revert H; refine ifsI ?_ ?_ <;> intro c5 H
   ·
    refine ts 21 rfl (dT c5) (sk rfl (sk rfl (sk rfl (sv (EV.pt rfl rfl rfl) rfl (sv (EV.mv rfl) rfl (sk rfl (sk rfl (sk rfl (sk rfl (sv (EV.pt rfl rfl rfl) rfl (re (pr [1, 2, 31] [0] [0, 1] rfl rfl rfl rfl (gt rfl rfl (gs (rg (sv (EV.as rfl) rfl (sv (EV.as rfl) rfl (re ?_))))))))))))))))))
    cases H
    exact rt Try.func38 rfl (.tmp rfl (.tmp rfl .nil)) rfl [] [] rfl rfl rfl rfl rfl ⟨rfl, rfl, rfl⟩
   ·
    refine ts 21 rfl (dF c5) (sv (EV.fa 2 rfl) rfl (sv (EV.ld 0 none rfl rfl rfl) rfl (sv (EV.gtr rfl rfl) rfl (sv (EV.pf rfl rfl rfl) rfl (sv (EV.mv rfl) rfl ?_)))))
    revert H; refine ifsI ?_ ?_ <;> intro c6 H
    ·
     refine ts 26 rfl (dT c6) (sk rfl (sk rfl (sk rfl (sk rfl (sv (EV.pt rfl rfl rfl) rfl (re (pr [1, 2, 31] [0] [0, 1] rfl rfl rfl rfl (gt rfl rfl (gs (rg (sv (EV.as rfl) rfl (sv (EV.as rfl) rfl (re ?_)))))))))))))
     cases H
     exact rt Try.func38 rfl (.tmp rfl (.tmp rfl .nil)) rfl [] [] rfl rfl rfl rfl rfl ⟨rfl, rfl, rfl⟩
    ·
     refine ts 26 rfl (dF c6) (sv (EV.fa 0 rfl) rfl (sv (EV.ld 0 none rfl rfl rfl) rfl (sv (EV.ln rfl) rfl (sv (EV.gtr rfl rfl) rfl (sv (EV.pf rfl rfl rfl) rfl (re (pr [1, 2, 31] [0] [0, 1] rfl rfl rfl rfl ?_)))))))
     revert H; refine ifsI ?_ ?_ <;> intro c7 H
     ·
      refine gt rfl (dT c7) (gs (rg (sv (EV.as rfl) rfl (sv (EV.as rfl) rfl (re ?_)))))
      cases H
      exact rt Try.func38 rfl (.tmp rfl (.tmp rfl .nil)) rfl [] [] rfl rfl rfl rfl rfl ⟨rfl, rfl, rfl⟩
     ·
      refine gf rfl (dF c7) (gk (gs (rg (sv (EV.ld (v := .agg #[.slice Al0_0 l0_0.length cl0_0, .int .i64 a0_1, .int .i64 a0_2]) 0 (some 3) rfl rfl rfl) rfl ?_))))
      revert H; refine bdI ?_; rintro ⟨t8_0, t8_1, t8_2⟩ A8 H
      refine so rfl (op_call (impl_cloneJoiner.ok k l0_0 Al0_0 cl0_0 a0_1 a0_2 _ _ _ A8) [⟨0, 0, 0, false⟩] 1 rfl rfl rfl rfl rfl ?_)
      rintro _ _ _ ⟨At8_0, ct8_0, rfl, rfl, rfl⟩
      refine sv (EV.mv rfl) rfl ?_
      revert H; refine bdI ?_; rintro ⟨t9_0, t9_1, t9_2, t9_3, t9_4⟩ A9 H
      refine so rfl (op_call (impl_runJoiner.ok k t8_0 At8_0 ct8_0 t8_1 t8_2 l1 Al1 cl1 _ _ _ _ _ A9) [⟨2, 0, 0, false⟩, ⟨1, 0, 0, false⟩] 3 rfl rfl rfl rfl rfl ?_)
      rintro _ _ _ ⟨At9_0, ct9_0, rfl, rfl, rfl⟩
      refine sv (EV.mv rfl) rfl (sv (EV.ex rfl rfl) rfl (sv (EV.ex rfl rfl) rfl (so rfl (op_alloc (cs := [.slice none 0 0, .int .i64 0, .int .i64 0, .int .i64 0]) (by kernel_rfl) rfl fun b6 => (so rfl (op_st (cs' := [.slice At9_0 t9_0.length ct9_0, .int .i64 t9_1, .int .i64 t9_2, .int .i64 t9_3]) 1 rfl rfl rfl rfl rfl rfl (sv (EV.as rfl) rfl (re (pr [6, 7] [1] [3] rfl rfl rfl rfl (gs (gs (rg (sv (EV.mv rfl) rfl (sv (EV.nt rfl) rfl (re ?_)))))))))))))))
      revert H; refine ifsI ?_ ?_ <;> intro c10 H
      ·
       subst c10
       refine gf rfl rfl (gk (gs (rg (sv (EV.fa 1 rfl) rfl (sv (EV.ld 0 none rfl rfl rfl) rfl (sv (EV.as rfl) rfl (sv (EV.as rfl) rfl (re (pr [4, 5] [] [] rfl rfl rfl rfl ?_)))))))))
       cases H
       exact rt Try.func38 rfl (.tmp rfl (.tmp rfl .nil)) rfl [] [] rfl rfl rfl rfl rfl ⟨rfl, rfl, rfl⟩
      ·
       obtain rfl := bF c10
       refine gt rfl rfl (gs (rg (sv (EV.as rfl) rfl (sv (EV.as rfl) rfl (re ?_)))))
       cases H
       exact rt Try.func38 rfl (.tmp rfl (.tmp rfl .nil)) rfl [] [] rfl rfl rfl rfl rfl ⟨rfl, rfl, rfl⟩
  ·
   obtain rfl := bF c4
   refine ts 16 rfl rfl (sk rfl (sk rfl (sk rfl (sv (EV.pt rfl rfl rfl) rfl (sv (EV.mv rfl) rfl (sk rfl (sk rfl (sk rfl (sv (EV.pt rfl rfl rfl) rfl (sv (EV.mv rfl) rfl (sk rfl (sk rfl (sk rfl (sk rfl (sv (EV.pt rfl rfl rfl) rfl (re (pr [1, 2, 31] [0] [0, 1] rfl rfl rfl rfl (gt rfl rfl (gs (rg (sv (EV.as rfl) rfl (sv (EV.as rfl) rfl (re ?_)))))))))))))))))))))))
   cases H
   exact rt Try.func38 rfl (.tmp rfl (.tmp rfl .nil)) rfl [] [] rfl rfl rfl rfl rfl ⟨rfl, rfl, rfl⟩
 ·
  obtain rfl := bF c2
  refine ts 11 rfl rfl (sk rfl (sk rfl (sk rfl (sv (EV.pt rfl rfl rfl) rfl (sv (EV.mv rfl) rfl (sk rfl (sk rfl (sk rfl (sv (EV.pt rfl rfl rfl) rfl (sv (EV.mv rfl) rfl (sk rfl (sk rfl (sk rfl (sv (EV.pt rfl rfl rfl) rfl (sv (EV.mv rfl) rfl (sk rfl (sk rfl (sk rfl (sk rfl (sv (EV.pt rfl rfl rfl) rfl (re (pr [1, 2, 31] [0] [0, 1] rfl rfl rfl rfl (gt rfl rfl (gs (rg (sv (EV.as rfl) rfl (sv (EV.as rfl) rfl (re ?_))))))))))))))))))))))))))))
  cases H
  exact rt Try.func38 rfl (.tmp rfl (.tmp rfl .nil)) rfl [] [] rfl rfl rfl rfl rfl ⟨rfl, rfl, rfl⟩
def spec_l14Grants.l0 : Nat → Int → (List Int) → Option (Bool)
 | 0, _, _ => none
 | k + 1, x2_3, l0 => if x2_3 < (l0.length : Int) then (if 0 ≤ x2_3 then ((spec_l1In.f (rdOf 0 l0 x2_3) 8 60).bind fun t3 => (if t3 = true then (spec_l14Grants.l0 k (wrap64 (x2_3 + 1)) l0) else (some false))) else none) else (some (decide ((l0.length : Int) > 0)))
def spec_l14Grants.f (k : Nat) (l0 : List Int) : Option (Bool) := spec_l14Grants.l0 k 0 l0
set_option maxHeartbeats 4000000 in
set_option maxRecDepth 100000 in
theorem spec_l14Grants.ok (k : Nat) (l0 : List Int) (Al0 : Option Addr) (cl0 : Nat) (r0 : Bool) (H : spec_l14Grants.f k l0 = some r0) : Fn Try.prog 95 [.slice Al0 l0.length cl0] [] [.sl 0 (.int .i64) Al0 cl0 l0 0 false] (fun v bx en => v = .bool r0 ∧ bx = [] ∧ en = []) := by
 refine fn_ 19 Try.func95 rfl rfl rfl (fun base T w0 => ?_)
 rw [spec_l14Grants.f] at H
 refine gs (rg (sv (EV.as rfl) rfl (re (gs (gs (rg (sv (EV.as rfl) rfl (re (gb ?_)))))))))
 refine lo (fun kk S => ∃ (x2_3 : Int), spec_l14Grants.l0 kk x2_3 l0 = some r0 ∧ S = ⟨[(0, .slice Al0 l0.length cl0), (3, .int .i64 x2_3)], [], [.sl 0 (.int .i64) Al0 cl0 l0 0 false]⟩) (fun S hS => ?_) (fun n0 ih0 S hS => ?_) ⟨0, H, rfl⟩ (fun h => wk [0, 3] [] [⟨0, 0, 0, false⟩] h)
 · clear H; obtain ⟨_, H, _⟩ := hS; rw [spec_l14Grants.l0] at H; cases H
 clear H
 obtain ⟨x2_3, H, rfl⟩ := hS
 rw [spec_l14Grants.l0] at H
 refine gs (gs (rg (sv (EV.mv rfl) rfl (sv (EV.mv rfl) rfl (sv (EV.ln rfl) rfl (sv (EV.lss rfl rfl) rfl (re ?_)))))))
 revert H; refine ifsI ?_ ?_ <;> intro c1 H
 ·
  refine gt rfl (dT c1) (gk (gs (gb (gs (rg (sv (EV.mv rfl) rfl (sv (EV.mv rfl) rfl ?_)))))))
  revert H; refine ggI ?_; intro g2 H
  refine sv (EV.ix 0 rfl rfl rfl g2 c1 rfl) rfl (sv (EV.le (v := .int .i64 (rdOf 0 l0 x2_3)) x2_3 0 none 0 0 rfl rfl rfl g2 c1 rfl rfl rfl) rfl ?_)
  revert H; refine bdI ?_; rintro t3 A3 H
  refine so rfl (op_call (spec_l1In.ok (rdOf 0 l0 x2_3) 8 60 _ A3) [] 1 rfl rfl rfl rfl rfl ?_)
  rintro _ _ _ ⟨rfl, rfl, rfl⟩
  refine sv (EV.nt rfl) rfl (re (pr [0, 3, 15] [] [0] rfl rfl rfl rfl ?_))
  revert H; refine ifsI ?_ ?_ <;> intro c4 H
  ·
   subst c4
   exact gf rfl rfl (gk (ge (rg (sv (EV.mv rfl) rfl (sv (EV.add rfl rfl) rfl (sv (EV.as rfl) rfl (re (wk [0, 3] [] [⟨0, 0, 0, false⟩] (ih0 _ (by omega) _ ⟨wrap64 (x2_3 + 1), H, rfl⟩)))))))))
  ·
   obtain rfl := bF c4
   refine gt rfl rfl (gs (rg (sv (EV.as rfl) rfl (re ?_))))
   cases H
   exact rt Try.func95 rfl (.tmp rfl .nil) rfl [] [] rfl rfl rfl rfl rfl ⟨rfl, rfl, rfl⟩
 ·
  refine gf rfl (dF c1) (gx rfl (gs (rg (sv (EV.mv rfl) rfl (sv (EV.ln rfl) rfl (sv (EV.gtr rfl rfl) rfl (sv (EV.as rfl) rfl (re (pr [2] [] [] rfl rfl rfl rfl ?_)))))))))
  cases H
  exact rt Try.func95 rfl (.tmp rfl .nil) rfl [] [] rfl rfl rfl rfl rfl ⟨rfl, rfl, rfl⟩
def spec_l20Go.l0 : Nat → (List S27) → Int → Int → (List S151) → Int → Int → Int → (List S151) → Int → Int → Int → (List Int) → Option ((List S151) × Int × Int × Int)
 | 0, _, _, _, _, _, _, _, _, _, _, _, _ => none
 | k + 1, x4_2_0, x4_2_1, x4_2_2, x4_4_0, x4_4_1, x4_4_2, x4_4_3, x4_5_0, x4_5_1, x4_5_2, x4_5_3, l1 => if (x4_2_0.length : Int) > 0 then (if (l1.length : Int) ≠ 0 then (if 0 ≤ (Int.tmod x4_5_1 (l1.length : Int)) then (if (Int.tmod x4_5_1 (l1.length : Int)) < (l1.length : Int) then ((spec_StepJoiner.f k x4_2_0 x4_2_1 x4_2_2 (rdOf 0 l1 (Int.tmod x4_5_1 (l1.length : Int)))).bind fun bt5 => (if bt5.2.2.2.2.2 = true then (if x4_5_0.length + bt5.2.2.2.1.length ≤ 2513169434916 then (spec_l20Go.l0 k bt5.1 bt5.2.1 bt5.2.2.1 x4_4_0 x4_4_1 x4_4_2 x4_4_3 (x4_5_0 ++ bt5.2.2.2.1) (wrap64 (x4_5_1 + 1)) (mx x4_5_2 bt5.2.2.2.2.1) x4_5_3 l1) else none) else (some (x4_5_0, x4_5_1, x4_5_2, x4_5_3)))) else none) else none) else none) else (some (x4_5_0, x4_5_1, x4_5_2, x4_2_1))
def spec_l20Go.f (k : Nat) (l0_0 : List S27) (a0_1 : Int) (a0_2 : Int) (l1 : List Int) : Option ((List S151) × Int × Int × Int) := spec_l20Go.l0 k l0_0 a0_1 a0_2 [] 0 0 0 [] 0 0 0 l1
set_option maxHeartbeats 4000000 in
set_option maxRecDepth 100000 in
theorem spec_l20Go.ok (k : Nat) (l0_0 : List S27) (Al0_0 : Option Addr) (cl0_0 : Nat) (a0_1 : Int) (a0_2 : Int) (l1 : List Int) (Al1 : Option Addr) (cl1 : Nat) (r0 : List S151) (r1 : Int) (r2 : Int) (r3 : Int) (H : spec_l20Go.f k l0_0 a0_1 a0_2 l1 = some (r0, r1, r2, r3)) : Fn Try.prog 96 [.agg #[.slice Al0_0 l0_0.length cl0_0, .int .i64 a0_1, .int .i64 a0_2], .slice Al1 l1.length cl1] [] [.sl 0 k27 Al0_0 cl0_0 l0_0 0 false, .sl 0 (.int .i64) Al1 cl1 l1 0 false] (fun v bx en => ∃ A0 c0, v = .agg #[.slice A0 r0.length c0, .int .i64 r1, .int .i64 r2, .int .i64 r3] ∧ bx = [] ∧ en = [.sl 2 k151 A0 c0 r0 1 true]) := by
 refine fn_ 52 Try.func96 rfl rfl rfl (fun base T w0 => ?_)
 rw [spec_l20Go.f] at H
 refine gs (rg (so rfl (op_box (cs := [.slice Al0_0 l0_0.length cl0_0, .int .i64 a0_1, .int .i64 a0_2]) rfl rfl rfl fun b2 => (so rfl (op_alloc (cs := [.slice none 0 0, .int .i64 0, .int .i64 0, .int .i64 0]) (by kernel_rfl) rfl fun b4 => (re (gs (rg (sv (EV.bd (v := .agg #[.slice none 0 0, .int .i64 0, .int .i64 0, .int .i64 0]) rfl (by kernel_rfl)) rfl (so rfl (op_alloc (cs := [.slice none 0 0, .int .i64 0, .int .i64 0, .int .i64 0]) (by kernel_rfl) rfl fun b5 => (so rfl (op_st (cs' := [.slice none 0 0, .int .i64 0, .int .i64 0, .int .i64 0]) 2 rfl rfl rfl rfl rfl rfl (re (gs (gb (nil_ k151 1 dq (nil_ k151 2 dq ?_))))))))))))))))))
 refine lo (fun kk S => ∃ (x4_2_0 : List S27) (Ax4_2_0 : Option Addr) (cx4_2_0 : Nat) (x4_2_1 : Int) (x4_2_2 : Int) (x4_4_0 : List S151) (Ax4_4_0 : Option Addr) (cx4_4_0 : Nat) (x4_4_1 : Int) (x4_4_2 : Int) (x4_4_3 : Int) (x4_5_0 : List S151) (Ax4_5_0 : Option Addr) (cx4_5_0 : Nat) (x4_5_1 : Int) (x4_5_2 : Int) (x4_5_3 : Int), spec_l20Go.l0 kk x4_2_0 x4_2_1 x4_2_2 x4_4_0 x4_4_1 x4_4_2 x4_4_3 x4_5_0 x4_5_1 x4_5_2 x4_5_3 l1 = some (r0, r1, r2, r3) ∧ S = ⟨[(1, .slice Al1 l1.length cl1), (2, .pointer (some ⟨b2, 0, none⟩)), (4, .pointer (some ⟨b4, 0, none⟩)), (5, .pointer (some ⟨b5, 0, none⟩))], [⟨b2, 60, [.slice Ax4_2_0 x4_2_0.length cx4_2_0, .int .i64 x4_2_1, .int .i64 x4_2_2]⟩, ⟨b4, 110, [.slice Ax4_4_0 x4_4_0.length cx4_4_0, .int .i64 x4_4_1, .int .i64 x4_4_2, .int .i64 x4_4_3]⟩, ⟨b5, 110, [.slice Ax4_5_0 x4_5_0.length cx4_5_0, .int .i64 x4_5_1, .int .i64 x4_5_2, .int .i64 x4_5_3]⟩], [.sl 0 k27 Ax4_2_0 cx4_2_0 x4_2_0 0 false, .sl 2 k151 Ax4_4_0 cx4_4_0 x4_4_0 1 true, .sl 2 k151 Ax4_5_0 cx4_5_0 x4_5_0 2 true, .sl 0 (.int .i64) Al1 cl1 l1 0 false]⟩) (fun S hS => ?_) (fun n0 ih0 S hS => ?_) ⟨l0_0, Al0_0, cl0_0, a0_1, a0_2, [], none, 0, 0, 0, 0, [], none, 0, 0, 0, 0, H, rfl⟩ (fun h => wk [1, 2, 4, 5] [0, 1, 2] [⟨0, 0, 0, false⟩, ⟨2, 2, 1, true⟩, ⟨3, 2, 2, true⟩, ⟨1, 0, 0, false⟩] h)
 · clear H; obtain ⟨_, _, _, _, _, _, _, _, _, _, _, _, _, _, _, _, _, H, _⟩ := hS; rw [spec_l20Go.l0] at H; cases H
 clear H
 obtain ⟨x4_2_0, Ax4_2_0, cx4_2_0, x4_2_1, x4_2_2, x4_4_0, Ax4_4_0, cx4_4_0, x4_4_1, x4_4_2, x4_4_3, x4_5_0, Ax4_5_0, cx4_5_0, x4_5_1, x4_5_2, x4_5_3, H, rfl⟩ := hS
 rw [spec_l20Go.l0] at H
 refine gs (gs (rg (sv (EV.fa 0 rfl) rfl (sv (EV.ld 0 none rfl rfl rfl) rfl (sv (EV.ln rfl) rfl (sv (EV.gtr rfl rfl) rfl (re ?_)))))))
 revert H; refine ifsI ?_ ?_ <;> intro c1 H
 ·
  refine gt rfl (dT c1) (gk (gb (gs ?_)))
  revert H; refine ggI ?_; intro g2 H
  refine dr [0, 1, 2] [0, 1, 2, 3] [19] 20 rfl rfl rfl rfl (xv 0 [0, 1, 2] [0, 1, 2, 3] rfl (EV.ld (v := .agg #[.slice Ax4_2_0 x4_2_0.length cx4_2_0, .int .i64 x4_2_1, .int .i64 x4_2_2]) 0 (some 3) rfl rfl rfl) rfl rfl rfl rfl (xv 1 [0, 1, 2] [0, 1, 2, 3] rfl (EV.mv rfl) rfl rfl rfl rfl (xv 2 [0, 1, 2] [0, 1, 2, 3] rfl (EV.fa 1 rfl) rfl rfl rfl rfl (xv 3 [0, 1, 2] [0, 1, 2, 3] rfl (EV.ld 2 none rfl rfl rfl) rfl rfl rfl rfl (xv 4 [0, 1, 2] [0, 1, 2, 3] rfl (EV.mv rfl) rfl rfl rfl rfl (xv 5 [0, 1, 2] [0, 1, 2, 3] rfl (EV.ln rfl) rfl rfl rfl rfl (xv 6 [0, 1, 2] [0, 1, 2, 3] rfl (EV.rem rfl rfl g2) rfl rfl rfl rfl ?_)))))))
  revert H; refine ggI ?_; intro g3 H
  revert H; refine ggI ?_; intro g4 H
  refine xv 7 [0, 1, 2] [0, 1, 2, 3] rfl (EV.ix 3 rfl rfl rfl g3 g4 rfl) rfl rfl rfl rfl (xv 8 [0, 1, 2] [0, 1, 2, 3] rfl (EV.le (v := .int .i64 (rdOf 0 l1 (Int.tmod x4_5_1 (l1.length : Int)))) (Int.tmod x4_5_1 (l1.length : Int)) 0 none 3 0 rfl rfl rfl g3 g4 rfl rfl rfl) rfl rfl rfl rfl ?_)
  refine one2 9 15 rfl rfl rfl rfl ?_ ?_
  ·
   revert H; refine bdI ?_; rintro ⟨t5_0, t5_1, t5_2, t5_3, t5_4, t5_5⟩ A5 H
   refine op_call (spec_StepJoiner.ok n0 x4_2_0 Ax4_2_0 cx4_2_0 x4_2_1 x4_2_2 (rdOf 0 l1 (Int.tmod x4_5_1 (l1.length : Int))) _ _ _ _ _ _ A5) [⟨0, 0, 0, false⟩] 3 rfl rfl rfl rfl rfl ?_
   rintro _ _ _ ⟨At5_0, ct5_0, At5_3, ct5_3, rfl, rfl, rfl⟩
   refine xs [0, 1, 2] [0, 1, 2, 3] rfl rfl rfl (xv 10 [0, 1, 2] [0, 1, 2, 3] rfl (EV.mv rfl) rfl rfl rfl rfl (xv 11 [0, 1, 2] [0, 1, 2, 3] rfl (EV.ex rfl rfl) rfl rfl rfl rfl (xv 12 [0, 1, 2] [0, 1, 2, 3] rfl (EV.ex rfl rfl) rfl rfl rfl rfl (xv 13 [0, 1, 2] [0, 1, 2, 3] rfl (EV.ex rfl rfl) rfl rfl rfl rfl (xv 14 [0, 1, 2] [0, 1, 2, 3] rfl (EV.ex rfl rfl) rfl rfl rfl rfl (one1 15 rfl rfl (op_alloc (cs := [.slice none 0 0, .int .i64 0, .int .i64 0]) (by kernel_rfl) rfl fun b6 => (xs [0, 1, 2] [0, 1, 2, 3] rfl rfl rfl (one1 16 rfl rfl (op_st (cs' := [.slice At5_0 t5_0.length ct5_0, .int .i64 t5_1, .int .i64 t5_2]) 3 rfl rfl rfl rfl rfl rfl (xs [0, 1, 2] [0, 1, 2, 3] rfl rfl rfl (one1 17 rfl rfl (ov (EV.as rfl) rfl (xs [0, 1, 2] [0, 1, 2, 3] rfl rfl rfl (one1 18 rfl rfl (ov (EV.as rfl) rfl (xs [0, 1, 2] [0, 1, 2, 3] rfl rfl rfl (one1 19 rfl rfl (ov (EV.as rfl) rfl (xn rfl (xd (pr [1, 2, 4, 5, 6, 7, 8, 9] [0, 1, 2, 3] [0, 1, 2, 3, 4, 5] rfl rfl rfl rfl (gs (gs (rg (sv (EV.mv rfl) rfl (sv (EV.nt rfl) rfl (re ?_))))))))))))))))))))))))))))
   revert H; refine ifsI ?_ ?_ <;> intro c6 H
   ·
    subst c6
    refine gf rfl rfl (gk (gs (rg (sv (EV.fa 1 rfl) rfl (sv (EV.ld 2 none rfl rfl rfl) rfl (sv (EV.add rfl rfl) rfl (sv (EV.fa 1 rfl) rfl (so rfl (op_st (cs' := [.slice Ax4_5_0 x4_5_0.length cx4_5_0, .int .i64 (wrap64 (x4_5_1 + 1)), .int .i64 x4_5_2, .int .i64 x4_5_3]) 2 rfl rfl rfl rfl rfl rfl (re (pr [1, 2, 4, 5, 6, 7, 8] [0, 1, 2, 3] [0, 1, 2, 3, 4, 5] rfl rfl rfl rfl (gs (rg (sv (EV.fa 0 rfl) rfl (sv (EV.ld 2 none rfl rfl rfl) rfl (sv (EV.mv rfl) rfl ?_))))))))))))))))
    revert H; refine ggI ?_; intro g7 H
    exact so rfl (op_app (k := k151) (s := 7) (by_ := 56) 2 5 rfl rfl rfl rfl (ap2 g7 dq) (ap2n g7 dq) (.inl rfl) true (fun _ => .inl rfl) rfl rfl fun A40_8 c40_8 => (nmE (en := [.sl 0 k27 Ax4_2_0 cx4_2_0 x4_2_0 0 false, .sl 2 k151 Ax4_4_0 cx4_4_0 x4_4_0 1 true, .sl 0 (.int .i64) Al1 cl1 l1 0 false, .sl 1 k27 At5_0 ct5_0 t5_0 4 true, .sl 2 k151 At5_3 ct5_3 t5_3 5 true, .sl 2 k151 A40_8 c40_8 (x4_5_0 ++ t5_3) 2 true]) (by kernel_rfl) (sv (EV.fa 0 rfl) rfl (so rfl (op_st (cs' := [.slice A40_8 (x4_5_0 ++ t5_3).length c40_8, .int .i64 (wrap64 (x4_5_1 + 1)), .int .i64 x4_5_2, .int .i64 x4_5_3]) 2 rfl rfl rfl rfl rfl rfl (re (pr [1, 2, 4, 5, 6, 8] [0, 1, 2, 3] [0, 1, 2, 3, 5] rfl rfl rfl rfl (gs (rg (sv (EV.fa 2 rfl) rfl (sv (EV.ld 2 none rfl rfl rfl) rfl (sv (EV.mv rfl) rfl (sv (EV.mx rfl rfl) rfl (sv (EV.fa 2 rfl) rfl (so rfl (op_st (cs' := [.slice A40_8 (x4_5_0 ++ t5_3).length c40_8, .int .i64 (wrap64 (x4_5_1 + 1)), .int .i64 (mx x4_5_2 t5_4), .int .i64 x4_5_3]) 2 rfl rfl rfl rfl rfl rfl (re (pr [1, 2, 4, 5, 6] [0, 1, 2, 3] [0, 1, 2, 3, 4] rfl rfl rfl rfl (rg (sv (EV.ld (v := .agg #[.slice At5_0 t5_0.length ct5_0, .int .i64 t5_1, .int .i64 t5_2]) 3 (some 3) rfl rfl rfl) rfl (so rfl (op_st (cs' := [.slice At5_0 t5_0.length ct5_0, .int .i64 t5_1, .int .i64 t5_2]) 0 rfl rfl rfl rfl rfl rfl (re (ge (wk [1, 2, 4, 5] [0, 1, 2] [⟨3, 0, 0, false⟩, ⟨1, 2, 1, true⟩, ⟨4, 2, 2, true⟩, ⟨2, 0, 0, false⟩] (ih0 _ (by omega) _ ⟨t5_0, At5_0, ct5_0, t5_1, t5_2, x4_4_0, Ax4_4_0, cx4_4_0, x4_4_1, x4_4_2, x4_4_3, x4_5_0 ++ t5_3, A40_8, c40_8, wrap64 (x4_5_1 + 1), mx x4_5_2 t5_4, x4_5_3, H, rfl⟩))))))))))))))))))))))))))
   ·
    obtain rfl := bF c6
    refine gt rfl rfl (gs (rg (sv (EV.ld (v := .agg #[.slice Ax4_5_0 x4_5_0.length cx4_5_0, .int .i64 x4_5_1, .int .i64 x4_5_2, .int .i64 x4_5_3]) 2 (some 4) rfl rfl rfl) rfl (so rfl (op_st (cs' := [.slice Ax4_5_0 x4_5_0.length cx4_5_0, .int .i64 x4_5_1, .int .i64 x4_5_2, .int .i64 x4_5_3]) 1 rfl rfl rfl rfl rfl rfl (re (pr [4] [1] [2] rfl rfl rfl rfl ?_)))))))
    cases H
    exact rt Try.func96 rfl (.cell 0 (some 4) rfl rfl rfl .nil) rfl [] [⟨0, 2, 1, true⟩] rfl rfl rfl rfl rfl ⟨_, _, rfl, rfl, rfl⟩
  ·
   refine op_alloc (cs := [.slice none 0 0, .int .i64 0, .int .i64 0]) (by kernel_rfl) rfl fun b6 => (xs [0, 1, 2] [0, 1, 2, 3] rfl rfl rfl (one1 9 rfl rfl ?_))
   revert H; refine bdI ?_; rintro ⟨t9_0, t9_1, t9_2, t9_3, t9_4, t9_5⟩ A9 H
   refine op_call (spec_StepJoiner.ok n0 x4_2_0 Ax4_2_0 cx4_2_0 x4_2_1 x4_2_2 (rdOf 0 l1 (Int.tmod x4_5_1 (l1.length : Int))) _ _ _ _ _ _ A9) [⟨0, 0, 0, false⟩] 3 rfl rfl rfl rfl rfl ?_
   rintro _ _ _ ⟨At9_0, ct9_0, At9_3, ct9_3, rfl, rfl, rfl⟩
   refine xs [0, 1, 2] [0, 1, 2, 3] rfl rfl rfl (xv 10 [0, 1, 2] [0, 1, 2, 3] rfl (EV.mv rfl) rfl rfl rfl rfl (xv 11 [0, 1, 2] [0, 1, 2, 3] rfl (EV.ex rfl rfl) rfl rfl rfl rfl (xv 12 [0, 1, 2] [0, 1, 2, 3] rfl (EV.ex rfl rfl) rfl rfl rfl rfl (xv 13 [0, 1, 2] [0, 1, 2, 3] rfl (EV.ex rfl rfl) rfl rfl rfl rfl (xv 14 [0, 1, 2] [0, 1, 2, 3] rfl (EV.ex rfl rfl) rfl rfl rfl rfl (one1 16 rfl rfl (op_st (cs' := [.slice At9_0 t9_0.length ct9_0, .int .i64 t9_1, .int .i64 t9_2]) 3 rfl rfl rfl rfl rfl rfl (xs [0, 1, 2] [0, 1, 2, 3] rfl rfl rfl (one1 17 rfl rfl (ov (EV.as rfl) rfl (xs [0, 1, 2] [0, 1, 2, 3] rfl rfl rfl (one1 18 rfl rfl (ov (EV.as rfl) rfl (xs [0, 1, 2] [0, 1, 2, 3] rfl rfl rfl (one1 19 rfl rfl (ov (EV.as rfl) rfl (xn rfl (xd (pr [1, 2, 4, 5, 6, 7, 8, 9] [0, 1, 2, 3] [0, 1, 2, 3, 4, 5] rfl rfl rfl rfl (gs (gs (rg (sv (EV.mv rfl) rfl (sv (EV.nt rfl) rfl (re ?_)))))))))))))))))))))))))
   revert H; refine ifsI ?_ ?_ <;> intro c10 H
   ·
    subst c10
    refine gf rfl rfl (gk (gs (rg (sv (EV.fa 1 rfl) rfl (sv (EV.ld 2 none rfl rfl rfl) rfl (sv (EV.add rfl rfl) rfl (sv (EV.fa 1 rfl) rfl (so rfl (op_st (cs' := [.slice Ax4_5_0 x4_5_0.length cx4_5_0, .int .i64 (wrap64 (x4_5_1 + 1)), .int .i64 x4_5_2, .int .i64 x4_5_3]) 2 rfl rfl rfl rfl rfl rfl (re (pr [1, 2, 4, 5, 6, 7, 8] [0, 1, 2, 3] [0, 1, 2, 3, 4, 5] rfl rfl rfl rfl (gs (rg (sv (EV.fa 0 rfl) rfl (sv (EV.ld 2 none rfl rfl rfl) rfl (sv (EV.mv rfl) rfl ?_))))))))))))))))
    revert H; refine ggI ?_; intro g11 H
    exact so rfl (op_app (k := k151) (s := 7) (by_ := 56) 2 5 rfl rfl rfl rfl (ap2 g11 dq) (ap2n g11 dq) (.inl rfl) true (fun _ => .inl rfl) rfl rfl fun A40_12 c40_12 => (nmE (en := [.sl 0 k27 Ax4_2_0 cx4_2_0 x4_2_0 0 false, .sl 2 k151 Ax4_4_0 cx4_4_0 x4_4_0 1 true, .sl 0 (.int .i64) Al1 cl1 l1 0 false, .sl 1 k27 At9_0 ct9_0 t9_0 4 true, .sl 2 k151 At9_3 ct9_3 t9_3 5 true, .sl 2 k151 A40_12 c40_12 (x4_5_0 ++ t9_3) 2 true]) (by kernel_rfl) (sv (EV.fa 0 rfl) rfl (so rfl (op_st (cs' := [.slice A40_12 (x4_5_0 ++ t9_3).length c40_12, .int .i64 (wrap64 (x4_5_1 + 1)), .int .i64 x4_5_2, .int .i64 x4_5_3]) 2 rfl rfl rfl rfl rfl rfl (re (pr [1, 2, 4, 5, 6, 8] [0, 1, 2, 3] [0, 1, 2, 3, 5] rfl rfl rfl rfl (gs (rg (sv (EV.fa 2 rfl) rfl (sv (EV.ld 2 none rfl rfl rfl) rfl (sv (EV.mv rfl) rfl (sv (EV.mx rfl rfl) rfl (sv (EV.fa 2 rfl) rfl (so rfl (op_st (cs' := [.slice A40_12 (x4_5_0 ++ t9_3).length c40_12, .int .i64 (wrap64 (x4_5_1 + 1)), .int .i64 (mx x4_5_2 t9_4), .int .i64 x4_5_3]) 2 rfl rfl rfl rfl rfl rfl (re (pr [1, 2, 4, 5, 6] [0, 1, 2, 3] [0, 1, 2, 3, 4] rfl rfl rfl rfl (rg (sv (EV.ld (v := .agg #[.slice At9_0 t9_0.length ct9_0, .int .i64 t9_1, .int .i64 t9_2]) 3 (some 3) rfl rfl rfl) rfl (so rfl (op_st (cs' := [.slice At9_0 t9_0.length ct9_0, .int .i64 t9_1, .int .i64 t9_2]) 0 rfl rfl rfl rfl rfl rfl (re (ge (wk [1, 2, 4, 5] [0, 1, 2] [⟨3, 0, 0, false⟩, ⟨1, 2, 1, true⟩, ⟨4, 2, 2, true⟩, ⟨2, 0, 0, false⟩] (ih0 _ (by omega) _ ⟨t9_0, At9_0, ct9_0, t9_1, t9_2, x4_4_0, Ax4_4_0, cx4_4_0, x4_4_1, x4_4_2, x4_4_3, x4_5_0 ++ t9_3, A40_12, c40_12, wrap64 (x4_5_1 + 1), mx x4_5_2 t9_4, x4_5_3, H, rfl⟩))))))))))))))))))))))))))
   ·
    obtain rfl := bF c10
    refine gt rfl rfl (gs (rg (sv (EV.ld (v := .agg #[.slice Ax4_5_0 x4_5_0.length cx4_5_0, .int .i64 x4_5_1, .int .i64 x4_5_2, .int .i64 x4_5_3]) 2 (some 4) rfl rfl rfl) rfl (so rfl (op_st (cs' := [.slice Ax4_5_0 x4_5_0.length cx4_5_0, .int .i64 x4_5_1, .int .i64 x4_5_2, .int .i64 x4_5_3]) 1 rfl rfl rfl rfl rfl rfl (re (pr [4] [1] [2] rfl rfl rfl rfl ?_)))))))
    cases H
    exact rt Try.func96 rfl (.cell 0 (some 4) rfl rfl rfl .nil) rfl [] [⟨0, 2, 1, true⟩] rfl rfl rfl rfl rfl ⟨_, _, rfl, rfl, rfl⟩
 ·
  refine gf rfl (dF c1) (gx rfl (gs (rg (sv (EV.fa 1 rfl) rfl (sv (EV.ld 0 none rfl rfl rfl) rfl (sv (EV.fa 3 rfl) rfl (so rfl (op_st (cs' := [.slice Ax4_5_0 x4_5_0.length cx4_5_0, .int .i64 x4_5_1, .int .i64 x4_5_2, .int .i64 x4_2_1]) 2 rfl rfl rfl rfl rfl rfl (re (pr [4, 5] [1, 2] [1, 2] rfl rfl rfl rfl (gs (rg (sv (EV.ld (v := .agg #[.slice Ax4_5_0 x4_5_0.length cx4_5_0, .int .i64 x4_5_1, .int .i64 x4_5_2, .int .i64 x4_2_1]) 1 (some 4) rfl rfl rfl) rfl (so rfl (op_st (cs' := [.slice Ax4_5_0 x4_5_0.length cx4_5_0, .int .i64 x4_5_1, .int .i64 x4_5_2, .int .i64 x4_2_1]) 0 rfl rfl rfl rfl rfl rfl (re ?_))))))))))))))))
  cases H
  exact rt Try.func96 rfl (.cell 0 (some 4) rfl rfl rfl .nil) rfl [] [⟨1, 2, 1, true⟩] rfl rfl rfl rfl rfl ⟨_, _, rfl, rfl, rfl⟩
def spec_StepsToFinish.f (k : Nat) (l0_0 : List S27) (a0_1 : Int) (a0_2 : Int) (l1 : List Int) : Option (Int × Bool) := (spec_IsValidJoiner.f k l0_0 a0_1 a0_2).bind fun t1 => (if t1 = true then ((spec_l14Grants.f k l1).bind fun t3 => (if t3 = true then (if a0_1 > 50000 then (some (0, false)) else (if a0_2 > 500 then (some (0, false)) else (if (l0_0.length : Int) > 20 then (some (0, false)) else ((spec_l20Go.f k l0_0 a0_1 a0_2 l1).bind fun bt8 => (some (bt8.2.1, true)))))) else (some (0, false)))) else (some (0, false)))
set_option maxHeartbeats 4000000 in
set_option maxRecDepth 100000 in
theorem spec_StepsToFinish.ok (k : Nat) (l0_0 : List S27) (Al0_0 : Option Addr) (cl0_0 : Nat) (a0_1 : Int) (a0_2 : Int) (l1 : List Int) (Al1 : Option Addr) (cl1 : Nat) (r0 : Int) (r1 : Bool) (H : spec_StepsToFinish.f k l0_0 a0_1 a0_2 l1 = some (r0, r1)) : Fn Try.prog 39 [.agg #[.slice Al0_0 l0_0.length cl0_0, .int .i64 a0_1, .int .i64 a0_2], .slice Al1 l1.length cl1] [] [.sl 0 k27 Al0_0 cl0_0 l0_0 0 false, .sl 0 (.int .i64) Al1 cl1 l1 0 false] (fun v bx en => v = .tuple #[.int .i64 r0, .bool r1] ∧ bx = [] ∧ en = []) := by
 refine fn_ 34 Try.func39 rfl rfl rfl (fun base T w0 => ?_)
 rw [spec_StepsToFinish.f] at H
 refine gs (rg (so rfl (op_box (cs := [.slice Al0_0 l0_0.length cl0_0, .int .i64 a0_1, .int .i64 a0_2]) rfl rfl rfl fun b2 => (sv (EV.as rfl) rfl (sv (EV.as rfl) rfl (re (gs (gs (rg (sv (EV.ld (v := .agg #[.slice Al0_0 l0_0.length cl0_0, .int .i64 a0_1, .int .i64 a0_2]) 0 (some 3) rfl rfl rfl) rfl ?_))))))))))
 revert H; refine bdI ?_; rintro t1 A1 H
 refine so rfl (op_call (spec_IsValidJoiner.ok k l0_0 Al0_0 cl0_0 a0_1 a0_2 _ A1) [⟨0, 0, 0, false⟩] 1 rfl rfl rfl rfl rfl ?_)
 rintro _ _ _ ⟨rfl, rfl, rfl⟩
 refine sv (EV.nt rfl) rfl (sv (EV.mv rfl) rfl ?_)
 revert H; refine ifsI ?_ ?_ <;> intro c2 H
 ·
  subst c2
  refine ts 9 rfl rfl (sv (EV.mv rfl) rfl ?_)
  revert H; refine bdI ?_; rintro t3 A3 H
  refine so rfl (op_call (spec_l14Grants.ok k l1 Al1 cl1 _ A3) [⟨1, 0, 0, false⟩] 1 rfl rfl rfl rfl rfl ?_)
  rintro _ _ _ ⟨rfl, rfl, rfl⟩
  refine sv (EV.nt rfl) rfl (sv (EV.pf rfl rfl rfl) rfl (sv (EV.mv rfl) rfl ?_))
  revert H; refine ifsI ?_ ?_ <;> intro c4 H
  ·
   subst c4
   refine ts 14 rfl rfl (sv (EV.fa 1 rfl) rfl (sv (EV.ld 0 none rfl rfl rfl) rfl (sv (EV.gtr rfl rfl) rfl (sv (EV.pf rfl rfl rfl) rfl (sv (EV.mv rfl) rfl ?_)))))
   revert H; refine ifsI ?_ ?_ <;> intro c5 H
   ·
    refine ts 19 rfl (dT c5) (sk rfl (sk rfl (sk rfl (sv (EV.pt rfl rfl rfl) rfl (sv (EV.mv rfl) rfl (sk rfl (sk rfl (sk rfl (sk rfl (sv (EV.pt rfl rfl rfl) rfl (re (pr [1, 2, 29] [0] [0, 1] rfl rfl rfl rfl (gt rfl rfl (gs (rg (sv (EV.as rfl) rfl (sv (EV.as rfl) rfl (re ?_))))))))))))))))))
    cases H
    exact rt Try.func39 rfl (.tmp rfl (.tmp rfl .nil)) rfl [] [] rfl rfl rfl rfl rfl ⟨rfl, rfl, rfl⟩
   ·
    refine ts 19 rfl (dF c5) (sv (EV.fa 2 rfl) rfl (sv (EV.ld 0 none rfl rfl rfl) rfl (sv (EV.gtr rfl rfl) rfl (sv (EV.pf rfl rfl rfl) rfl (sv (EV.mv rfl) rfl ?_)))))
    revert H; refine ifsI ?_ ?_ <;> intro c6 H
    ·
     refine ts 24 rfl (dT c6) (sk rfl (sk rfl (sk rfl (sk rfl (sv (EV.pt rfl rfl rfl) rfl (re (pr [1, 2, 29] [0] [0, 1] rfl rfl rfl rfl (gt rfl rfl (gs (rg (sv (EV.as rfl) rfl (sv (EV.as rfl) rfl (re ?_)))))))))))))
     cases H
     exact rt Try.func39 rfl (.tmp rfl (.tmp rfl .nil)) rfl [] [] rfl rfl rfl rfl rfl ⟨rfl, rfl, rfl⟩
    ·
     refine ts 24 rfl (dF c6) (sv (EV.fa 0 rfl) rfl (sv (EV.ld 0 none rfl rfl rfl) rfl (sv (EV.ln rfl) rfl (sv (EV.gtr rfl rfl) rfl (sv (EV.pf rfl rfl rfl) rfl (re (pr [1, 2, 29] [0] [0, 1] rfl rfl rfl rfl ?_)))))))
     revert H; refine ifsI ?_ ?_ <;> intro c7 H
     ·
      refine gt rfl (dT c7) (gs (rg (sv (EV.as rfl) rfl (sv (EV.as rfl) rfl (re ?_)))))
      cases H
      exact rt Try.func39 rfl (.tmp rfl (.tmp rfl .nil)) rfl [] [] rfl rfl rfl rfl rfl ⟨rfl, rfl, rfl⟩
     ·
      refine gf rfl (dF c7) (gk (gs (rg (sv (EV.ld (v := .agg #[.slice Al0_0 l0_0.length cl0_0, .int .i64 a0_1, .int .i64 a0_2]) 0 (some 3) rfl rfl rfl) rfl (sv (EV.mv rfl) rfl ?_)))))
      revert H; refine bdI ?_; rintro ⟨t8_0, t8_1, t8_2, t8_3⟩ A8 H
      refine so rfl (op_call (spec_l20Go.ok k l0_0 Al0_0 cl0_0 a0_1 a0_2 l1 Al1 cl1 _ _ _ _ A8) [⟨0, 0, 0, false⟩, ⟨1, 0, 0, false⟩] 1 rfl rfl rfl rfl rfl ?_)
      rintro _ _ _ ⟨At8_0, ct8_0, rfl, rfl, rfl⟩
      refine sv (EV.fl (v := .int .i64 t8_1) 1 none rfl rfl) rfl (sv (EV.as rfl) rfl (sv (EV.as rfl) rfl (re (pr [4, 5] [] [] rfl rfl rfl rfl ?_))))
      cases H
      exact rt Try.func39 rfl (.tmp rfl (.tmp rfl .nil)) rfl [] [] rfl rfl rfl rfl rfl ⟨rfl, rfl, rfl⟩
  ·
   obtain rfl := bF c4
   refine ts 14 rfl rfl (sk rfl (sk rfl (sk rfl (sv (EV.pt rfl rfl rfl) rfl (sv (EV.mv rfl) rfl (sk rfl (sk rfl (sk rfl (sv (EV.pt rfl rfl rfl) rfl (sv (EV.mv rfl) rfl (sk rfl (sk rfl (sk rfl (sk rfl (sv (EV.pt rfl rfl rfl) rfl (re (pr [1, 2, 29] [0] [0, 1] rfl rfl rfl rfl (gt rfl rfl (gs (rg (sv (EV.as rfl) rfl (sv (EV.as rfl) rfl (re ?_)))))))))))))))))))))))
   cases H
   exact rt Try.func39 rfl (.tmp rfl (.tmp rfl .nil)) rfl [] [] rfl rfl rfl rfl rfl ⟨rfl, rfl, rfl⟩
 ·
  obtain rfl := bF c2
  refine ts 9 rfl rfl (sk rfl (sk rfl (sk rfl (sv (EV.pt rfl rfl rfl) rfl (sv (EV.mv rfl) rfl (sk rfl (sk rfl (sk rfl (sv (EV.pt rfl rfl rfl) rfl (sv (EV.mv rfl) rfl (sk rfl (sk rfl (sk rfl (sv (EV.pt rfl rfl rfl) rfl (sv (EV.mv rfl) rfl (sk rfl (sk rfl (sk rfl (sk rfl (sv (EV.pt rfl rfl rfl) rfl (re (pr [1, 2, 29] [0] [0, 1] rfl rfl rfl rfl (gt rfl rfl (gs (rg (sv (EV.as rfl) rfl (sv (EV.as rfl) rfl (re ?_))))))))))))))))))))))))))))
  cases H
  exact rt Try.func39 rfl (.tmp rfl (.tmp rfl .nil)) rfl [] [] rfl rfl rfl rfl rfl ⟨rfl, rfl, rfl⟩
def impl_JoinStepBound.f (l0 : List S99) (l1 : List S99) : Option (Int) := some (wrap64 (31 + (l1.length : Int)))
set_option maxHeartbeats 4000000 in
set_option maxRecDepth 100000 in
theorem impl_JoinStepBound.ok (l0 : List S99) (Al0 : Option Addr) (cl0 : Nat) (l1 : List S99) (Al1 : Option Addr) (cl1 : Nat) (r0 : Int) (H : impl_JoinStepBound.f l0 l1 = some r0) : Fn Try.prog 40 [.slice Al0 l0.length cl0, .slice Al1 l1.length cl1] [] [.sl 0 k99 Al0 cl0 l0 0 false, .sl 0 k99 Al1 cl1 l1 0 false] (fun v bx en => v = .int .i64 r0 ∧ bx = [] ∧ en = []) := by
 refine fn_ 8 Try.func40 rfl rfl rfl (fun base T w0 => ?_)
 rw [impl_JoinStepBound.f] at H
 refine gs (rg (sv (EV.as rfl) rfl (re (gs (rg (sv (EV.mv rfl) rfl (sv (EV.ln rfl) rfl (sv (EV.add rfl rfl) rfl (sv (EV.as rfl) rfl (re ?_))))))))))
 cases H
 exact rt Try.func40 rfl (.tmp rfl .nil) rfl [] [] rfl rfl rfl rfl rfl ⟨rfl, rfl, rfl⟩
def impl_cut.l0 : Nat → ByteArray → Int → (List ByteArray) → Int → Int → Int → Option ((List ByteArray))
 | 0, _, _, _, _, _, _ => none
 | k + 1, x2_0, x2_1, x2_5, x2_6, x2_10, x2_11 => if x2_11 < x2_10 then (if 0 ≤ x2_11 then (if x2_11 < (x2_0.size : Int) then (if (bt x2_0 x2_11) = x2_1 then (if 0 ≤ x2_6 then (if x2_6 ≤ x2_11 then (if x2_11 ≤ (x2_0.size : Int) then (if x2_5.length < 8796093022208 then (impl_cut.l0 k x2_0 x2_1 (x2_5 ++ ([x2_0.extract x2_6.toNat x2_11.toNat] : List ByteArray)) (wrap64 (x2_11 + 1)) x2_10 (wrap64 (x2_11 + 1))) else none) else none) else none) else none) else (impl_cut.l0 k x2_0 x2_1 x2_5 x2_6 x2_10 (wrap64 (x2_11 + 1)))) else none) else none) else (if 0 ≤ x2_6 then (if x2_6 ≤ (x2_0.size : Int) then (if x2_5.length < 8796093022208 then (some (x2_5 ++ ([x2_0.extract x2_6.toNat x2_0.size] : List ByteArray))) else none) else none) else none)
def impl_cut.f (k : Nat) (a0 : ByteArray) (a1 : Int) : Option ((List ByteArray)) := impl_cut.l0 k a0 a1 [] 0 (a0.size : Int) 0
set_option maxHeartbeats 4000000 in
set_option maxRecDepth 100000 in
theorem impl_cut.ok (k : Nat) (a0 : ByteArray) (a1 : Int) (r0 : List ByteArray) (H : impl_cut.f k a0 a1 = some r0) : Fn Try.prog 55 [.string a0, .int .u8 a1] [] [] (fun v bx en => ∃ A0 c0, v = .slice A0 r0.length c0 ∧ bx = [] ∧ en = [.sl 2 .str A0 c0 r0 1 true]) := by
 refine fn_ 35 Try.func55 rfl rfl rfl (fun base T w0 => ?_)
 rw [impl_cut.f] at H
 refine gs (rg (sv (EV.as rfl) rfl (re (gs (rg (so rfl (op_lit (s := 1) (by_ := 16) .str ([] : List ByteArray) [] [] 1 [] rfl rfl rfl rfl rfl rfl rfl rfl rfl rfl rfl rfl rfl dq rfl fun A8_1 c8_1 => (sv (EV.as rfl) rfl (sv (EV.as rfl) rfl (re (gs (gs (rg (sv (EV.mv rfl) rfl (sv (EV.lns rfl) rfl (sv (EV.mv rfl) rfl (re (gb ?_))))))))))))))))))
 refine lo (fun kk S => ∃ (x2_0 : ByteArray) (x2_1 : Int) (x2_5 : List ByteArray) (Ax2_5 : Option Addr) (cx2_5 : Nat) (x2_6 : Int) (x2_10 : Int) (x2_11 : Int), impl_cut.l0 kk x2_0 x2_1 x2_5 x2_6 x2_10 x2_11 = some r0 ∧ S = ⟨[(0, .string x2_0), (1, .int .u8 x2_1), (5, .slice Ax2_5 x2_5.length cx2_5), (6, .int .i64 x2_6), (10, .int .i64 x2_10), (11, .int .i64 x2_11)], [], [.sl 2 .str Ax2_5 cx2_5 x2_5 1 true]⟩) (fun S hS => ?_) (fun n0 ih0 S hS => ?_) ⟨a0, a1, [], A8_1, c8_1, 0, (a0.size : Int), 0, H, rfl⟩ (fun h => wk [0, 1, 5, 6, 10, 11] [] [⟨0, 2, 1, true⟩] h)
 · clear H; obtain ⟨_, _, _, _, _, _, _, _, H, _⟩ := hS; rw [impl_cut.l0] at H; cases H
 clear H
 obtain ⟨x2_0, x2_1, x2_5, Ax2_5, cx2_5, x2_6, x2_10, x2_11, H, rfl⟩ := hS
 rw [impl_cut.l0] at H
 refine gs (rg (sv (EV.lss rfl rfl) rfl (re (gs ?_))))
 revert H; refine ifsI ?_ ?_ <;> intro c2 H
 ·
  refine gt rfl (dT c2) (gk (gs (gb (gs (rg (sv (EV.mv rfl) rfl (sv (EV.as rfl) rfl (re (gs (rg (sv (EV.mv rfl) rfl (sv (EV.mv rfl) rfl ?_))))))))))))
  revert H; refine ggI ?_; intro g3 H
  revert H; refine ggI ?_; intro g4 H
  refine sv (EV.is rfl rfl g3 g4) rfl (sv (EV.mv rfl) rfl (sv (EV.eql rfl rfl) rfl (re (pr [0, 1, 5, 6, 7, 10, 11, 18] [] [0] rfl rfl rfl rfl ?_))))
  revert H; refine ifsI ?_ ?_ <;> intro c5 H
  ·
   refine gt rfl (dT c5) (gs (rg (sv (EV.mv rfl) rfl (sv (EV.mv rfl) rfl (sv (EV.mv rfl) rfl (sv (EV.mv rfl) rfl ?_))))))
   revert H; refine ggI ?_; intro g6 H
   revert H; refine ggI ?_; intro g7 H
   revert H; refine ggI ?_; intro g8 H
   refine sv (EV.ssb rfl rfl rfl g6 g7 g8) rfl (so rfl (op_lit (s := 1) (by_ := 16) .str ([x2_0.extract x2_6.toNat x2_11.toNat] : List ByteArray) [[]] [] 2 [.tmp 23] rfl rfl rfl rfl rfl rfl rfl rfl rfl rfl rfl rfl rfl dq rfl fun A24_9 c24_9 => ?_))
   revert H; refine ggI ?_; intro g10 H
   exact so rfl (op_app (k := .str) (s := 1) (by_ := 16) 0 1 rfl rfl rfl rfl (ap1 g10 dq) (ap1n g10 dq) (.inl rfl) true (fun _ => .inl rfl) rfl rfl fun A25_11 c25_11 => (nmE (en := [.sl 2 .str A24_9 c24_9 ([x2_0.extract x2_6.toNat x2_11.toNat] : List ByteArray) 2 true, .sl 2 .str A25_11 c25_11 (x2_5 ++ ([x2_0.extract x2_6.toNat x2_11.toNat] : List ByteArray)) 1 true]) (by kernel_rfl) (sv (EV.as rfl) rfl (re (pr [0, 1, 5, 7, 10, 11] [] [1] rfl rfl rfl rfl (rg (sv (EV.mv rfl) rfl (sv (EV.add rfl rfl) rfl (sv (EV.as rfl) rfl (re (ge (rg (sv (EV.add rfl rfl) rfl (sv (EV.mv rfl) rfl (re (wk [0, 1, 5, 6, 10, 11] [] [⟨0, 2, 1, true⟩] (ih0 _ (by omega) _ ⟨x2_0, x2_1, x2_5 ++ ([x2_0.extract x2_6.toNat x2_11.toNat] : List ByteArray), A25_11, c25_11, wrap64 (x2_11 + 1), x2_10, wrap64 (x2_11 + 1), H, rfl⟩)))))))))))))))))
  ·
   exact gf rfl (dF c5) (gk (ge (rg (sv (EV.add rfl rfl) rfl (sv (EV.mv rfl) rfl (re (wk [0, 1, 5, 6, 10, 11] [] [⟨0, 2, 1, true⟩] (ih0 _ (by omega) _ ⟨x2_0, x2_1, x2_5, Ax2_5, cx2_5, x2_6, x2_10, wrap64 (x2_11 + 1), H, rfl⟩))))))))
 ·
  refine gf rfl (dF c2) (gx rfl (gs (rg (sv (EV.mv rfl) rfl (sv (EV.mv rfl) rfl (sv (EV.mv rfl) rfl ?_))))))
  revert H; refine ggI ?_; intro g12 H
  revert H; refine ggI ?_; intro g13 H
  refine sv (EV.ssl rfl rfl g12 g13) rfl (so rfl (op_lit (s := 1) (by_ := 16) .str ([x2_0.extract x2_6.toNat x2_0.size] : List ByteArray) [[]] [] 2 [.tmp 32] rfl rfl rfl rfl rfl rfl rfl rfl rfl rfl rfl rfl rfl dq rfl fun A33_14 c33_14 => ?_))
  revert H; refine ggI ?_; intro g15 H
  refine so rfl (op_app (k := .str) (s := 1) (by_ := 16) 0 1 rfl rfl rfl rfl (ap1 g15 dq) (ap1n g15 dq) (.inl rfl) true (fun _ => .inl rfl) rfl rfl fun A34_16 c34_16 => (nmE (en := [.sl 2 .str A33_14 c33_14 ([x2_0.extract x2_6.toNat x2_0.size] : List ByteArray) 2 true, .sl 2 .str A34_16 c34_16 (x2_5 ++ ([x2_0.extract x2_6.toNat x2_0.size] : List ByteArray)) 1 true]) (by kernel_rfl) (sv (EV.as rfl) rfl (re (pr [4] [] [1] rfl rfl rfl rfl ?_)))))
  cases H
  exact rt Try.func55 rfl (.tmp rfl .nil) rfl [] [⟨0, 2, 1, true⟩] rfl rfl rfl rfl rfl ⟨_, _, rfl, rfl, rfl⟩
def impl_decimal.f : Nat → Int → Option (ByteArray)
 | 0, _ => none
 | k + 1, a0 => if a0 < 10 then (some (strOfNums ([IntKind.u8.wrap (IntKind.u64.wrap (48 + a0))] : List Int))) else ((impl_decimal.f k (IntKind.u64.wrap (Int.tdiv a0 10))).bind fun t3 => (if t3.size + (strOfNums ([IntKind.u8.wrap (IntKind.u64.wrap (48 + (Int.tmod a0 10)))] : List Int)).size ≤ 9223372036854775807 then (some (t3 ++ (strOfNums ([IntKind.u8.wrap (IntKind.u64.wrap (48 + (Int.tmod a0 10)))] : List Int)))) else none))
set_option maxHeartbeats 4000000 in
set_option maxRecDepth 100000 in
theorem impl_decimal.ok : ∀ (k : Nat) (a0 : Int) (r0 : ByteArray) (h : impl_decimal.f k a0 = some r0), Fn Try.prog 103 [.int .u64 a0] [] [] (fun v bx en => v = .string r0 ∧ bx = [] ∧ en = []) := by
 intro k
 induction k with
 | zero => intro a0 r0 h; rw [impl_decimal.f] at h; cases h
 | succ k ih =>
 intro a0 r0 H
 refine fn_ 20 Try.func103 rfl rfl rfl (fun base T w0 => ?_)
 rw [impl_decimal.f] at H
 refine gs (rg (sv (EV.as rfl) rfl (re (gs (gs (rg (sv (EV.mv rfl) rfl (sv (EV.lss rfl rfl) rfl (re ?_)))))))))
 revert H; refine ifsI ?_ ?_ <;> intro c1 H
 ·
  refine gt rfl (dT c1) (gs (rg (sv (EV.mv rfl) rfl (sv (EV.addk rfl rfl) rfl (sv (EV.cv (k' := .u8) rfl) rfl (so rfl (op_lit (s := 1) (by_ := 1) (.int .u8) ([IntKind.u8.wrap (IntKind.u64.wrap (48 + a0))] : List Int) [[]] [] 1 [.tmp 7] rfl rfl rfl rfl rfl rfl rfl rfl rfl rfl rfl rfl rfl dq rfl fun A8_2 c8_2 => (sv (EV.bs 0 rfl rfl) rfl (sv (EV.as rfl) rfl (re (pr [2] [] [] rfl rfl rfl rfl ?_)))))))))))
  cases H
  exact rt Try.func103 rfl (.tmp rfl .nil) rfl [] [] rfl rfl rfl rfl rfl ⟨rfl, rfl, rfl⟩
 ·
  refine gf rfl (dF c1) (gk (gs (dr [] [] [] 11 rfl rfl rfl rfl (xv 0 [] [] rfl (EV.mv rfl) rfl rfl rfl rfl (xv 1 [] [] rfl (EV.quok rfl rfl dq) rfl rfl rfl rfl (xv 3 [] [] rfl (EV.mv rfl) rfl rfl rfl rfl (xv 4 [] [] rfl (EV.rem rfl rfl dq) rfl rfl rfl rfl (xv 5 [] [] rfl (EV.addk rfl rfl) rfl rfl rfl rfl (xv 6 [] [] rfl (EV.cv (k' := .u8) rfl) rfl rfl rfl rfl ?_)))))))))
  refine one2 2 7 rfl rfl rfl rfl ?_ ?_
  ·
   revert H; refine bdI ?_; rintro t3 A3 H
   refine op_call (ih (IntKind.u64.wrap (Int.tdiv a0 10)) _ A3) [] 1 rfl rfl rfl rfl rfl ?_
   rintro _ _ _ ⟨rfl, rfl, rfl⟩
   refine xs [] [] rfl rfl rfl (one1 7 rfl rfl (op_lit (s := 1) (by_ := 1) (.int .u8) ([IntKind.u8.wrap (IntKind.u64.wrap (48 + (Int.tmod a0 10)))] : List Int) [[]] [] 1 [.tmp 16] rfl rfl rfl rfl rfl rfl rfl rfl rfl rfl rfl rfl rfl dq rfl fun A17_4 c17_4 => (xs [] [] rfl rfl rfl (one1 8 rfl rfl (ov (EV.bs 0 rfl rfl) rfl (xs [] [] rfl rfl rfl ?_))))))
   revert H; refine ggI ?_; intro g5 H
   refine xv 9 [] [] rfl (EV.ads rfl rfl g5) rfl rfl rfl rfl (xv 10 [] [] rfl (EV.as rfl) rfl rfl rfl rfl (xd (pr [2] [] [] rfl rfl rfl rfl ?_)))
   cases H
   exact rt Try.func103 rfl (.tmp rfl .nil) rfl [] [] rfl rfl rfl rfl rfl ⟨rfl, rfl, rfl⟩
  ·
   refine op_lit (s := 1) (by_ := 1) (.int .u8) ([IntKind.u8.wrap (IntKind.u64.wrap (48 + (Int.tmod a0 10)))] : List Int) [[]] [] 1 [.tmp 16] rfl rfl rfl rfl rfl rfl rfl rfl rfl rfl rfl rfl rfl dq rfl fun A17_6 c17_6 => (xs [] [] rfl rfl rfl ?_)
   refine one2 2 8 rfl rfl rfl rfl ?_ ?_
   ·
    revert H; refine bdI ?_; rintro t7 A7 H
    refine op_call (ih (IntKind.u64.wrap (Int.tdiv a0 10)) _ A7) [] 2 rfl rfl rfl rfl rfl ?_
    rintro _ _ _ ⟨rfl, rfl, rfl⟩
    refine xs [] [] rfl rfl rfl (one1 8 rfl rfl (ov (EV.bs 0 rfl rfl) rfl (xs [] [] rfl rfl rfl ?_)))
    revert H; refine ggI ?_; intro g8 H
    refine xv 9 [] [] rfl (EV.ads rfl rfl g8) rfl rfl rfl rfl (xv 10 [] [] rfl (EV.as rfl) rfl rfl rfl rfl (xd (pr [2] [] [] rfl rfl rfl rfl ?_)))
    cases H
    exact rt Try.func103 rfl (.tmp rfl .nil) rfl [] [] rfl rfl rfl rfl rfl ⟨rfl, rfl, rfl⟩
   ·
    refine ov (EV.bs 0 rfl rfl) rfl (xs [] [] rfl rfl rfl (one1 2 rfl rfl ?_))
    revert H; refine bdI ?_; rintro t9 A9 H
    refine op_call (ih (IntKind.u64.wrap (Int.tdiv a0 10)) _ A9) [] 2 rfl rfl rfl rfl rfl ?_
    rintro _ _ _ ⟨rfl, rfl, rfl⟩
    refine xs [] [] rfl rfl rfl ?_
    revert H; refine ggI ?_; intro g10 H
    refine xv 9 [] [] rfl (EV.ads rfl rfl g10) rfl rfl rfl rfl (xv 10 [] [] rfl (EV.as rfl) rfl rfl rfl rfl (xd (pr [2] [] [] rfl rfl rfl rfl ?_)))
    cases H
    exact rt Try.func103 rfl (.tmp rfl .nil) rfl [] [] rfl rfl rfl rfl rfl ⟨rfl, rfl, rfl⟩
def impl_FormatInt.f (k : Nat) (a0 : Int) : Option (ByteArray) := if a0 < 0 then ((impl_decimal.f k (IntKind.u64.wrap (-(IntKind.u64.wrap a0)))).bind fun t2 => (if (⟨#[45]⟩ : ByteArray).size + t2.size ≤ 9223372036854775807 then (some ((⟨#[45]⟩ : ByteArray) ++ t2)) else none)) else ((impl_decimal.f k (IntKind.u64.wrap a0)).bind fun t4 => (some t4))
set_option maxHeartbeats 4000000 in
set_option maxRecDepth 100000 in
theorem impl_FormatInt.ok (k : Nat) (a0 : Int) (r0 : ByteArray) (H : impl_FormatInt.f k a0 = some r0) : Fn Try.prog 59 [.int .i64 a0] [] [] (fun v bx en => v = .string r0 ∧ bx = [] ∧ en = []) := by
 refine fn_ 13 Try.func59 rfl rfl rfl (fun base T w0 => ?_)
 rw [impl_FormatInt.f] at H
 refine gs (rg (sv (EV.as rfl) rfl (re (gs (gs (rg (sv (EV.mv rfl) rfl (sv (EV.lss rfl rfl) rfl (re ?_)))))))))
 revert H; refine ifsI ?_ ?_ <;> intro c1 H
 ·
  refine gt rfl (dT c1) (gs (rg (sv (EV.mv rfl) rfl (sv (EV.cv (k' := .u64) rfl) rfl (sv (EV.ngk rfl) rfl ?_)))))
  revert H; refine bdI ?_; rintro t2 A2 H
  refine so rfl (op_call (impl_decimal.ok k (IntKind.u64.wrap (-(IntKind.u64.wrap a0))) _ A2) [] 1 rfl rfl rfl rfl rfl ?_)
  rintro _ _ _ ⟨rfl, rfl, rfl⟩
  revert H; refine ggI ?_; intro g3 H
  refine sv (EV.ads rfl rfl g3) rfl (sv (EV.as rfl) rfl (re (pr [2] [] [] rfl rfl rfl rfl ?_)))
  cases H
  exact rt Try.func59 rfl (.tmp rfl .nil) rfl [] [] rfl rfl rfl rfl rfl ⟨rfl, rfl, rfl⟩
 ·
  refine gf rfl (dF c1) (gk (gs (rg (sv (EV.mv rfl) rfl (sv (EV.cv (k' := .u64) rfl) rfl ?_)))))
  revert H; refine bdI ?_; rintro t4 A4 H
  refine so rfl (op_call (impl_decimal.ok k (IntKind.u64.wrap a0) _ A4) [] 1 rfl rfl rfl rfl rfl ?_)
  rintro _ _ _ ⟨rfl, rfl, rfl⟩
  refine sv (EV.as rfl) rfl (re (pr [2] [] [] rfl rfl rfl rfl ?_))
  cases H
  exact rt Try.func59 rfl (.tmp rfl .nil) rfl [] [] rfl rfl rfl rfl rfl ⟨rfl, rfl, rfl⟩
mutual
def impl_ParseInt.j1 : Nat → ByteArray → Int → Option (Int × Bool)
 | 0, _, _ => none
 | k + 1, x5_0, x5_5 => (impl_FormatInt.f k x5_5).bind fun t10 => (if t10.toList = x5_0.toList then (some (x5_5, true)) else (some (0, false)))
def impl_ParseInt.l0 : Nat → ByteArray → ByteArray → Int → Int → Int → Option (Int × Bool)
 | 0, _, _, _, _, _ => none
 | k + 1, x3_0, x3_4, x3_5, x3_27, x3_28 => if x3_28 < x3_27 then (if 0 ≤ x3_28 then (if x3_28 < (x3_4.size : Int) then (if (bt x3_4 x3_28) < 48 then (some (0, false)) else (if (bt x3_4 x3_28) > 57 then (some (0, false)) else (impl_ParseInt.l0 k x3_0 x3_4 (wrap64 ((wrap64 (10 * x3_5)) + (IntKind.i64.wrap (IntKind.u8.wrap ((bt x3_4 x3_28) - 48))))) x3_27 (wrap64 (x3_28 + 1))))) else none) else none) else (if (x3_4.size : Int) < (x3_0.size : Int) then (impl_ParseInt.j1 k x3_0 (wrap64 (-x3_5))) else (impl_ParseInt.j1 k x3_0 x3_5))
def impl_ParseInt.j0 : Nat → ByteArray → ByteArray → Option (Int × Bool)
 | 0, _, _ => none
 | k + 1, x1_0, x1_4 => if (x1_4.size : Int) < 1 then (some (0, false)) else (if (x1_4.size : Int) > 9 then (some (0, false)) else (impl_ParseInt.l0 k x1_0 x1_4 0 (x1_4.size : Int) 0))
end
def impl_ParseInt.f (k : Nat) (a0 : ByteArray) : Option (Int × Bool) := if (a0.size : Int) > 0 then (if 0 < (a0.size : Int) then (if (bt a0 0) = 45 then (if 1 ≤ (a0.size : Int) then (impl_ParseInt.j0 k a0 (a0.extract (1 : Int).toNat a0.size)) else none) else (impl_ParseInt.j0 k a0 a0)) else none) else (impl_ParseInt.j0 k a0 a0)
set_option maxHeartbeats 4000000 in
set_option maxRecDepth 100000 in
theorem impl_ParseInt.ok (k : Nat) (a0 : ByteArray) (r0 : Int) (r1 : Bool) (H : impl_ParseInt.f k a0 = some (r0, r1)) : Fn Try.prog 56 [.string a0] [] [] (fun v bx en => v = .tuple #[.int .i64 r0, .bool r1] ∧ bx = [] ∧ en = []) := by
 refine fn_ 62 Try.func56 rfl rfl rfl (fun base T w0 => ?_)
 rw [impl_ParseInt.f] at H
 refine gs (rg (sv (EV.as rfl) rfl (sv (EV.as rfl) rfl (re (gs (rg (sv (EV.mv rfl) rfl (sv (EV.as rfl) rfl (re ?_)))))))))
 refine jo (fun S => ∃ (m : Nat) (x1_0 : ByteArray) (x1_4 : ByteArray), impl_ParseInt.j0 m x1_0 x1_4 = some (r0, r1) ∧ S = ⟨[(0, .string x1_0), (4, .string x1_4)], [], []⟩) (fun S hS => ?_) (fun jh0 => ?_)
 ·
  clear H
  obtain ⟨m1, x1_0, x1_4, H, rfl⟩ := hS
  rcases m1 with _ | m1
  · rw [impl_ParseInt.j0] at H; cases H
  rw [impl_ParseInt.j0] at H
  refine gs (gs (rg (sv (EV.mv rfl) rfl (sv (EV.lns rfl) rfl (sv (EV.lss rfl rfl) rfl (sv (EV.mv rfl) rfl ?_))))))
  revert H; refine ifsI ?_ ?_ <;> intro c2 H
  ·
   refine ts 21 rfl (dT c2) (sk rfl (sk rfl (sk rfl (sv (EV.pt rfl rfl rfl) rfl (re (pr [0, 4, 25] [] [] rfl rfl rfl rfl (gt rfl rfl (gs (rg (sv (EV.as rfl) rfl (sv (EV.as rfl) rfl (re ?_))))))))))))
   cases H
   exact rt Try.func56 rfl (.tmp rfl (.tmp rfl .nil)) rfl [] [] rfl rfl rfl rfl rfl ⟨rfl, rfl, rfl⟩
  ·
   refine ts 21 rfl (dF c2) (sv (EV.mv rfl) rfl (sv (EV.lns rfl) rfl (sv (EV.gtr rfl rfl) rfl (sv (EV.pf rfl rfl rfl) rfl (re (pr [0, 4, 25] [] [] rfl rfl rfl rfl ?_))))))
   revert H; refine ifsI ?_ ?_ <;> intro c3 H
   ·
    refine gt rfl (dT c3) (gs (rg (sv (EV.as rfl) rfl (sv (EV.as rfl) rfl (re ?_)))))
    cases H
    exact rt Try.func56 rfl (.tmp rfl (.tmp rfl .nil)) rfl [] [] rfl rfl rfl rfl rfl ⟨rfl, rfl, rfl⟩
   ·
    refine gf rfl (dF c3) (gk (gs (rg (sv (EV.as rfl) rfl (re (gs (gs (rg (sv (EV.mv rfl) rfl (sv (EV.lns rfl) rfl (sv (EV.mv rfl) rfl (re (gb ?_)))))))))))))
    refine lo (fun kk S => ∃ (x3_0 : ByteArray) (x3_4 : ByteArray) (x3_5 : Int) (x3_27 : Int) (x3_28 : Int), kk ≤ m1 ∧ impl_ParseInt.l0 kk x3_0 x3_4 x3_5 x3_27 x3_28 = some (r0, r1) ∧ S = ⟨[(0, .string x3_0), (4, .string x3_4), (5, .int .i64 x3_5), (27, .int .i64 x3_27), (28, .int .i64 x3_28)], [], []⟩) (fun S hS => ?_) (fun n0 ih0 S hS => ?_) ⟨x1_0, x1_4, 0, (x1_4.size : Int), 0, by omega, H, rfl⟩ (fun h => wk [0, 4, 5, 27, 28] [] [] h)
    · clear H; obtain ⟨_, _, _, _, _, _, H, _⟩ := hS; rw [impl_ParseInt.l0] at H; cases H
    clear H
    obtain ⟨x3_0, x3_4, x3_5, x3_27, x3_28, lk0, H, rfl⟩ := hS
    rw [impl_ParseInt.l0] at H
    refine gs (rg (sv (EV.lss rfl rfl) rfl (re (gs ?_))))
    revert H; refine ifsI ?_ ?_ <;> intro c4 H
    ·
     refine gt rfl (dT c4) (gk (gs (gb (gs (rg (sv (EV.mv rfl) rfl (sv (EV.as rfl) rfl (re (gs (gs (rg (sv (EV.mv rfl) rfl (sv (EV.mv rfl) rfl ?_)))))))))))))
     revert H; refine ggI ?_; intro g5 H
     revert H; refine ggI ?_; intro g6 H
     refine sv (EV.is rfl rfl g5 g6) rfl (sv (EV.lss rfl rfl) rfl (sv (EV.mv rfl) rfl ?_))
     revert H; refine ifsI ?_ ?_ <;> intro c7 H
     ·
      refine ts 35 rfl (dT c7) (sk rfl (sk rfl (sk rfl (sk rfl (sv (EV.pt rfl rfl rfl) rfl (re (pr [0, 4, 5, 6, 27, 28, 40] [] [] rfl rfl rfl rfl (gt rfl rfl (gs (rg (sv (EV.as rfl) rfl (sv (EV.as rfl) rfl (re (pr [2, 3] [] [] rfl rfl rfl rfl ?_))))))))))))))
      cases H
      exact rt Try.func56 rfl (.tmp rfl (.tmp rfl .nil)) rfl [] [] rfl rfl rfl rfl rfl ⟨rfl, rfl, rfl⟩
     ·
      refine ts 35 rfl (dF c7) (sv (EV.mv rfl) rfl (sv (EV.mv rfl) rfl (sv (EV.is rfl rfl g5 g6) rfl (sv (EV.gtr rfl rfl) rfl (sv (EV.pf rfl rfl rfl) rfl (re (pr [0, 4, 5, 6, 27, 28, 36, 37, 38, 39, 40] [] [] rfl rfl rfl rfl ?_)))))))
      revert H; refine ifsI ?_ ?_ <;> intro c8 H
      ·
       refine gt rfl (dT c8) (gs (rg (sv (EV.as rfl) rfl (sv (EV.as rfl) rfl (re (pr [2, 3] [] [] rfl rfl rfl rfl ?_))))))
       cases H
       exact rt Try.func56 rfl (.tmp rfl (.tmp rfl .nil)) rfl [] [] rfl rfl rfl rfl rfl ⟨rfl, rfl, rfl⟩
      ·
       exact gf rfl (dF c8) (gk (rg (sv (EV.mv rfl) rfl (sv (EV.mul rfl rfl) rfl (sv (EV.mv rfl) rfl (sv (EV.mv rfl) rfl (sv (EV.is rfl rfl g5 g6) rfl (sv (EV.subk rfl rfl) rfl (sv (EV.cv (k' := .i64) rfl) rfl (sv (EV.add rfl rfl) rfl (sv (EV.as rfl) rfl (re (pr [0, 4, 5, 27, 28, 36, 37, 38, 39] [] [] rfl rfl rfl rfl (ge (rg (sv (EV.add rfl rfl) rfl (sv (EV.mv rfl) rfl (re (wk [0, 4, 5, 27, 28] [] [] (ih0 _ (by omega) _ ⟨x3_0, x3_4, wrap64 ((wrap64 (10 * x3_5)) + (IntKind.i64.wrap (IntKind.u8.wrap ((bt x3_4 x3_28) - 48)))), x3_27, wrap64 (x3_28 + 1), by omega, H, rfl⟩))))))))))))))))))))
    ·
     refine gf rfl (dF c4) (gx rfl ?_)
     refine jo (fun S => ∃ (m : Nat) (x5_0 : ByteArray) (x5_5 : Int), m ≤ n0 ∧ impl_ParseInt.j1 m x5_0 x5_5 = some (r0, r1) ∧ S = ⟨[(0, .string x5_0), (5, .int .i64 x5_5)], [], []⟩) (fun S hS => ?_) (fun jh1 => ?_)
     ·
      clear H
      obtain ⟨m9, x5_0, x5_5, lm9, H, rfl⟩ := hS
      rcases m9 with _ | m9
      · rw [impl_ParseInt.j1] at H; cases H
      rw [impl_ParseInt.j1] at H
      refine gs (gs (rg (sv (EV.mv rfl) rfl ?_)))
      revert H; refine bdI ?_; rintro t10 A10 H
      refine so rfl (op_call (impl_FormatInt.ok m9 x5_5 _ A10) [] 1 rfl rfl rfl rfl rfl ?_)
      rintro _ _ _ ⟨rfl, rfl, rfl⟩
      refine sv (EV.mv rfl) rfl (sv (EV.nes rfl rfl) rfl (re ?_))
      revert H; refine ifsI ?_ ?_ <;> intro c11 H
      ·
       refine gf rfl (nF c11) (gk (gs (rg (sv (EV.mv rfl) rfl (sv (EV.as rfl) rfl (sv (EV.as rfl) rfl (re (pr [2, 3] [] [] rfl rfl rfl rfl ?_))))))))
       cases H
       exact rt Try.func56 rfl (.tmp rfl (.tmp rfl .nil)) rfl [] [] rfl rfl rfl rfl rfl ⟨rfl, rfl, rfl⟩
      ·
       refine gt rfl (nT c11) (gs (rg (sv (EV.as rfl) rfl (sv (EV.as rfl) rfl (re (pr [2, 3] [] [] rfl rfl rfl rfl ?_))))))
       cases H
       exact rt Try.func56 rfl (.tmp rfl (.tmp rfl .nil)) rfl [] [] rfl rfl rfl rfl rfl ⟨rfl, rfl, rfl⟩
     ·
      refine gs (rg (sv (EV.mv rfl) rfl (sv (EV.lns rfl) rfl (sv (EV.mv rfl) rfl (sv (EV.lns rfl) rfl (sv (EV.lss rfl rfl) rfl (re (pr [0, 5, 54] [] [] rfl rfl rfl rfl ?_))))))))
      revert H; refine ifsI ?_ ?_ <;> intro c12 H
      ·
       exact gt rfl (dT c12) (rg (sv (EV.mv rfl) rfl (sv (EV.ng rfl) rfl (sv (EV.as rfl) rfl (re (wk [0, 5] [] [] (jh1 _ ⟨_, x3_0, wrap64 (-x3_5), by omega, H, rfl⟩)))))))
      ·
       exact gf rfl (dF c12) (gk (wk [0, 5] [] [] (jh1 _ ⟨_, x3_0, x3_5, by omega, H, rfl⟩)))
 ·
  refine gs (rg (sv (EV.mv rfl) rfl (sv (EV.lns rfl) rfl (sv (EV.gtr rfl rfl) rfl (sv (EV.mv rfl) rfl ?_)))))
  revert H; refine ifsI ?_ ?_ <;> intro c13 H
  ·
   refine ts 11 rfl (dT c13) (sv (EV.mv rfl) rfl ?_)
   revert H; refine ggI ?_; intro g14 H
   refine sv (EV.is rfl rfl dq g14) rfl (sv (EV.eql rfl rfl) rfl (sv (EV.pt rfl rfl rfl) rfl (re (pr [0, 4, 15] [] [] rfl rfl rfl rfl ?_))))
   revert H; refine ifsI ?_ ?_ <;> intro c15 H
   ·
    refine gt rfl (dT c15) (rg (sv (EV.mv rfl) rfl ?_))
    revert H; refine ggI ?_; intro g16 H
    exact sv (EV.ssl rfl rfl dq g16) rfl (sv (EV.as rfl) rfl (re (wk [0, 4] [] [] (jh0 _ ⟨_, a0, a0.extract (1 : Int).toNat a0.size, H, rfl⟩))))
   ·
    exact gf rfl (dF c15) (gk (wk [0, 4] [] [] (jh0 _ ⟨_, a0, a0, H, rfl⟩)))
  ·
   exact ts 11 rfl (dF c13) (sk rfl (sk rfl (sk rfl (sv (EV.pf rfl rfl rfl) rfl (re (pr [0, 4, 15] [] [] rfl rfl rfl rfl (gf rfl rfl (gk (wk [0, 4] [] [] (jh0 _ ⟨_, a0, a0, H, rfl⟩))))))))))
mutual
def impl_joined.j0 : Nat → ByteArray → ByteArray → ByteArray → Int → Int → (List ByteArray) → Option (ByteArray)
 | 0, _, _, _, _, _, _ => none
 | k + 1, x10_1, x10_5, x10_7, x10_9, x10_10, l0 => if x10_5.size + x10_7.size ≤ 9223372036854775807 then (impl_joined.l0 k x10_1 (x10_5 ++ x10_7) x10_9 (wrap64 (x10_10 + 1)) l0) else none
def impl_joined.l0 : Nat → ByteArray → ByteArray → Int → Int → (List ByteArray) → Option (ByteArray)
 | 0, _, _, _, _, _ => none
 | k + 1, x6_1, x6_5, x6_9, x6_10, l0 => if x6_10 < x6_9 then (if 0 ≤ x6_10 then (if x6_10 < (l0.length : Int) then (if x6_10 > 0 then (if x6_5.size + x6_1.size ≤ 9223372036854775807 then (impl_joined.j0 k x6_1 (x6_5 ++ x6_1) (rdOf ByteArray.empty l0 x6_10) x6_9 x6_10 l0) else none) else (impl_joined.j0 k x6_1 x6_5 (rdOf ByteArray.empty l0 x6_10) x6_9 x6_10 l0)) else none) else none) else (some x6_5)
end
def impl_joined.f (k : Nat) (l0 : List ByteArray) (a1 : ByteArray) : Option (ByteArray) := impl_joined.l0 k a1 (⟨#[]⟩ : ByteArray) (l0.length : Int) 0 l0
set_option maxHeartbeats 4000000 in
set_option maxRecDepth 100000 in
theorem impl_joined.ok (k : Nat) (l0 : List ByteArray) (Al0 : Option Addr) (cl0 : Nat) (a1 : ByteArray) (r0 : ByteArray) (H : impl_joined.f k l0 a1 = some r0) : Fn Try.prog 58 [.slice Al0 l0.length cl0, .string a1] [] [.sl 0 .str Al0 cl0 l0 0 false] (fun v bx en => v = .string r0 ∧ bx = [] ∧ en = []) := by
 refine fn_ 25 Try.func58 rfl rfl rfl (fun base T w0 => ?_)
 rw [impl_joined.f] at H
 refine gs (rg (sv (EV.as rfl) rfl (re (gs (rg (sv (EV.as rfl) rfl (re (gs (gs (rg (sv (EV.mv rfl) rfl (sv (EV.ln rfl) rfl (sv (EV.mv rfl) rfl (re (gb ?_)))))))))))))))
 refine lo (fun kk S => ∃ (x6_1 : ByteArray) (x6_5 : ByteArray) (x6_9 : Int) (x6_10 : Int), impl_joined.l0 kk x6_1 x6_5 x6_9 x6_10 l0 = some r0 ∧ S = ⟨[(1, .string x6_1), (5, .string x6_5), (8, .slice Al0 l0.length cl0), (9, .int .i64 x6_9), (10, .int .i64 x6_10)], [], [.sl 0 .str Al0 cl0 l0 0 false]⟩) (fun S hS => ?_) (fun n0 ih0 S hS => ?_) ⟨a1, (⟨#[]⟩ : ByteArray), (l0.length : Int), 0, H, rfl⟩ (fun h => wk [1, 5, 8, 9, 10] [] [⟨0, 0, 0, false⟩] h)
 · clear H; obtain ⟨_, _, _, _, H, _⟩ := hS; rw [impl_joined.l0] at H; cases H
 clear H
 obtain ⟨x6_1, x6_5, x6_9, x6_10, H, rfl⟩ := hS
 rw [impl_joined.l0] at H
 refine gs (rg (sv (EV.lss rfl rfl) rfl (re (gs ?_))))
 revert H; refine ifsI ?_ ?_ <;> intro c1 H
 ·
  refine gt rfl (dT c1) (gk (gs (gb (gs (rg (sv (EV.mv rfl) rfl ?_))))))
  revert H; refine ggI ?_; intro g2 H
  revert H; refine ggI ?_; intro g3 H
  refine sv (EV.ix 0 rfl rfl rfl g2 g3 rfl) rfl (sv (EV.le (v := .string (rdOf ByteArray.empty l0 x6_10)) x6_10 0 none 0 ByteArray.empty rfl rfl rfl g2 g3 rfl rfl rfl) rfl (sv (EV.as rfl) rfl (sv (EV.as rfl) rfl (re ?_))))
  refine jo (fun S => ∃ (m : Nat) (x10_1 : ByteArray) (x10_5 : ByteArray) (x10_7 : ByteArray) (x10_9 : Int) (x10_10 : Int), m ≤ n0 ∧ impl_joined.j0 m x10_1 x10_5 x10_7 x10_9 x10_10 l0 = some r0 ∧ S = ⟨[(1, .string x10_1), (5, .string x10_5), (7, .string x10_7), (8, .slice Al0 l0.length cl0), (9, .int .i64 x10_9), (10, .int .i64 x10_10)], [], [.sl 0 .str Al0 cl0 l0 0 false]⟩) (fun S hS => ?_) (fun jh0 => ?_)
  ·
   clear H
   obtain ⟨m4, x10_1, x10_5, x10_7, x10_9, x10_10, lm4, H, rfl⟩ := hS
   rcases m4 with _ | m4
   · rw [impl_joined.j0] at H; cases H
   rw [impl_joined.j0] at H
   refine rg (sv (EV.mv rfl) rfl (sv (EV.mv rfl) rfl ?_))
   revert H; refine ggI ?_; intro g5 H
   exact sv (EV.ads rfl rfl g5) rfl (sv (EV.as rfl) rfl (re (ge (rg (sv (EV.add rfl rfl) rfl (sv (EV.mv rfl) rfl (re (wk [1, 5, 8, 9, 10] [] [⟨0, 0, 0, false⟩] (ih0 _ (by omega) _ ⟨x10_1, x10_5 ++ x10_7, x10_9, wrap64 (x10_10 + 1), H, rfl⟩)))))))))
  ·
   refine gs (rg (sv (EV.mv rfl) rfl (sv (EV.gtr rfl rfl) rfl (re (pr [1, 5, 7, 8, 9, 10, 16] [] [0] rfl rfl rfl rfl ?_)))))
   revert H; refine ifsI ?_ ?_ <;> intro c6 H
   ·
    refine gt rfl (dT c6) (rg (sv (EV.mv rfl) rfl (sv (EV.mv rfl) rfl ?_)))
    revert H; refine ggI ?_; intro g7 H
    exact sv (EV.ads rfl rfl g7) rfl (sv (EV.as rfl) rfl (re (wk [1, 5, 7, 8, 9, 10] [] [⟨0, 0, 0, false⟩] (jh0 _ ⟨_, x6_1, x6_5 ++ x6_1, rdOf ByteArray.empty l0 x6_10, x6_9, x6_10, by omega, H, rfl⟩))))
   ·
    exact gf rfl (dF c6) (gk (wk [1, 5, 7, 8, 9, 10] [] [⟨0, 0, 0, false⟩] (jh0 _ ⟨_, x6_1, x6_5, rdOf ByteArray.empty l0 x6_10, x6_9, x6_10, by omega, H, rfl⟩)))
 ·
  refine gf rfl (dF c1) (gx rfl (gs (rg (sv (EV.mv rfl) rfl (sv (EV.as rfl) rfl (re (pr [4] [] [] rfl rfl rfl rfl ?_)))))))
  cases H
  exact rt Try.func58 rfl (.tmp rfl .nil) rfl [] [] rfl rfl rfl rfl rfl ⟨rfl, rfl, rfl⟩
def impl_FormatRow.f (k : Nat) (a0_0 : Int) (a0_1 : Int) (a0_2 : Int) : Option (ByteArray) := (impl_IsValidRow.f a0_0 a0_1 a0_2).bind fun t1 => (if t1 = true then ((impl_FormatInt.f k a0_0).bind fun t3 => (if t3.size + (⟨#[46]⟩ : ByteArray).size ≤ 9223372036854775807 then ((impl_FormatInt.f k a0_1).bind fun t5 => (if (t3 ++ (⟨#[46]⟩ : ByteArray)).size + t5.size ≤ 9223372036854775807 then (if ((t3 ++ (⟨#[46]⟩ : ByteArray)) ++ t5).size + (⟨#[46]⟩ : ByteArray).size ≤ 9223372036854775807 then ((impl_FormatInt.f k a0_2).bind fun t8 => (if (((t3 ++ (⟨#[46]⟩ : ByteArray)) ++ t5) ++ (⟨#[46]⟩ : ByteArray)).size + t8.size ≤ 9223372036854775807 then (some ((((t3 ++ (⟨#[46]⟩ : ByteArray)) ++ t5) ++ (⟨#[46]⟩ : ByteArray)) ++ t8)) else none)) else none) else none)) else none)) else (some (⟨#[]⟩ : ByteArray)))
set_option maxHeartbeats 4000000 in
set_option maxRecDepth 100000 in
theorem impl_FormatRow.ok (k : Nat) (a0_0 : Int) (a0_1 : Int) (a0_2 : Int) (r0 : ByteArray) (H : impl_FormatRow.f k a0_0 a0_1 a0_2 = some r0) : Fn Try.prog 122 [.agg #[.int .i64 a0_0, .int .i64 a0_1, .int .i64 a0_2]] [] [] (fun v bx en => v = .string r0 ∧ bx = [] ∧ en = []) := by
 refine fn_ 19 Try.func122 rfl rfl rfl (fun base T w0 => ?_)
 rw [impl_FormatRow.f] at H
 refine gs (rg (so rfl (op_box (cs := [.int .i64 a0_0, .int .i64 a0_1, .int .i64 a0_2]) rfl rfl rfl fun b1 => (sv (EV.as rfl) rfl (re (gs (gs (rg (sv (EV.ld (v := .agg #[.int .i64 a0_0, .int .i64 a0_1, .int .i64 a0_2]) 0 (some 3) rfl rfl rfl) rfl ?_)))))))))
 revert H; refine bdI ?_; rintro t1 A1 H
 refine so rfl (op_call (impl_IsValidRow.ok a0_0 a0_1 a0_2 _ A1) [] 1 rfl rfl rfl rfl rfl ?_)
 rintro _ _ _ ⟨rfl, rfl, rfl⟩
 refine sv (EV.nt rfl) rfl (re ?_)
 revert H; refine ifsI ?_ ?_ <;> intro c2 H
 ·
  subst c2
  refine gf rfl rfl (gk (gs (dr [0] [] [] 14 rfl rfl rfl rfl (xv 0 [0] [] rfl (EV.fa 0 rfl) rfl rfl rfl rfl (xv 1 [0] [] rfl (EV.ld 0 none rfl rfl rfl) rfl rfl rfl rfl (xv 4 [0] [] rfl (EV.fa 1 rfl) rfl rfl rfl rfl (xv 5 [0] [] rfl (EV.ld 0 none rfl rfl rfl) rfl rfl rfl rfl (xv 9 [0] [] rfl (EV.fa 2 rfl) rfl rfl rfl rfl (xv 10 [0] [] rfl (EV.ld 0 none rfl rfl rfl) rfl rfl rfl rfl (one1 2 rfl rfl ?_))))))))))
  revert H; refine bdI ?_; rintro t3 A3 H
  refine op_call (impl_FormatInt.ok k a0_0 _ A3) [] 1 rfl rfl rfl rfl rfl ?_
  rintro _ _ _ ⟨rfl, rfl, rfl⟩
  refine xs [0] [] rfl rfl rfl ?_
  revert H; refine ggI ?_; intro g4 H
  refine xv 3 [0] [] rfl (EV.ads rfl rfl g4) rfl rfl rfl rfl (one1 6 rfl rfl ?_)
  revert H; refine bdI ?_; rintro t5 A5 H
  refine op_call (impl_FormatInt.ok k a0_1 _ A5) [] 1 rfl rfl rfl rfl rfl ?_
  rintro _ _ _ ⟨rfl, rfl, rfl⟩
  refine xs [0] [] rfl rfl rfl ?_
  revert H; refine ggI ?_; intro g6 H
  refine xv 7 [0] [] rfl (EV.ads rfl rfl g6) rfl rfl rfl rfl ?_
  revert H; refine ggI ?_; intro g7 H
  refine xv 8 [0] [] rfl (EV.ads rfl rfl g7) rfl rfl rfl rfl (one1 11 rfl rfl ?_)
  revert H; refine bdI ?_; rintro t8 A8 H
  refine op_call (impl_FormatInt.ok k a0_2 _ A8) [] 1 rfl rfl rfl rfl rfl ?_
  rintro _ _ _ ⟨rfl, rfl, rfl⟩
  refine xs [0] [] rfl rfl rfl ?_
  revert H; refine ggI ?_; intro g9 H
  refine xv 12 [0] [] rfl (EV.ads rfl rfl g9) rfl rfl rfl rfl (xv 13 [0] [] rfl (EV.as rfl) rfl rfl rfl rfl (xd (pr [2] [] [] rfl rfl rfl rfl ?_)))
  cases H
  exact rt Try.func122 rfl (.tmp rfl .nil) rfl [] [] rfl rfl rfl rfl rfl ⟨rfl, rfl, rfl⟩
 ·
  obtain rfl := bF c2
  refine gt rfl rfl (gs (rg (sv (EV.as rfl) rfl (re ?_))))
  cases H
  exact rt Try.func122 rfl (.tmp rfl .nil) rfl [] [] rfl rfl rfl rfl rfl ⟨rfl, rfl, rfl⟩
def impl_rowTexts.l0 : Nat → (List ByteArray) → Int → Int → (List S99) → Option (ByteArray)
 | 0, _, _, _, _ => none
 | k + 1, x2_3, x2_8, x2_9, l0 => if x2_9 < x2_8 then (if 0 ≤ x2_9 then (if x2_9 < (l0.length : Int) then ((impl_FormatRow.f k ((rd_T99 l0 x2_9).f0) ((rd_T99 l0 x2_9).f1) ((rd_T99 l0 x2_9).f2)).bind fun t5 => (if x2_3.length < 8796093022208 then (impl_rowTexts.l0 k (x2_3 ++ ([t5] : List ByteArray)) x2_8 (wrap64 (x2_9 + 1)) l0) else none)) else none) else none) else ((impl_joined.f k x2_3 (⟨#[32]⟩ : ByteArray)).bind fun t9 => (some t9))
def impl_rowTexts.f (k : Nat) (l0 : List S99) : Option (ByteArray) := impl_rowTexts.l0 k [] (l0.length : Int) 0 l0
set_option maxHeartbeats 4000000 in
set_option maxRecDepth 100000 in
theorem impl_rowTexts.ok (k : Nat) (l0 : List S99) (Al0 : Option Addr) (cl0 : Nat) (r0 : ByteArray) (H : impl_rowTexts.f k l0 = some r0) : Fn Try.prog 104 [.slice Al0 l0.length cl0] [] [.sl 0 k99 Al0 cl0 l0 0 false] (fun v bx en => v = .string r0 ∧ bx = [] ∧ en = []) := by
 refine fn_ 21 Try.func104 rfl rfl rfl (fun base T w0 => ?_)
 rw [impl_rowTexts.f] at H
 refine gs (rg (sv (EV.as rfl) rfl (re (gs (rg (so rfl (op_lit (s := 1) (by_ := 16) .str ([] : List ByteArray) [] [] 1 [] rfl rfl rfl rfl rfl rfl rfl rfl rfl rfl rfl rfl rfl dq rfl fun A6_1 c6_1 => (sv (EV.as rfl) rfl (re (gs (gs (rg (sv (EV.mv rfl) rfl (sv (EV.ln rfl) rfl (sv (EV.mv rfl) rfl (re (gb ?_)))))))))))))))))
 refine lo (fun kk S => ∃ (x2_3 : List ByteArray) (Ax2_3 : Option Addr) (cx2_3 : Nat) (x2_8 : Int) (x2_9 : Int), impl_rowTexts.l0 kk x2_3 x2_8 x2_9 l0 = some r0 ∧ S = ⟨[(3, .slice Ax2_3 x2_3.length cx2_3), (7, .slice Al0 l0.length cl0), (8, .int .i64 x2_8), (9, .int .i64 x2_9)], [], [.sl 2 .str Ax2_3 cx2_3 x2_3 1 true, .sl 0 k99 Al0 cl0 l0 0 false]⟩) (fun S hS => ?_) (fun n0 ih0 S hS => ?_) ⟨[], A6_1, c6_1, (l0.length : Int), 0, H, rfl⟩ (fun h => wk [3, 7, 8, 9] [] [⟨1, 2, 1, true⟩, ⟨0, 0, 0, false⟩] h)
 · clear H; obtain ⟨_, _, _, _, _, H, _⟩ := hS; rw [impl_rowTexts.l0] at H; cases H
 clear H
 obtain ⟨x2_3, Ax2_3, cx2_3, x2_8, x2_9, H, rfl⟩ := hS
 rw [impl_rowTexts.l0] at H
 refine gs (rg (sv (EV.lss rfl rfl) rfl (re (gs ?_))))
 revert H; refine ifsI ?_ ?_ <;> intro c2 H
 ·
  refine gt rfl (dT c2) (gk (gs (gb (gs (rg ?_)))))
  revert H; refine ggI ?_; intro g3 H
  revert H; refine ggI ?_; intro g4 H
  refine sv (EV.ix 1 rfl rfl rfl g3 g4 rfl) rfl (sv (EV.le (v := .agg #[.int .i64 ((rd_T99 l0 x2_9).f0), .int .i64 ((rd_T99 l0 x2_9).f1), .int .i64 ((rd_T99 l0 x2_9).f2)]) x2_9 0 (some 3) 1 z99 rfl rfl rfl g3 g4 rfl rfl rfl) rfl (so rfl (op_alloc (cs := [.int .i64 0, .int .i64 0, .int .i64 0]) (by kernel_rfl) rfl fun b5 => (so rfl (op_st (cs' := [.int .i64 ((rd_T99 l0 x2_9).f0), .int .i64 ((rd_T99 l0 x2_9).f1), .int .i64 ((rd_T99 l0 x2_9).f2)]) 0 rfl rfl rfl rfl rfl rfl (re (rg (sv (EV.mv rfl) rfl (sv (EV.ld (v := .agg #[.int .i64 ((rd_T99 l0 x2_9).f0), .int .i64 ((rd_T99 l0 x2_9).f1), .int .i64 ((rd_T99 l0 x2_9).f2)]) 0 (some 3) rfl rfl rfl) rfl ?_)))))))))
  revert H; refine bdI ?_; rintro t5 A5 H
  refine so rfl (op_call (impl_FormatRow.ok n0 ((rd_T99 l0 x2_9).f0) ((rd_T99 l0 x2_9).f1) ((rd_T99 l0 x2_9).f2) _ A5) [] 2 rfl rfl rfl rfl rfl ?_)
  rintro _ _ _ ⟨rfl, rfl, rfl⟩
  refine so rfl (op_lit (s := 1) (by_ := 16) .str ([t5] : List ByteArray) [[]] [] 2 [.tmp 15] rfl rfl rfl rfl rfl rfl rfl rfl rfl rfl rfl rfl rfl dq rfl fun A16_6 c16_6 => ?_)
  revert H; refine ggI ?_; intro g7 H
  exact so rfl (op_app (k := .str) (s := 1) (by_ := 16) 0 2 rfl rfl rfl rfl (ap1 g7 dq) (ap1n g7 dq) (.inl rfl) true (fun _ => .inl rfl) rfl rfl fun A17_8 c17_8 => (nmE (en := [.sl 0 k99 Al0 cl0 l0 0 false, .sl 2 .str A16_6 c16_6 ([t5] : List ByteArray) 2 true, .sl 2 .str A17_8 c17_8 (x2_3 ++ ([t5] : List ByteArray)) 1 true]) (by kernel_rfl) (sv (EV.as rfl) rfl (re (pr [3, 7, 8, 9] [] [0, 2] rfl rfl rfl rfl (ge (rg (sv (EV.add rfl rfl) rfl (sv (EV.mv rfl) rfl (re (wk [3, 7, 8, 9] [] [⟨1, 2, 1, true⟩, ⟨0, 0, 0, false⟩] (ih0 _ (by omega) _ ⟨x2_3 ++ ([t5] : List ByteArray), A17_8, c17_8, x2_8, wrap64 (x2_9 + 1), H, rfl⟩))))))))))))
 ·
  refine gf rfl (dF c2) (gx rfl (gs (rg (sv (EV.mv rfl) rfl ?_))))
  revert H; refine bdI ?_; rintro t9 A9 H
  refine so rfl (op_call (impl_joined.ok n0 x2_3 Ax2_3 cx2_3 (⟨#[32]⟩ : ByteArray) _ A9) [⟨0, 0, 0, false⟩] 2 rfl rfl rfl rfl rfl ?_)
  rintro _ _ _ ⟨rfl, rfl, rfl⟩
  refine sv (EV.as rfl) rfl (re (pr [2] [] [] rfl rfl rfl rfl ?_))
  cases H
  exact rt Try.func104 rfl (.tmp rfl .nil) rfl [] [] rfl rfl rfl rfl rfl ⟨rfl, rfl, rfl⟩
def impl_FormatRows.f (k : Nat) (l0 : List S99) : Option (ByteArray) := (impl_AreValidRows.f k l0).bind fun t1 => (if t1 = true then ((impl_rowTexts.f k l0).bind fun t3 => (some t3)) else (some (⟨#[]⟩ : ByteArray)))
set_option maxHeartbeats 4000000 in
set_option maxRecDepth 100000 in
theorem impl_FormatRows.ok (k : Nat) (l0 : List S99) (Al0 : Option Addr) (cl0 : Nat) (r0 : ByteArray) (H : impl_FormatRows.f k l0 = some r0) : Fn Try.prog 60 [.slice Al0 l0.length cl0] [] [.sl 0 k99 Al0 cl0 l0 0 false] (fun v bx en => v = .string r0 ∧ bx = [] ∧ en = []) := by
 refine fn_ 8 Try.func60 rfl rfl rfl (fun base T w0 => ?_)
 rw [impl_FormatRows.f] at H
 refine gs (rg (sv (EV.as rfl) rfl (re (gs (gs (rg (sv (EV.mv rfl) rfl ?_)))))))
 revert H; refine bdI ?_; rintro t1 A1 H
 refine so rfl (op_call (impl_AreValidRows.ok k l0 Al0 cl0 _ A1) [⟨0, 0, 0, false⟩] 1 rfl rfl rfl rfl rfl ?_)
 rintro _ _ _ ⟨rfl, rfl, rfl⟩
 refine sv (EV.nt rfl) rfl (re ?_)
 revert H; refine ifsI ?_ ?_ <;> intro c2 H
 ·
  subst c2
  refine gf rfl rfl (gk (gs (rg (sv (EV.mv rfl) rfl ?_))))
  revert H; refine bdI ?_; rintro t3 A3 H
  refine so rfl (op_call (impl_rowTexts.ok k l0 Al0 cl0 _ A3) [⟨0, 0, 0, false⟩] 1 rfl rfl rfl rfl rfl ?_)
  rintro _ _ _ ⟨rfl, rfl, rfl⟩
  refine sv (EV.as rfl) rfl (re (pr [2] [] [] rfl rfl rfl rfl ?_))
  cases H
  exact rt Try.func60 rfl (.tmp rfl .nil) rfl [] [] rfl rfl rfl rfl rfl ⟨rfl, rfl, rfl⟩
 ·
  obtain rfl := bF c2
  refine gt rfl rfl (gs (rg (sv (EV.as rfl) rfl (re ?_))))
  cases H
  exact rt Try.func60 rfl (.tmp rfl .nil) rfl [] [] rfl rfl rfl rfl rfl ⟨rfl, rfl, rfl⟩
def impl_FormatTask.l0 : Nat → ByteArray → Int → Int → Int → Int → (List Bool) → (List S99) → (List S99) → Option (ByteArray)
 | 0, _, _, _, _, _, _, _, _ => none
 | k + 1, x2_3, x2_11, x2_12, x2_1_0, x2_1_4, l0_3, l0_1, l0_2 => if x2_12 < x2_11 then (if 0 ≤ x2_12 then (if x2_12 < (l0_3.length : Int) then (if (rdOf false l0_3 x2_12) = true then (if x2_3.size + (⟨#[49]⟩ : ByteArray).size ≤ 9223372036854775807 then (impl_FormatTask.l0 k (x2_3 ++ (⟨#[49]⟩ : ByteArray)) x2_11 (wrap64 (x2_12 + 1)) x2_1_0 x2_1_4 l0_3 l0_1 l0_2) else none) else (if x2_3.size + (⟨#[48]⟩ : ByteArray).size ≤ 9223372036854775807 then (impl_FormatTask.l0 k (x2_3 ++ (⟨#[48]⟩ : ByteArray)) x2_11 (wrap64 (x2_12 + 1)) x2_1_0 x2_1_4 l0_3 l0_1 l0_2) else none)) else none) else none) else ((impl_FormatInt.f k x2_1_0).bind fun t9 => ((impl_FormatRows.f k l0_1).bind fun t10 => ((impl_FormatRows.f k l0_2).bind fun t11 => ((impl_FormatInt.f k x2_1_4).bind fun t12 => ((impl_joined.f k ([t9, t10, t11, x2_3, t12] : List ByteArray) (⟨#[59]⟩ : ByteArray)).bind fun t14 => (some t14))))))
def impl_FormatTask.f (k : Nat) (a0_0 : Int) (l0_1 : List S99) (l0_2 : List S99) (l0_3 : List Bool) (a0_4 : Int) : Option (ByteArray) := (impl_IsValidTask.f k a0_0 l0_1 l0_2 l0_3 a0_4).bind fun t1 => (if t1 = true then (impl_FormatTask.l0 k (⟨#[]⟩ : ByteArray) (l0_3.length : Int) 0 a0_0 a0_4 l0_3 l0_1 l0_2) else (some (⟨#[]⟩ : ByteArray)))
set_option maxHeartbeats 4000000 in
set_option maxRecDepth 100000 in
theorem impl_FormatTask.ok (k : Nat) (a0_0 : Int) (l0_1 : List S99) (Al0_1 : Option Addr) (cl0_1 : Nat) (l0_2 : List S99) (Al0_2 : Option Addr) (cl0_2 : Nat) (l0_3 : List Bool) (Al0_3 : Option Addr) (cl0_3 : Nat) (a0_4 : Int) (r0 : ByteArray) (H : impl_FormatTask.f k a0_0 l0_1 l0_2 l0_3 a0_4 = some r0) : Fn Try.prog 10 [.agg #[.int .i64 a0_0, .slice Al0_1 l0_1.length cl0_1, .slice Al0_2 l0_2.length cl0_2, .slice Al0_3 l0_3.length cl0_3, .int .i64 a0_4]] [] [.sl 0 k99 Al0_1 cl0_1 l0_1 0 false, .sl 0 k99 Al0_2 cl0_2 l0_2 0 false, .sl 0 .bool Al0_3 cl0_3 l0_3 0 false] (fun v bx en => v = .string r0 ∧ bx = [] ∧ en = []) := by
 refine fn_ 37 Try.func10 rfl rfl rfl (fun base T w0 => ?_)
 rw [impl_FormatTask.f] at H
 refine gs (rg (so rfl (op_box (cs := [.int .i64 a0_0, .slice Al0_1 l0_1.length cl0_1, .slice Al0_2 l0_2.length cl0_2, .slice Al0_3 l0_3.length cl0_3, .int .i64 a0_4]) rfl rfl rfl fun b1 => (sv (EV.as rfl) rfl (re (gs (gs (rg (sv (EV.ld (v := .agg #[.int .i64 a0_0, .slice Al0_1 l0_1.length cl0_1, .slice Al0_2 l0_2.length cl0_2, .slice Al0_3 l0_3.length cl0_3, .int .i64 a0_4]) 0 (some 5) rfl rfl rfl) rfl ?_)))))))))
 revert H; refine bdI ?_; rintro t1 A1 H
 refine so rfl (op_call (impl_IsValidTask.ok k a0_0 l0_1 Al0_1 cl0_1 l0_2 Al0_2 cl0_2 l0_3 Al0_3 cl0_3 a0_4 _ A1) [⟨0, 0, 0, false⟩, ⟨1, 0, 0, false⟩, ⟨2, 0, 0, false⟩] 1 rfl rfl rfl rfl rfl ?_)
 rintro _ _ _ ⟨rfl, rfl, rfl⟩
 refine sv (EV.nt rfl) rfl (re ?_)
 revert H; refine ifsI ?_ ?_ <;> intro c2 H
 ·
  subst c2
  refine gf rfl rfl (gk (gs (rg (sv (EV.as rfl) rfl (re (gs (gs (rg (sv (EV.fa 3 rfl) rfl (sv (EV.ld 0 none rfl rfl rfl) rfl (sv (EV.ln rfl) rfl (sv (EV.mv rfl) rfl (re (pr [1, 3, 10, 11, 12] [0] [0, 1, 2] rfl rfl rfl rfl (gb ?_)))))))))))))))
  refine lo (fun kk S => ∃ (x2_3 : ByteArray) (x2_11 : Int) (x2_12 : Int) (x2_1_0 : Int) (x2_1_4 : Int), impl_FormatTask.l0 kk x2_3 x2_11 x2_12 x2_1_0 x2_1_4 l0_3 l0_1 l0_2 = some r0 ∧ S = ⟨[(1, .pointer (some ⟨b1, 0, none⟩)), (3, .string x2_3), (10, .slice Al0_3 l0_3.length cl0_3), (11, .int .i64 x2_11), (12, .int .i64 x2_12)], [⟨b1, 27, [.int .i64 x2_1_0, .slice Al0_1 l0_1.length cl0_1, .slice Al0_2 l0_2.length cl0_2, .slice Al0_3 l0_3.length cl0_3, .int .i64 x2_1_4]⟩], [.sl 0 .bool Al0_3 cl0_3 l0_3 0 false, .sl 0 k99 Al0_1 cl0_1 l0_1 0 false, .sl 0 k99 Al0_2 cl0_2 l0_2 0 false]⟩) (fun S hS => ?_) (fun n0 ih0 S hS => ?_) ⟨(⟨#[]⟩ : ByteArray), (l0_3.length : Int), 0, a0_0, a0_4, H, rfl⟩ (fun h => wk [1, 3, 10, 11, 12] [0] [⟨2, 0, 0, false⟩, ⟨0, 0, 0, false⟩, ⟨1, 0, 0, false⟩] h)
  · clear H; obtain ⟨_, _, _, _, _, H, _⟩ := hS; rw [impl_FormatTask.l0] at H; cases H
  clear H
  obtain ⟨x2_3, x2_11, x2_12, x2_1_0, x2_1_4, H, rfl⟩ := hS
  rw [impl_FormatTask.l0] at H
  refine gs (rg (sv (EV.lss rfl rfl) rfl (re (gs ?_))))
  revert H; refine ifsI ?_ ?_ <;> intro c3 H
  ·
   refine gt rfl (dT c3) (gk (gs (gb (gs (rg ?_)))))
   revert H; refine ggI ?_; intro g4 H
   revert H; refine ggI ?_; intro g5 H
   refine sv (EV.ix 0 rfl rfl rfl g4 g5 rfl) rfl (sv (EV.le (v := .bool (rdOf false l0_3 x2_12)) x2_12 0 none 0 false rfl rfl rfl g4 g5 rfl rfl rfl) rfl (sv (EV.as rfl) rfl (re (gs (rg (sv (EV.mv rfl) rfl (re ?_)))))))
   revert H; refine ifsI ?_ ?_ <;> intro c6 H
   ·
    refine gt rfl (c6) (rg (sv (EV.mv rfl) rfl ?_))
    revert H; refine ggI ?_; intro g7 H
    exact sv (EV.ads rfl rfl g7) rfl (sv (EV.as rfl) rfl (re (pr [1, 3, 10, 11, 12] [0] [0, 1, 2] rfl rfl rfl rfl (ge (rg (sv (EV.add rfl rfl) rfl (sv (EV.mv rfl) rfl (re (wk [1, 3, 10, 11, 12] [0] [⟨0, 0, 0, false⟩, ⟨1, 0, 0, false⟩, ⟨2, 0, 0, false⟩] (ih0 _ (by omega) _ ⟨x2_3 ++ (⟨#[49]⟩ : ByteArray), x2_11, wrap64 (x2_12 + 1), x2_1_0, x2_1_4, H, rfl⟩))))))))))
   ·
    refine gf rfl (bF c6) (rg (sv (EV.mv rfl) rfl ?_))
    revert H; refine ggI ?_; intro g8 H
    exact sv (EV.ads rfl rfl g8) rfl (sv (EV.as rfl) rfl (re (pr [1, 3, 10, 11, 12] [0] [0, 1, 2] rfl rfl rfl rfl (ge (rg (sv (EV.add rfl rfl) rfl (sv (EV.mv rfl) rfl (re (wk [1, 3, 10, 11, 12] [0] [⟨0, 0, 0, false⟩, ⟨1, 0, 0, false⟩, ⟨2, 0, 0, false⟩] (ih0 _ (by omega) _ ⟨x2_3 ++ (⟨#[48]⟩ : ByteArray), x2_11, wrap64 (x2_12 + 1), x2_1_0, x2_1_4, H, rfl⟩))))))))))
  ·
   refine gf rfl (dF c3) (gx rfl (gs (dr [0] [0, 1, 2] [] 16 rfl rfl rfl rfl (xv 0 [0] [0, 1, 2] rfl (EV.fa 0 rfl) rfl rfl rfl rfl (xv 1 [0] [0, 1, 2] rfl (EV.ld 0 none rfl rfl rfl) rfl rfl rfl rfl (xv 3 [0] [0, 1, 2] rfl (EV.fa 1 rfl) rfl rfl rfl rfl (xv 4 [0] [0, 1, 2] rfl (EV.ld 0 none rfl rfl rfl) rfl rfl rfl rfl (xv 6 [0] [0, 1, 2] rfl (EV.fa 2 rfl) rfl rfl rfl rfl (xv 7 [0] [0, 1, 2] rfl (EV.ld 0 none rfl rfl rfl) rfl rfl rfl rfl (xv 9 [0] [0, 1, 2] rfl (EV.mv rfl) rfl rfl rfl rfl (xv 10 [0] [0, 1, 2] rfl (EV.fa 4 rfl) rfl rfl rfl rfl (xv 11 [0] [0, 1, 2] rfl (EV.ld 0 none rfl rfl rfl) rfl rfl rfl rfl (one1 2 rfl rfl ?_)))))))))))))
   revert H; refine bdI ?_; rintro t9 A9 H
   refine op_call (impl_FormatInt.ok n0 x2_1_0 _ A9) [] 1 rfl rfl rfl rfl rfl ?_
   rintro _ _ _ ⟨rfl, rfl, rfl⟩
   refine xs [0] [0, 1, 2] rfl rfl rfl (one1 5 rfl rfl ?_)
   revert H; refine bdI ?_; rintro t10 A10 H
   refine op_call (impl_FormatRows.ok n0 l0_1 Al0_1 cl0_1 _ A10) [⟨1, 0, 0, false⟩] 1 rfl rfl rfl rfl rfl ?_
   rintro _ _ _ ⟨rfl, rfl, rfl⟩
   refine xs [0] [0, 1, 2] rfl rfl rfl (one1 8 rfl rfl ?_)
   revert H; refine bdI ?_; rintro t11 A11 H
   refine op_call (impl_FormatRows.ok n0 l0_2 Al0_2 cl0_2 _ A11) [⟨2, 0, 0, false⟩] 1 rfl rfl rfl rfl rfl ?_
   rintro _ _ _ ⟨rfl, rfl, rfl⟩
   refine xs [0] [0, 1, 2] rfl rfl rfl (one1 12 rfl rfl ?_)
   revert H; refine bdI ?_; rintro t12 A12 H
   refine op_call (impl_FormatInt.ok n0 x2_1_4 _ A12) [] 1 rfl rfl rfl rfl rfl ?_
   rintro _ _ _ ⟨rfl, rfl, rfl⟩
   refine xs [0] [0, 1, 2] rfl rfl rfl (one1 13 rfl rfl (op_lit (s := 1) (by_ := 16) .str ([t9, t10, t11, x2_3, t12] : List ByteArray) [[], [], [], [], []] [] 1 [.tmp 24, .tmp 27, .tmp 30, .tmp 31, .tmp 34] rfl rfl rfl rfl rfl rfl rfl rfl rfl rfl rfl rfl rfl dq rfl fun A35_13 c35_13 => (xs [0] [0, 1, 2] rfl rfl rfl (one1 14 rfl rfl ?_))))
   revert H; refine bdI ?_; rintro t14 A14 H
   refine op_call (impl_joined.ok n0 ([t9, t10, t11, x2_3, t12] : List ByteArray) A35_13 c35_13 (⟨#[59]⟩ : ByteArray) _ A14) [⟨3, 0, 0, false⟩] 2 rfl rfl rfl rfl rfl ?_
   rintro _ _ _ ⟨rfl, rfl, rfl⟩
   refine xs [0] [0, 1, 2] rfl rfl rfl (xv 15 [0] [0, 1, 2] rfl (EV.as rfl) rfl rfl rfl rfl (xd (pr [2] [] [] rfl rfl rfl rfl ?_)))
   cases H
   exact rt Try.func10 rfl (.tmp rfl .nil) rfl [] [] rfl rfl rfl rfl rfl ⟨rfl, rfl, rfl⟩
 ·
  obtain rfl := bF c2
  refine gt rfl rfl (gs (rg (sv (EV.as rfl) rfl (re ?_))))
  cases H
  exact rt Try.func10 rfl (.tmp rfl .nil) rfl [] [] rfl rfl rfl rfl rfl ⟨rfl, rfl, rfl⟩
def impl_ParseRow.f (k : Nat) (a0 : ByteArray) : Option (Int × Int × Int × Bool) := (impl_cut.f k a0 46).bind fun t1 => (if (t1.length : Int) = 3 then (if 0 < (t1.length : Int) then ((impl_ParseInt.f k (rdOf ByteArray.empty t1 0)).bind fun bt4 => (if 1 < (t1.length : Int) then ((impl_ParseInt.f k (rdOf ByteArray.empty t1 1)).bind fun bt6 => (if 2 < (t1.length : Int) then ((impl_ParseInt.f k (rdOf ByteArray.empty t1 2)).bind fun bt8 => (if bt4.2 = true then (if bt6.2 = true then (if bt8.2 = true then ((impl_IsValidRow.f bt4.1 bt6.1 bt8.1).bind fun t12 => (if t12 = true then (some (bt4.1, bt6.1, bt8.1, true)) else (some (0, 0, 0, false)))) else (some (0, 0, 0, false))) else (some (0, 0, 0, false))) else (some (0, 0, 0, false)))) else none)) else none)) else none) else (some (0, 0, 0, false)))
set_option maxHeartbeats 4000000 in
set_option maxRecDepth 100000 in
theorem impl_ParseRow.ok (k : Nat) (a0 : ByteArray) (r0 : Int) (r1 : Int) (r2 : Int) (r3 : Bool) (H : impl_ParseRow.f k a0 = some (r0, r1, r2, r3)) : Fn Try.prog 102 [.string a0] [] [] (fun v bx en => v = .tuple #[.agg #[.int .i64 r0, .int .i64 r1, .int .i64 r2], .bool r3] ∧ bx = [] ∧ en = []) := by
 refine fn_ 60 Try.func102 rfl rfl rfl (fun base T w0 => ?_)
 rw [impl_ParseRow.f] at H
 refine gs (rg (so rfl (op_alloc (cs := [.int .i64 0, .int .i64 0, .int .i64 0]) (by kernel_rfl) rfl fun b2 => (sv (EV.as rfl) rfl (re (gs (rg (sv (EV.mv rfl) rfl ?_))))))))
 revert H; refine bdI ?_; rintro t1 A1 H
 refine so rfl (op_call (impl_cut.ok k a0 46 _ A1) [] 1 rfl rfl rfl rfl rfl ?_)
 rintro _ _ _ ⟨At1, ct1, rfl, rfl, rfl⟩
 refine sv (EV.as rfl) rfl (re (gs (gs (rg (sv (EV.mv rfl) rfl (sv (EV.ln rfl) rfl (sv (EV.neq rfl rfl) rfl (re (pr [2, 4, 16] [0] [0] rfl rfl rfl rfl ?_)))))))))
 revert H; refine ifsI ?_ ?_ <;> intro c2 H
 ·
  refine gf rfl (nF c2) (gk (gs (rg (sv (EV.mv rfl) rfl ?_))))
  revert H; refine ggI ?_; intro g3 H
  refine sv (EV.ix 0 rfl rfl rfl dq g3 rfl) rfl (sv (EV.le (v := .string (rdOf ByteArray.empty t1 0)) 0 0 none 0 ByteArray.empty rfl rfl rfl dq g3 rfl rfl rfl) rfl ?_)
  revert H; refine bdI ?_; rintro ⟨t4_0, t4_1⟩ A4 H
  refine so rfl (op_call (impl_ParseInt.ok k (rdOf ByteArray.empty t1 0) _ _ A4) [] 3 rfl rfl rfl rfl rfl ?_)
  rintro _ _ _ ⟨rfl, rfl, rfl⟩
  refine sv (EV.mv rfl) rfl (sv (EV.ex rfl rfl) rfl (sv (EV.ex rfl rfl) rfl (sv (EV.as rfl) rfl (sv (EV.as rfl) rfl (re (pr [2, 4, 5, 6] [0] [0] rfl rfl rfl rfl (gs (rg (sv (EV.mv rfl) rfl ?_)))))))))
  revert H; refine ggI ?_; intro g5 H
  refine sv (EV.ix 0 rfl rfl rfl dq g5 rfl) rfl (sv (EV.le (v := .string (rdOf ByteArray.empty t1 1)) 1 0 none 0 ByteArray.empty rfl rfl rfl dq g5 rfl rfl rfl) rfl ?_)
  revert H; refine bdI ?_; rintro ⟨t6_0, t6_1⟩ A6 H
  refine so rfl (op_call (impl_ParseInt.ok k (rdOf ByteArray.empty t1 1) _ _ A6) [] 3 rfl rfl rfl rfl rfl ?_)
  rintro _ _ _ ⟨rfl, rfl, rfl⟩
  refine sv (EV.mv rfl) rfl (sv (EV.ex rfl rfl) rfl (sv (EV.ex rfl rfl) rfl (sv (EV.as rfl) rfl (sv (EV.as rfl) rfl (re (pr [2, 4, 5, 6, 7, 8] [0] [0] rfl rfl rfl rfl (gs (rg (sv (EV.mv rfl) rfl ?_)))))))))
  revert H; refine ggI ?_; intro g7 H
  refine sv (EV.ix 0 rfl rfl rfl dq g7 rfl) rfl (sv (EV.le (v := .string (rdOf ByteArray.empty t1 2)) 2 0 none 0 ByteArray.empty rfl rfl rfl dq g7 rfl rfl rfl) rfl ?_)
  revert H; refine bdI ?_; rintro ⟨t8_0, t8_1⟩ A8 H
  refine so rfl (op_call (impl_ParseInt.ok k (rdOf ByteArray.empty t1 2) _ _ A8) [] 3 rfl rfl rfl rfl rfl ?_)
  rintro _ _ _ ⟨rfl, rfl, rfl⟩
  refine sv (EV.mv rfl) rfl (sv (EV.ex rfl rfl) rfl (sv (EV.ex rfl rfl) rfl (sv (EV.as rfl) rfl (sv (EV.as rfl) rfl (re (pr [2, 5, 6, 7, 8, 9, 10] [0] [] rfl rfl rfl rfl (gs (rg (sv (EV.mv rfl) rfl (sv (EV.mv rfl) rfl (sv (EV.mv rfl) rfl (sv (EV.bd (v := .agg #[.int .i64 t4_0, .int .i64 t6_0, .int .i64 t8_0]) rfl (by kernel_rfl)) rfl (so rfl (op_alloc (cs := [.int .i64 0, .int .i64 0, .int .i64 0]) (by kernel_rfl) rfl fun b11 => (so rfl (op_st (cs' := [.int .i64 t4_0, .int .i64 t6_0, .int .i64 t8_0]) 1 rfl rfl rfl rfl rfl rfl (re (pr [2, 6, 8, 10, 11] [0, 1] [] rfl rfl rfl rfl (gs (gs (rg (sv (EV.mv rfl) rfl (sv (EV.nt rfl) rfl (sv (EV.mv rfl) rfl ?_))))))))))))))))))))))))
  revert H; refine ifsI ?_ ?_ <;> intro c9 H
  ·
   subst c9
   refine ts 45 rfl rfl (sv (EV.mv rfl) rfl (sv (EV.nt rfl) rfl (sv (EV.pf rfl rfl rfl) rfl (sv (EV.mv rfl) rfl ?_))))
   revert H; refine ifsI ?_ ?_ <;> intro c10 H
   ·
    subst c10
    refine ts 49 rfl rfl (sv (EV.mv rfl) rfl (sv (EV.nt rfl) rfl (sv (EV.pf rfl rfl rfl) rfl (sv (EV.mv rfl) rfl ?_))))
    revert H; refine ifsI ?_ ?_ <;> intro c11 H
    ·
     subst c11
     refine ts 53 rfl rfl (sv (EV.ld (v := .agg #[.int .i64 t4_0, .int .i64 t6_0, .int .i64 t8_0]) 1 (some 3) rfl rfl rfl) rfl ?_)
     revert H; refine bdI ?_; rintro t12 A12 H
     refine so rfl (op_call (impl_IsValidRow.ok t4_0 t6_0 t8_0 _ A12) [] 1 rfl rfl rfl rfl rfl ?_)
     rintro _ _ _ ⟨rfl, rfl, rfl⟩
     refine sv (EV.nt rfl) rfl (sv (EV.pf rfl rfl rfl) rfl (re (pr [2, 11, 57] [0, 1] [] rfl rfl rfl rfl ?_)))
     revert H; refine ifsI ?_ ?_ <;> intro c13 H
     ·
      subst c13
      refine gf rfl rfl (gk (gs (rg (sv (EV.ld (v := .agg #[.int .i64 t4_0, .int .i64 t6_0, .int .i64 t8_0]) 1 (some 3) rfl rfl rfl) rfl (so rfl (op_st (cs' := [.int .i64 t4_0, .int .i64 t6_0, .int .i64 t8_0]) 0 rfl rfl rfl rfl rfl rfl (sv (EV.as rfl) rfl (re ?_))))))))
      cases H
      exact rt Try.func102 rfl (.cell 0 (some 3) rfl rfl rfl (.tmp rfl .nil)) rfl [] [] rfl rfl rfl rfl rfl ⟨rfl, rfl, rfl⟩
     ·
      obtain rfl := bF c13
      refine gt rfl rfl (gs (rg (sv (EV.bd (v := .agg #[.int .i64 0, .int .i64 0, .int .i64 0]) rfl (by kernel_rfl)) rfl (so rfl (op_st (cs' := [.int .i64 0, .int .i64 0, .int .i64 0]) 0 rfl rfl rfl rfl rfl rfl (sv (EV.as rfl) rfl (re ?_)))))))
      cases H
      exact rt Try.func102 rfl (.cell 0 (some 3) rfl rfl rfl (.tmp rfl .nil)) rfl [] [] rfl rfl rfl rfl rfl ⟨rfl, rfl, rfl⟩
    ·
     obtain rfl := bF c11
     refine ts 53 rfl rfl (sk rfl (sk rfl (sk rfl (sv (EV.pt rfl rfl rfl) rfl (re (pr [2, 11, 57] [0, 1] [] rfl rfl rfl rfl (gt rfl rfl (gs (rg (sv (EV.bd (v := .agg #[.int .i64 0, .int .i64 0, .int .i64 0]) rfl (by kernel_rfl)) rfl (so rfl (op_st (cs' := [.int .i64 0, .int .i64 0, .int .i64 0]) 0 rfl rfl rfl rfl rfl rfl (sv (EV.as rfl) rfl (re ?_))))))))))))))
     cases H
     exact rt Try.func102 rfl (.cell 0 (some 3) rfl rfl rfl (.tmp rfl .nil)) rfl [] [] rfl rfl rfl rfl rfl ⟨rfl, rfl, rfl⟩
   ·
    obtain rfl := bF c10
    refine ts 49 rfl rfl (sk rfl (sk rfl (sv (EV.pt rfl rfl rfl) rfl (sv (EV.mv rfl) rfl (sk rfl (sk rfl (sk rfl (sv (EV.pt rfl rfl rfl) rfl (re (pr [2, 11, 57] [0, 1] [] rfl rfl rfl rfl (gt rfl rfl (gs (rg (sv (EV.bd (v := .agg #[.int .i64 0, .int .i64 0, .int .i64 0]) rfl (by kernel_rfl)) rfl (so rfl (op_st (cs' := [.int .i64 0, .int .i64 0, .int .i64 0]) 0 rfl rfl rfl rfl rfl rfl (sv (EV.as rfl) rfl (re ?_))))))))))))))))))
    cases H
    exact rt Try.func102 rfl (.cell 0 (some 3) rfl rfl rfl (.tmp rfl .nil)) rfl [] [] rfl rfl rfl rfl rfl ⟨rfl, rfl, rfl⟩
  ·
   obtain rfl := bF c9
   refine ts 45 rfl rfl (sk rfl (sk rfl (sv (EV.pt rfl rfl rfl) rfl (sv (EV.mv rfl) rfl (sk rfl (sk rfl (sv (EV.pt rfl rfl rfl) rfl (sv (EV.mv rfl) rfl (sk rfl (sk rfl (sk rfl (sv (EV.pt rfl rfl rfl) rfl (re (pr [2, 11, 57] [0, 1] [] rfl rfl rfl rfl (gt rfl rfl (gs (rg (sv (EV.bd (v := .agg #[.int .i64 0, .int .i64 0, .int .i64 0]) rfl (by kernel_rfl)) rfl (so rfl (op_st (cs' := [.int .i64 0, .int .i64 0, .int .i64 0]) 0 rfl rfl rfl rfl rfl rfl (sv (EV.as rfl) rfl (re ?_))))))))))))))))))))))
   cases H
   exact rt Try.func102 rfl (.cell 0 (some 3) rfl rfl rfl (.tmp rfl .nil)) rfl [] [] rfl rfl rfl rfl rfl ⟨rfl, rfl, rfl⟩
 ·
  refine gt rfl (nT c2) (gs (rg (sv (EV.bd (v := .agg #[.int .i64 0, .int .i64 0, .int .i64 0]) rfl (by kernel_rfl)) rfl (so rfl (op_st (cs' := [.int .i64 0, .int .i64 0, .int .i64 0]) 0 rfl rfl rfl rfl rfl rfl (sv (EV.as rfl) rfl (re ?_)))))))
  cases H
  exact rt Try.func102 rfl (.cell 0 (some 3) rfl rfl rfl (.tmp rfl .nil)) rfl [] [] rfl rfl rfl rfl rfl ⟨rfl, rfl, rfl⟩
def impl_ParseRows.l0 : Nat → (List S99) → (List ByteArray) → Int → Int → Option ((List S99) × Bool)
 | 0, _, _, _, _ => none
 | k + 1, x2_4, x2_13, x2_14, x2_15 => if x2_15 < x2_14 then (if 0 ≤ x2_15 then (if x2_15 < (x2_13.length : Int) then ((impl_ParseRow.f k (rdOf ByteArray.empty x2_13 x2_15)).bind fun bt7 => (if bt7.2.2.2 = true then (if x2_4.length < 5864062014805 then (impl_ParseRows.l0 k (x2_4 ++ ([(⟨bt7.1, bt7.2.1, bt7.2.2.1⟩ : S99)] : List S99)) x2_13 x2_14 (wrap64 (x2_15 + 1))) else none) else (some ([], false)))) else none) else none) else ((impl_AreValidRows.f k x2_4).bind fun t12 => (if t12 = true then (some (x2_4, true)) else (some ([], false))))
def impl_ParseRows.f (k : Nat) (a0 : ByteArray) : Option ((List S99) × Bool) := if a0.toList = (⟨#[]⟩ : ByteArray).toList then (some ([], true)) else ((impl_cut.f k a0 32).bind fun t3 => (impl_ParseRows.l0 k [] t3 (t3.length : Int) 0))
set_option maxHeartbeats 4000000 in
set_option maxRecDepth 100000 in
theorem impl_ParseRows.ok (k : Nat) (a0 : ByteArray) (r0 : List S99) (r1 : Bool) (H : impl_ParseRows.f k a0 = some (r0, r1)) : Fn Try.prog 57 [.string a0] [] [] (fun v bx en => ∃ A0 c0, v = .tuple #[.slice A0 r0.length c0, .bool r1] ∧ bx = [] ∧ en = [.sl 2 k99 A0 c0 r0 1 true]) := by
 refine fn_ 35 Try.func57 rfl rfl rfl (fun base T w0 => ?_)
 rw [impl_ParseRows.f] at H
 refine gs (rg (sv (EV.as rfl) rfl (sv (EV.as rfl) rfl (re (gs (gs (rg (sv (EV.mv rfl) rfl (sv (EV.eqs rfl rfl) rfl (re ?_))))))))))
 revert H; refine ifsI ?_ ?_ <;> intro c1 H
 ·
  refine gt rfl (dT c1) (gs (rg (sv (EV.as rfl) rfl (sv (EV.as rfl) rfl (re (nil_ k99 1 dq ?_))))))
  cases H
  exact rt Try.func57 rfl (.tmp rfl (.tmp rfl .nil)) rfl [] [⟨0, 2, 1, true⟩] rfl rfl rfl rfl rfl ⟨_, _, rfl, rfl, rfl⟩
 ·
  refine gf rfl (dF c1) (gk (gs (rg (so rfl (op_lit (s := 3) (by_ := 24) k99 ([] : List S99) [] [] 1 [] rfl rfl rfl rfl rfl rfl rfl rfl rfl rfl rfl rfl rfl dq rfl fun A11_2 c11_2 => (sv (EV.as rfl) rfl (re (gs (gs (rg (sv (EV.mv rfl) rfl ?_)))))))))))
  revert H; refine bdI ?_; rintro t3 A3 H
  refine so rfl (op_call (impl_cut.ok k a0 32 _ A3) [] 2 rfl rfl rfl rfl rfl ?_)
  rintro _ _ _ ⟨At3, ct3, rfl, rfl, rfl⟩
  refine sv (EV.ln rfl) rfl (sv (EV.mv rfl) rfl (re (pr [4, 13, 14, 15] [] [0, 1] rfl rfl rfl rfl (gb ?_))))
  refine lo (fun kk S => ∃ (x2_4 : List S99) (Ax2_4 : Option Addr) (cx2_4 : Nat) (x2_13 : List ByteArray) (Ax2_13 : Option Addr) (cx2_13 : Nat) (x2_14 : Int) (x2_15 : Int), impl_ParseRows.l0 kk x2_4 x2_13 x2_14 x2_15 = some (r0, r1) ∧ S = ⟨[(4, .slice Ax2_4 x2_4.length cx2_4), (13, .slice Ax2_13 x2_13.length cx2_13), (14, .int .i64 x2_14), (15, .int .i64 x2_15)], [], [.sl 2 k99 Ax2_4 cx2_4 x2_4 1 true, .sl 2 .str Ax2_13 cx2_13 x2_13 2 true]⟩) (fun S hS => ?_) (fun n0 ih0 S hS => ?_) ⟨[], A11_2, c11_2, t3, At3, ct3, (t3.length : Int), 0, H, rfl⟩ (fun h => wk [4, 13, 14, 15] [] [⟨0, 2, 1, true⟩, ⟨1, 2, 2, true⟩] h)
  · clear H; obtain ⟨_, _, _, _, _, _, _, _, H, _⟩ := hS; rw [impl_ParseRows.l0] at H; cases H
  clear H
  obtain ⟨x2_4, Ax2_4, cx2_4, x2_13, Ax2_13, cx2_13, x2_14, x2_15, H, rfl⟩ := hS
  rw [impl_ParseRows.l0] at H
  refine gs (rg (sv (EV.lss rfl rfl) rfl (re (gs ?_))))
  revert H; refine ifsI ?_ ?_ <;> intro c4 H
  ·
   refine gt rfl (dT c4) (gk (gs (gb (gs (rg ?_)))))
   revert H; refine ggI ?_; intro g5 H
   revert H; refine ggI ?_; intro g6 H
   refine sv (EV.ix 1 rfl rfl rfl g5 g6 rfl) rfl (sv (EV.le (v := .string (rdOf ByteArray.empty x2_13 x2_15)) x2_15 0 none 1 ByteArray.empty rfl rfl rfl g5 g6 rfl rfl rfl) rfl (sv (EV.as rfl) rfl (re (gs (rg (sv (EV.mv rfl) rfl ?_))))))
   revert H; refine bdI ?_; rintro ⟨t7_0, t7_1, t7_2, t7_3⟩ A7 H
   refine so rfl (op_call (impl_ParseRow.ok n0 (rdOf ByteArray.empty x2_13 x2_15) _ _ _ _ A7) [] 3 rfl rfl rfl rfl rfl ?_)
   rintro _ _ _ ⟨rfl, rfl, rfl⟩
   refine sv (EV.mv rfl) rfl (sv (EV.ex rfl rfl) rfl (sv (EV.ex rfl rfl) rfl (so rfl (op_alloc (cs := [.int .i64 0, .int .i64 0, .int .i64 0]) (by kernel_rfl) rfl fun b7 => (so rfl (op_st (cs' := [.int .i64 t7_0, .int .i64 t7_1, .int .i64 t7_2]) 0 rfl rfl rfl rfl rfl rfl (sv (EV.as rfl) rfl (re (pr [4, 7, 8, 13, 14, 15] [0] [0, 1] rfl rfl rfl rfl (gs (gs (rg (sv (EV.mv rfl) rfl (sv (EV.nt rfl) rfl (re ?_)))))))))))))))
   revert H; refine ifsI ?_ ?_ <;> intro c8 H
   ·
    subst c8
    refine gf rfl rfl (gk (rg (sv (EV.mv rfl) rfl (sv (EV.ld (v := .agg #[.int .i64 t7_0, .int .i64 t7_1, .int .i64 t7_2]) 0 (some 3) rfl rfl rfl) rfl (so rfl (op_lit (s := 3) (by_ := 24) k99 ([(⟨t7_0, t7_1, t7_2⟩ : S99)] : List S99) [[]] [] 3 [.tmp 27] rfl rfl rfl rfl rfl rfl rfl rfl rfl rfl rfl rfl rfl dq rfl fun A28_9 c28_9 => ?_))))))
    revert H; refine ggI ?_; intro g10 H
    exact so rfl (op_app (k := k99) (s := 3) (by_ := 24) 0 2 rfl rfl rfl rfl (ap1 g10 dq) (ap1n g10 dq) (.inl rfl) true (fun _ => .inl rfl) rfl rfl fun A29_11 c29_11 => (nmE (en := [.sl 2 .str Ax2_13 cx2_13 x2_13 2 true, .sl 2 k99 A28_9 c28_9 ([(⟨t7_0, t7_1, t7_2⟩ : S99)] : List S99) 3 true, .sl 2 k99 A29_11 c29_11 (x2_4 ++ ([(⟨t7_0, t7_1, t7_2⟩ : S99)] : List S99)) 1 true]) (by kernel_rfl) (sv (EV.as rfl) rfl (re (pr [4, 13, 14, 15] [] [0, 2] rfl rfl rfl rfl (ge (rg (sv (EV.add rfl rfl) rfl (sv (EV.mv rfl) rfl (re (wk [4, 13, 14, 15] [] [⟨1, 2, 1, true⟩, ⟨0, 2, 2, true⟩] (ih0 _ (by omega) _ ⟨x2_4 ++ ([(⟨t7_0, t7_1, t7_2⟩ : S99)] : List S99), A29_11, c29_11, x2_13, Ax2_13, cx2_13, x2_14, wrap64 (x2_15 + 1), H, rfl⟩))))))))))))
   ·
    obtain rfl := bF c8
    refine gt rfl rfl (gs (rg (sv (EV.as rfl) rfl (sv (EV.as rfl) rfl (re (pr [2, 3] [] [] rfl rfl rfl rfl (nil_ k99 1 dq ?_)))))))
    cases H
    exact rt Try.func57 rfl (.tmp rfl (.tmp rfl .nil)) rfl [] [⟨0, 2, 1, true⟩] rfl rfl rfl rfl rfl ⟨_, _, rfl, rfl, rfl⟩
  ·
   refine gf rfl (dF c4) (gx rfl (gs (gs (rg (sv (EV.mv rfl) rfl ?_)))))
   revert H; refine bdI ?_; rintro t12 A12 H
   refine so rfl (op_call (impl_AreValidRows.ok n0 x2_4 Ax2_4 cx2_4 _ A12) [⟨0, 0, 0, false⟩] 3 rfl rfl rfl rfl rfl ?_)
   rintro _ _ _ ⟨rfl, rfl, rfl⟩
   refine sv (EV.nt rfl) rfl (re (pr [4, 33] [] [0] rfl rfl rfl rfl ?_))
   revert H; refine ifsI ?_ ?_ <;> intro c13 H
   ·
    subst c13
    refine gf rfl rfl (gk (gs (rg (sv (EV.mv rfl) rfl (sv (EV.as rfl) rfl (sv (EV.as rfl) rfl (re ?_)))))))
    cases H
    exact rt Try.func57 rfl (.tmp rfl (.tmp rfl .nil)) rfl [] [⟨0, 2, 1, true⟩] rfl rfl rfl rfl rfl ⟨_, _, rfl, rfl, rfl⟩
   ·
    obtain rfl := bF c13
    refine gt rfl rfl (gs (rg (sv (EV.as rfl) rfl (sv (EV.as rfl) rfl (re (nil_ k99 2 dq ?_))))))
    cases H
    exact rt Try.func57 rfl (.tmp rfl (.tmp rfl .nil)) rfl [] [⟨1, 2, 1, true⟩] rfl rfl rfl rfl rfl ⟨_, _, rfl, rfl, rfl⟩
def impl_ParseTask.l0 : Nat → ByteArray → (List ByteArray) → Bool → Bool → Bool → Bool → Int → Int → Int → (List S99) → (List S99) → (List Bool) → Int → Int → (List S99) → (List S99) → (List Bool) → Int → Option (Int × (List S99) × (List S99) × (List Bool) × Int × Bool)
 | 0, _, _, _, _, _, _, _, _, _, _, _, _, _, _, _, _, _, _ => none
 | k + 1, x2_0, x2_4, x2_6, x2_8, x2_10, x2_12, x2_57, x2_58, x2_2_0, x2_2_1, x2_2_2, x2_2_3, x2_2_4, x2_13_0, x2_13_1, x2_13_2, x2_13_3, x2_13_4 => if x2_58 < x2_57 then (if 3 < (x2_4.length : Int) then (if 0 ≤ x2_58 then (if x2_13_3.length < 140737488355328 then (if x2_58 < ((rdOf ByteArray.empty x2_4 3).size : Int) then (impl_ParseTask.l0 k x2_0 x2_4 x2_6 x2_8 x2_10 x2_12 x2_57 (wrap64 (x2_58 + 1)) x2_2_0 x2_2_1 x2_2_2 x2_2_3 x2_2_4 x2_13_0 x2_13_1 x2_13_2 (x2_13_3 ++ ([decide ((bt (rdOf ByteArray.empty x2_4 3) x2_58) = 49)] : List Bool)) x2_13_4) else none) else none) else none) else none) else (if x2_6 = true then (if x2_8 = true then (if x2_10 = true then (if x2_12 = true then ((impl_IsValidTask.f k x2_13_0 x2_13_1 x2_13_2 x2_13_3 x2_13_4).bind fun t23 => (if t23 = true then ((impl_FormatTask.f k x2_13_0 x2_13_1 x2_13_2 x2_13_3 x2_13_4).bind fun t25 => (if t25.toList = x2_0.toList then (some (x2_13_0, x2_13_1, x2_13_2, x2_13_3, x2_13_4, true)) else (some (0, [], [], [], 0, false)))) else (some (0, [], [], [], 0, false)))) else (some (0, [], [], [], 0, false))) else (some (0, [], [], [], 0, false))) else (some (0, [], [], [], 0, false))) else (some (0, [], [], [], 0, false)))
def impl_ParseTask.f (k : Nat) (a0 : ByteArray) : Option (Int × (List S99) × (List S99) × (List Bool) × Int × Bool) := (impl_cut.f k a0 59).bind fun t1 => (if (t1.length : Int) = 5 then (if 0 < (t1.length : Int) then ((impl_ParseInt.f k (rdOf ByteArray.empty t1 0)).bind fun bt4 => (if 1 < (t1.length : Int) then ((impl_ParseRows.f k (rdOf ByteArray.empty t1 1)).bind fun bt6 => (if 2 < (t1.length : Int) then ((impl_ParseRows.f k (rdOf ByteArray.empty t1 2)).bind fun bt8 => (if 4 < (t1.length : Int) then ((impl_ParseInt.f k (rdOf ByteArray.empty t1 4)).bind fun bt10 => (if 3 < (t1.length : Int) then (impl_ParseTask.l0 k a0 t1 bt4.2 bt6.2 bt8.2 bt10.2 ((rdOf ByteArray.empty t1 3).size : Int) 0 0 [] [] [] 0 bt4.1 bt6.1 bt8.1 [] bt10.1) else none)) else none)) else none)) else none)) else none) else (some (0, [], [], [], 0, false)))
set_option maxHeartbeats 4000000 in
set_option maxRecDepth 100000 in
theorem impl_ParseTask.ok (k : Nat) (a0 : ByteArray) (r0 : Int) (r1 : List S99) (r2 : List S99) (r3 : List Bool) (r4 : Int) (r5 : Bool) (H : impl_ParseTask.f k a0 = some (r0, r1, r2, r3, r4, r5)) : Fn Try.prog 9 [.string a0] [] [] (fun v bx en => ∃ A1 c1 A2 c2 A3 c3, v = .tuple #[.agg #[.int .i64 r0, .slice A1 r1.length c1, .slice A2 r2.length c2, .slice A3 r3.length c3, .int .i64 r4], .bool r5] ∧ bx = [] ∧ en = [.sl 2 k99 A1 c1 r1 1 true, .sl 2 k99 A2 c2 r2 2 true, .sl 2 .bool A3 c3 r3 3 true]) := by
 refine fn_ 100 Try.func9 rfl rfl rfl (fun base T w0 => ?_)
 rw [impl_ParseTask.f] at H
 refine gs (rg (so rfl (op_alloc (cs := [.int .i64 0, .slice none 0 0, .slice none 0 0, .slice none 0 0, .int .i64 0]) (by kernel_rfl) rfl fun b2 => (sv (EV.as rfl) rfl (re (gs (rg (sv (EV.mv rfl) rfl ?_))))))))
 revert H; refine bdI ?_; rintro t1 A1 H
 refine so rfl (op_call (impl_cut.ok k a0 59 _ A1) [] 1 rfl rfl rfl rfl rfl ?_)
 rintro _ _ _ ⟨At1, ct1, rfl, rfl, rfl⟩
 refine sv (EV.as rfl) rfl (re (gs (gs (rg (sv (EV.mv rfl) rfl (sv (EV.ln rfl) rfl (sv (EV.neq rfl rfl) rfl (re ?_))))))))
 revert H; refine ifsI ?_ ?_ <;> intro c2 H
 ·
  refine gf rfl (nF c2) (gk (gs (rg (sv (EV.mv rfl) rfl ?_))))
  revert H; refine ggI ?_; intro g3 H
  refine sv (EV.ix 0 rfl rfl rfl dq g3 rfl) rfl (sv (EV.le (v := .string (rdOf ByteArray.empty t1 0)) 0 0 none 0 ByteArray.empty rfl rfl rfl dq g3 rfl rfl rfl) rfl ?_)
  revert H; refine bdI ?_; rintro ⟨t4_0, t4_1⟩ A4 H
  refine so rfl (op_call (impl_ParseInt.ok k (rdOf ByteArray.empty t1 0) _ _ A4) [] 3 rfl rfl rfl rfl rfl ?_)
  rintro _ _ _ ⟨rfl, rfl, rfl⟩
  refine sv (EV.mv rfl) rfl (sv (EV.ex rfl rfl) rfl (sv (EV.ex rfl rfl) rfl (sv (EV.as rfl) rfl (sv (EV.as rfl) rfl (re (pr [0, 2, 4, 5, 6] [0] [0] rfl rfl rfl rfl (gs (rg (sv (EV.mv rfl) rfl ?_)))))))))
  revert H; refine ggI ?_; intro g5 H
  refine sv (EV.ix 0 rfl rfl rfl dq g5 rfl) rfl (sv (EV.le (v := .string (rdOf ByteArray.empty t1 1)) 1 0 none 0 ByteArray.empty rfl rfl rfl dq g5 rfl rfl rfl) rfl ?_)
  revert H; refine bdI ?_; rintro ⟨t6_0, t6_1⟩ A6 H
  refine so rfl (op_call (impl_ParseRows.ok k (rdOf ByteArray.empty t1 1) _ _ A6) [] 3 rfl rfl rfl rfl rfl ?_)
  rintro _ _ _ ⟨At6_0, ct6_0, rfl, rfl, rfl⟩
  refine sv (EV.mv rfl) rfl (sv (EV.ex rfl rfl) rfl (sv (EV.ex rfl rfl) rfl (sv (EV.as rfl) rfl (sv (EV.as rfl) rfl (re (pr [0, 2, 4, 5, 6, 7, 8] [0] [0, 1] rfl rfl rfl rfl (gs (rg (sv (EV.mv rfl) rfl ?_)))))))))
  revert H; refine ggI ?_; intro g7 H
  refine sv (EV.ix 0 rfl rfl rfl dq g7 rfl) rfl (sv (EV.le (v := .string (rdOf ByteArray.empty t1 2)) 2 0 none 0 ByteArray.empty rfl rfl rfl dq g7 rfl rfl rfl) rfl ?_)
  revert H; refine bdI ?_; rintro ⟨t8_0, t8_1⟩ A8 H
  refine so rfl (op_call (impl_ParseRows.ok k (rdOf ByteArray.empty t1 2) _ _ A8) [] 5 rfl rfl rfl rfl rfl ?_)
  rintro _ _ _ ⟨At8_0, ct8_0, rfl, rfl, rfl⟩
  refine sv (EV.mv rfl) rfl (sv (EV.ex rfl rfl) rfl (sv (EV.ex rfl rfl) rfl (sv (EV.as rfl) rfl (sv (EV.as rfl) rfl (re (pr [0, 2, 4, 5, 6, 7, 8, 9, 10] [0] [0, 1, 2] rfl rfl rfl rfl (gs (rg (sv (EV.mv rfl) rfl ?_)))))))))
  revert H; refine ggI ?_; intro g9 H
  refine sv (EV.ix 0 rfl rfl rfl dq g9 rfl) rfl (sv (EV.le (v := .string (rdOf ByteArray.empty t1 4)) 4 0 none 0 ByteArray.empty rfl rfl rfl dq g9 rfl rfl rfl) rfl ?_)
  revert H; refine bdI ?_; rintro ⟨t10_0, t10_1⟩ A10 H
  refine so rfl (op_call (impl_ParseInt.ok k (rdOf ByteArray.empty t1 4) _ _ A10) [] 7 rfl rfl rfl rfl rfl ?_)
  rintro _ _ _ ⟨rfl, rfl, rfl⟩
  refine sv (EV.mv rfl) rfl (sv (EV.ex rfl rfl) rfl (sv (EV.ex rfl rfl) rfl (sv (EV.as rfl) rfl (sv (EV.as rfl) rfl (re (pr [0, 2, 4, 5, 6, 7, 8, 9, 10, 11, 12] [0] [0, 1, 2] rfl rfl rfl rfl (gs (rg (sv (EV.mv rfl) rfl (sv (EV.mv rfl) rfl (sv (EV.mv rfl) rfl (sv (EV.mv rfl) rfl (sv (EV.bd (v := .agg #[.int .i64 t4_0, .slice At6_0 t6_0.length ct6_0, .slice At8_0 t8_0.length ct8_0, .slice none 0 0, .int .i64 t10_0]) rfl (by kernel_rfl)) rfl (so rfl (op_alloc (cs := [.int .i64 0, .slice none 0 0, .slice none 0 0, .slice none 0 0, .int .i64 0]) (by kernel_rfl) rfl fun b13 => (so rfl (op_st (cs' := [.int .i64 t4_0, .slice At6_0 t6_0.length ct6_0, .slice At8_0 t8_0.length ct8_0, .slice none 0 0, .int .i64 t10_0]) 1 rfl rfl rfl rfl rfl rfl (re (pr [0, 2, 4, 6, 8, 10, 12, 13] [0, 1] [0, 1, 2] rfl rfl rfl rfl (gs (gs (rg (sv (EV.mv rfl) rfl ?_)))))))))))))))))))))))
  revert H; refine ggI ?_; intro g11 H
  refine sv (EV.ix 0 rfl rfl rfl dq g11 rfl) rfl (sv (EV.le (v := .string (rdOf ByteArray.empty t1 3)) 3 0 none 0 ByteArray.empty rfl rfl rfl dq g11 rfl rfl rfl) rfl (sv (EV.lns rfl) rfl (sv (EV.mv rfl) rfl (re (gb (nil_ k99 7 dq (nil_ k99 8 dq (nil_ .bool 9 dq (nil_ .bool 10 dq ?_)))))))))
  refine lo (fun kk S => ∃ (x2_0 : ByteArray) (x2_4 : List ByteArray) (Ax2_4 : Option Addr) (cx2_4 : Nat) (x2_6 : Bool) (x2_8 : Bool) (x2_10 : Bool) (x2_12 : Bool) (x2_57 : Int) (x2_58 : Int) (x2_2_0 : Int) (x2_2_1 : List S99) (Ax2_2_1 : Option Addr) (cx2_2_1 : Nat) (x2_2_2 : List S99) (Ax2_2_2 : Option Addr) (cx2_2_2 : Nat) (x2_2_3 : List Bool) (Ax2_2_3 : Option Addr) (cx2_2_3 : Nat) (x2_2_4 : Int) (x2_13_0 : Int) (x2_13_1 : List S99) (Ax2_13_1 : Option Addr) (cx2_13_1 : Nat) (x2_13_2 : List S99) (Ax2_13_2 : Option Addr) (cx2_13_2 : Nat) (x2_13_3 : List Bool) (Ax2_13_3 : Option Addr) (cx2_13_3 : Nat) (x2_13_4 : Int), impl_ParseTask.l0 kk x2_0 x2_4 x2_6 x2_8 x2_10 x2_12 x2_57 x2_58 x2_2_0 x2_2_1 x2_2_2 x2_2_3 x2_2_4 x2_13_0 x2_13_1 x2_13_2 x2_13_3 x2_13_4 = some (r0, r1, r2, r3, r4, r5) ∧ S = ⟨[(0, .string x2_0), (2, .pointer (some ⟨b2, 0, none⟩)), (4, .slice Ax2_4 x2_4.length cx2_4), (6, .bool x2_6), (8, .bool x2_8), (10, .bool x2_10), (12, .bool x2_12), (13, .pointer (some ⟨b13, 0, none⟩)), (57, .int .i64 x2_57), (58, .int .i64 x2_58)], [⟨b2, 27, [.int .i64 x2_2_0, .slice Ax2_2_1 x2_2_1.length cx2_2_1, .slice Ax2_2_2 x2_2_2.length cx2_2_2, .slice Ax2_2_3 x2_2_3.length cx2_2_3, .int .i64 x2_2_4]⟩, ⟨b13, 27, [.int .i64 x2_13_0, .slice Ax2_13_1 x2_13_1.length cx2_13_1, .slice Ax2_13_2 x2_13_2.length cx2_13_2, .slice Ax2_13_3 x2_13_3.length cx2_13_3, .int .i64 x2_13_4]⟩], [.sl 2 .str Ax2_4 cx2_4 x2_4 1 true, .sl 2 k99 Ax2_2_1 cx2_2_1 x2_2_1 2 true, .sl 2 k99 Ax2_2_2 cx2_2_2 x2_2_2 3 true, .sl 2 .bool Ax2_2_3 cx2_2_3 x2_2_3 4 true, .sl 2 k99 Ax2_13_1 cx2_13_1 x2_13_1 5 true, .sl 2 k99 Ax2_13_2 cx2_13_2 x2_13_2 6 true, .sl 2 .bool Ax2_13_3 cx2_13_3 x2_13_3 7 true]⟩) (fun S hS => ?_) (fun n0 ih0 S hS => ?_) ⟨a0, t1, At1, ct1, t4_1, t6_1, t8_1, t10_1, ((rdOf ByteArray.empty t1 3).size : Int), 0, 0, [], none, 0, [], none, 0, [], none, 0, 0, t4_0, t6_0, At6_0, ct6_0, t8_0, At8_0, ct8_0, [], none, 0, t10_0, H, rfl⟩ (fun h => wk [0, 2, 4, 6, 8, 10, 12, 13, 57, 58] [0, 1] [⟨0, 2, 1, true⟩, ⟨3, 2, 2, true⟩, ⟨4, 2, 3, true⟩, ⟨5, 2, 4, true⟩, ⟨1, 2, 5, true⟩, ⟨2, 2, 6, true⟩, ⟨6, 2, 7, true⟩] h)
  · clear H; obtain ⟨_, _, _, _, _, _, _, _, _, _, _, _, _, _, _, _, _, _, _, _, _, _, _, _, _, _, _, _, _, _, _, _, H, _⟩ := hS; rw [impl_ParseTask.l0] at H; cases H
  clear H
  obtain ⟨x2_0, x2_4, Ax2_4, cx2_4, x2_6, x2_8, x2_10, x2_12, x2_57, x2_58, x2_2_0, x2_2_1, Ax2_2_1, cx2_2_1, x2_2_2, Ax2_2_2, cx2_2_2, x2_2_3, Ax2_2_3, cx2_2_3, x2_2_4, x2_13_0, x2_13_1, Ax2_13_1, cx2_13_1, x2_13_2, Ax2_13_2, cx2_13_2, x2_13_3, Ax2_13_3, cx2_13_3, x2_13_4, H, rfl⟩ := hS
  rw [impl_ParseTask.l0] at H
  refine gs (rg (sv (EV.lss rfl rfl) rfl (re (gs ?_))))
  revert H; refine ifsI ?_ ?_ <;> intro c12 H
  ·
   refine gt rfl (dT c12) (gk (gs (gb (gs (rg (sv (EV.mv rfl) rfl (sv (EV.as rfl) rfl (re ?_))))))))
   revert H; refine ggI ?_; intro g13 H
   revert H; refine ggI ?_; intro g14 H
   revert H; refine ggI ?_; intro g15 H
   refine dr [0, 1] [0, 1, 2, 3, 4, 5] [10, 11] 12 rfl rfl rfl rfl (xv 0 [0, 1] [0, 1, 2, 3, 4, 5] rfl (EV.fa 3 rfl) rfl rfl rfl rfl (xv 1 [0, 1] [0, 1, 2, 3, 4, 5] rfl (EV.ld 1 none rfl rfl rfl) rfl rfl rfl rfl (xv 2 [0, 1] [0, 1, 2, 3, 4, 5] rfl (EV.mv rfl) rfl rfl rfl rfl (xv 3 [0, 1] [0, 1, 2, 3, 4, 5] rfl (EV.ix 0 rfl rfl rfl dq g13 rfl) rfl rfl rfl rfl (xv 4 [0, 1] [0, 1, 2, 3, 4, 5] rfl (EV.le (v := .string (rdOf ByteArray.empty x2_4 3)) 3 0 none 0 ByteArray.empty rfl rfl rfl dq g13 rfl rfl rfl) rfl rfl rfl rfl (xv 5 [0, 1] [0, 1, 2, 3, 4, 5] rfl (EV.mv rfl) rfl rfl rfl rfl ?_))))))
   revert H; refine ggI ?_; intro g16 H
   exact xv 6 [0, 1] [0, 1, 2, 3, 4, 5] rfl (EV.is rfl rfl g14 g16) rfl rfl rfl rfl (xv 7 [0, 1] [0, 1, 2, 3, 4, 5] rfl (EV.eql rfl rfl) rfl rfl rfl rfl (one1 8 rfl rfl (op_lit (s := 1) (by_ := 1) .bool ([decide ((bt (rdOf ByteArray.empty x2_4 3) x2_58) = 49)] : List Bool) [[]] [] 8 [.tmp 68] rfl rfl rfl rfl rfl rfl rfl rfl rfl rfl rfl rfl rfl dq rfl fun A69_17 c69_17 => (xs [0, 1] [0, 1, 2, 3, 4, 5] rfl rfl rfl (one1 9 rfl rfl (op_app (k := .bool) (s := 1) (by_ := 1) 6 7 rfl rfl rfl rfl (ap1 g15 dq) (ap1n g15 dq) (.inl rfl) true (fun _ => .inl rfl) rfl rfl fun A70_18 c70_18 => (nmE (en := [.sl 2 .str Ax2_4 cx2_4 x2_4 1 true, .sl 2 k99 Ax2_2_1 cx2_2_1 x2_2_1 2 true, .sl 2 k99 Ax2_2_2 cx2_2_2 x2_2_2 3 true, .sl 2 .bool Ax2_2_3 cx2_2_3 x2_2_3 4 true, .sl 2 k99 Ax2_13_1 cx2_13_1 x2_13_1 5 true, .sl 2 k99 Ax2_13_2 cx2_13_2 x2_13_2 6 true, .sl 2 .bool A69_17 c69_17 ([decide ((bt (rdOf ByteArray.empty x2_4 3) x2_58) = 49)] : List Bool) 8 true, .sl 2 .bool A70_18 c70_18 (x2_13_3 ++ ([decide ((bt (rdOf ByteArray.empty x2_4 3) x2_58) = 49)] : List Bool)) 7 true]) (by kernel_rfl) (xs [0, 1] [0, 1, 2, 3, 4, 5] rfl rfl rfl (one1 10 rfl rfl (ov (EV.fa 3 rfl) rfl (xn rfl (one1 11 rfl rfl (op_st (cs' := [.int .i64 x2_13_0, .slice Ax2_13_1 x2_13_1.length cx2_13_1, .slice Ax2_13_2 x2_13_2.length cx2_13_2, .slice A70_18 (x2_13_3 ++ ([decide ((bt (rdOf ByteArray.empty x2_4 3) x2_58) = 49)] : List Bool)).length c70_18, .int .i64 x2_13_4]) 1 rfl rfl rfl rfl rfl rfl (xn rfl (xd (pr [0, 2, 4, 6, 8, 10, 12, 13, 57, 58] [0, 1] [0, 1, 2, 3, 4, 5, 7] rfl rfl rfl rfl (ge (rg (sv (EV.add rfl rfl) rfl (sv (EV.mv rfl) rfl (re (wk [0, 2, 4, 6, 8, 10, 12, 13, 57, 58] [0, 1] [⟨0, 2, 1, true⟩, ⟨1, 2, 2, true⟩, ⟨2, 2, 3, true⟩, ⟨3, 2, 4, true⟩, ⟨4, 2, 5, true⟩, ⟨5, 2, 6, true⟩, ⟨6, 2, 7, true⟩] (ih0 _ (by omega) _ ⟨x2_0, x2_4, Ax2_4, cx2_4, x2_6, x2_8, x2_10, x2_12, x2_57, wrap64 (x2_58 + 1), x2_2_0, x2_2_1, Ax2_2_1, cx2_2_1, x2_2_2, Ax2_2_2, cx2_2_2, x2_2_3, Ax2_2_3, cx2_2_3, x2_2_4, x2_13_0, x2_13_1, Ax2_13_1, cx2_13_1, x2_13_2, Ax2_13_2, cx2_13_2, x2_13_3 ++ ([decide ((bt (rdOf ByteArray.empty x2_4 3) x2_58) = 49)] : List Bool), A70_18, c70_18, x2_13_4, H, rfl⟩)))))))))))))))))))))))
  ·
   refine gf rfl (dF c12) (gx rfl (gs (gs (rg (sv (EV.mv rfl) rfl (sv (EV.nt rfl) rfl (sv (EV.mv rfl) rfl ?_)))))))
   revert H; refine ifsI ?_ ?_ <;> intro c19 H
   ·
    subst c19
    refine ts 75 rfl rfl (sv (EV.mv rfl) rfl (sv (EV.nt rfl) rfl (sv (EV.pf rfl rfl rfl) rfl (sv (EV.mv rfl) rfl ?_))))
    revert H; refine ifsI ?_ ?_ <;> intro c20 H
    ·
     subst c20
     refine ts 79 rfl rfl (sv (EV.mv rfl) rfl (sv (EV.nt rfl) rfl (sv (EV.pf rfl rfl rfl) rfl (sv (EV.mv rfl) rfl ?_))))
     revert H; refine ifsI ?_ ?_ <;> intro c21 H
     ·
      subst c21
      refine ts 83 rfl rfl (sv (EV.mv rfl) rfl (sv (EV.nt rfl) rfl (sv (EV.pf rfl rfl rfl) rfl (sv (EV.mv rfl) rfl ?_))))
      revert H; refine ifsI ?_ ?_ <;> intro c22 H
      ·
       subst c22
       refine ts 87 rfl rfl (sv (EV.ld (v := .agg #[.int .i64 x2_13_0, .slice Ax2_13_1 x2_13_1.length cx2_13_1, .slice Ax2_13_2 x2_13_2.length cx2_13_2, .slice Ax2_13_3 x2_13_3.length cx2_13_3, .int .i64 x2_13_4]) 1 (some 5) rfl rfl rfl) rfl ?_)
       revert H; refine bdI ?_; rintro t23 A23 H
       refine so rfl (op_call (impl_IsValidTask.ok n0 x2_13_0 x2_13_1 Ax2_13_1 cx2_13_1 x2_13_2 Ax2_13_2 cx2_13_2 x2_13_3 Ax2_13_3 cx2_13_3 x2_13_4 _ A23) [⟨4, 0, 0, false⟩, ⟨5, 0, 0, false⟩, ⟨6, 0, 0, false⟩] 8 rfl rfl rfl rfl rfl ?_)
       rintro _ _ _ ⟨rfl, rfl, rfl⟩
       refine sv (EV.nt rfl) rfl (sv (EV.pf rfl rfl rfl) rfl (sv (EV.mv rfl) rfl ?_))
       revert H; refine ifsI ?_ ?_ <;> intro c24 H
       ·
        subst c24
        refine ts 92 rfl rfl (sv (EV.ld (v := .agg #[.int .i64 x2_13_0, .slice Ax2_13_1 x2_13_1.length cx2_13_1, .slice Ax2_13_2 x2_13_2.length cx2_13_2, .slice Ax2_13_3 x2_13_3.length cx2_13_3, .int .i64 x2_13_4]) 1 (some 5) rfl rfl rfl) rfl ?_)
        revert H; refine bdI ?_; rintro t25 A25 H
        refine so rfl (op_call (impl_FormatTask.ok n0 x2_13_0 x2_13_1 Ax2_13_1 cx2_13_1 x2_13_2 Ax2_13_2 cx2_13_2 x2_13_3 Ax2_13_3 cx2_13_3 x2_13_4 _ A25) [⟨4, 0, 0, false⟩, ⟨5, 0, 0, false⟩, ⟨6, 0, 0, false⟩] 8 rfl rfl rfl rfl rfl ?_)
        rintro _ _ _ ⟨rfl, rfl, rfl⟩
        refine sv (EV.mv rfl) rfl (sv (EV.nes rfl rfl) rfl (sv (EV.pf rfl rfl rfl) rfl (re (pr [2, 13, 97] [0, 1] [1, 2, 3, 4, 5, 6] rfl rfl rfl rfl ?_))))
        revert H; refine ifsI ?_ ?_ <;> intro c26 H
        ·
         refine gf rfl (nF c26) (gk (gs (rg (sv (EV.ld (v := .agg #[.int .i64 x2_13_0, .slice Ax2_13_1 x2_13_1.length cx2_13_1, .slice Ax2_13_2 x2_13_2.length cx2_13_2, .slice Ax2_13_3 x2_13_3.length cx2_13_3, .int .i64 x2_13_4]) 1 (some 5) rfl rfl rfl) rfl (so rfl (op_st (cs' := [.int .i64 x2_13_0, .slice Ax2_13_1 x2_13_1.length cx2_13_1, .slice Ax2_13_2 x2_13_2.length cx2_13_2, .slice Ax2_13_3 x2_13_3.length cx2_13_3, .int .i64 x2_13_4]) 0 rfl rfl rfl rfl rfl rfl (sv (EV.as rfl) rfl (re ?_))))))))
         cases H
         exact rt Try.func9 rfl (.cell 0 (some 5) rfl rfl rfl (.tmp rfl .nil)) rfl [] [⟨3, 2, 1, true⟩, ⟨4, 2, 2, true⟩, ⟨5, 2, 3, true⟩] rfl rfl rfl rfl rfl ⟨_, _, _, _, _, _, rfl, rfl, rfl⟩
        ·
         refine gt rfl (nT c26) (gs (rg (sv (EV.bd (v := .agg #[.int .i64 0, .slice none 0 0, .slice none 0 0, .slice none 0 0, .int .i64 0]) rfl (by kernel_rfl)) rfl (so rfl (op_st (cs' := [.int .i64 0, .slice none 0 0, .slice none 0 0, .slice none 0 0, .int .i64 0]) 0 rfl rfl rfl rfl rfl rfl (sv (EV.as rfl) rfl (re (nil_ k99 8 dq (nil_ k99 9 dq (nil_ .bool 10 dq ?_))))))))))
         cases H
         exact rt Try.func9 rfl (.cell 0 (some 5) rfl rfl rfl (.tmp rfl .nil)) rfl [] [⟨6, 2, 1, true⟩, ⟨7, 2, 2, true⟩, ⟨8, 2, 3, true⟩] rfl rfl rfl rfl rfl ⟨_, _, _, _, _, _, rfl, rfl, rfl⟩
       ·
        obtain rfl := bF c24
        refine ts 92 rfl rfl (sk rfl (sk rfl (sk rfl (sk rfl (sv (EV.pt rfl rfl rfl) rfl (re (pr [2, 13, 97] [0, 1] [1, 2, 3, 4, 5, 6] rfl rfl rfl rfl (gt rfl rfl (gs (rg (sv (EV.bd (v := .agg #[.int .i64 0, .slice none 0 0, .slice none 0 0, .slice none 0 0, .int .i64 0]) rfl (by kernel_rfl)) rfl (so rfl (op_st (cs' := [.int .i64 0, .slice none 0 0, .slice none 0 0, .slice none 0 0, .int .i64 0]) 0 rfl rfl rfl rfl rfl rfl (sv (EV.as rfl) rfl (re (nil_ k99 8 dq (nil_ k99 9 dq (nil_ .bool 10 dq ?_))))))))))))))))))
        cases H
        exact rt Try.func9 rfl (.cell 0 (some 5) rfl rfl rfl (.tmp rfl .nil)) rfl [] [⟨6, 2, 1, true⟩, ⟨7, 2, 2, true⟩, ⟨8, 2, 3, true⟩] rfl rfl rfl rfl rfl ⟨_, _, _, _, _, _, rfl, rfl, rfl⟩
      ·
       obtain rfl := bF c22
       refine ts 87 rfl rfl (sk rfl (sk rfl (sk rfl (sv (EV.pt rfl rfl rfl) rfl (sv (EV.mv rfl) rfl (sk rfl (sk rfl (sk rfl (sk rfl (sv (EV.pt rfl rfl rfl) rfl (re (pr [2, 13, 97] [0, 1] [1, 2, 3, 4, 5, 6] rfl rfl rfl rfl (gt rfl rfl (gs (rg (sv (EV.bd (v := .agg #[.int .i64 0, .slice none 0 0, .slice none 0 0, .slice none 0 0, .int .i64 0]) rfl (by kernel_rfl)) rfl (so rfl (op_st (cs' := [.int .i64 0, .slice none 0 0, .slice none 0 0, .slice none 0 0, .int .i64 0]) 0 rfl rfl rfl rfl rfl rfl (sv (EV.as rfl) rfl (re (nil_ k99 8 dq (nil_ k99 9 dq (nil_ .bool 10 dq ?_)))))))))))))))))))))))
       cases H
       exact rt Try.func9 rfl (.cell 0 (some 5) rfl rfl rfl (.tmp rfl .nil)) rfl [] [⟨6, 2, 1, true⟩, ⟨7, 2, 2, true⟩, ⟨8, 2, 3, true⟩] rfl rfl rfl rfl rfl ⟨_, _, _, _, _, _, rfl, rfl, rfl⟩
     ·
      obtain rfl := bF c21
      refine ts 83 rfl rfl (sk rfl (sk rfl (sv (EV.pt rfl rfl rfl) rfl (sv (EV.mv rfl) rfl (sk rfl (sk rfl (sk rfl (sv (EV.pt rfl rfl rfl) rfl (sv (EV.mv rfl) rfl (sk rfl (sk rfl (sk rfl (sk rfl (sv (EV.pt rfl rfl rfl) rfl (re (pr [2, 13, 97] [0, 1] [1, 2, 3, 4, 5, 6] rfl rfl rfl rfl (gt rfl rfl (gs (rg (sv (EV.bd (v := .agg #[.int .i64 0, .slice none 0 0, .slice none 0 0, .slice none 0 0, .int .i64 0]) rfl (by kernel_rfl)) rfl (so rfl (op_st (cs' := [.int .i64 0, .slice none 0 0, .slice none 0 0, .slice none 0 0, .int .i64 0]) 0 rfl rfl rfl rfl rfl rfl (sv (EV.as rfl) rfl (re (nil_ k99 8 dq (nil_ k99 9 dq (nil_ .bool 10 dq ?_)))))))))))))))))))))))))))
      cases H
      exact rt Try.func9 rfl (.cell 0 (some 5) rfl rfl rfl (.tmp rfl .nil)) rfl [] [⟨6, 2, 1, true⟩, ⟨7, 2, 2, true⟩, ⟨8, 2, 3, true⟩] rfl rfl rfl rfl rfl ⟨_, _, _, _, _, _, rfl, rfl, rfl⟩
    ·
     obtain rfl := bF c20
     refine ts 79 rfl rfl (sk rfl (sk rfl (sv (EV.pt rfl rfl rfl) rfl (sv (EV.mv rfl) rfl (sk rfl (sk rfl (sv (EV.pt rfl rfl rfl) rfl (sv (EV.mv rfl) rfl (sk rfl (sk rfl (sk rfl (sv (EV.pt rfl rfl rfl) rfl (sv (EV.mv rfl) rfl (sk rfl (sk rfl (sk rfl (sk rfl (sv (EV.pt rfl rfl rfl) rfl (re (pr [2, 13, 97] [0, 1] [1, 2, 3, 4, 5, 6] rfl rfl rfl rfl (gt rfl rfl (gs (rg (sv (EV.bd (v := .agg #[.int .i64 0, .slice none 0 0, .slice none 0 0, .slice none 0 0, .int .i64 0]) rfl (by kernel_rfl)) rfl (so rfl (op_st (cs' := [.int .i64 0, .slice none 0 0, .slice none 0 0, .slice none 0 0, .int .i64 0]) 0 rfl rfl rfl rfl rfl rfl (sv (EV.as rfl) rfl (re (nil_ k99 8 dq ?_)))))))))))))))))))))))))))))
     refine nil_ k99 9 dq (nil_ .bool 10 dq ?_)
     cases H
     exact rt Try.func9 rfl (.cell 0 (some 5) rfl rfl rfl (.tmp rfl .nil)) rfl [] [⟨6, 2, 1, true⟩, ⟨7, 2, 2, true⟩, ⟨8, 2, 3, true⟩] rfl rfl rfl rfl rfl ⟨_, _, _, _, _, _, rfl, rfl, rfl⟩
   ·
    obtain rfl := bF c19
    refine ts 75 rfl rfl (sk rfl (sk rfl (sv (EV.pt rfl rfl rfl) rfl (sv (EV.mv rfl) rfl (sk rfl (sk rfl (sv (EV.pt rfl rfl rfl) rfl (sv (EV.mv rfl) rfl (sk rfl (sk rfl (sv (EV.pt rfl rfl rfl) rfl (sv (EV.mv rfl) rfl (sk rfl (sk rfl (sk rfl (sv (EV.pt rfl rfl rfl) rfl (sv (EV.mv rfl) rfl (sk rfl (sk rfl (sk rfl (sk rfl (sv (EV.pt rfl rfl rfl) rfl (re (pr [2, 13, 97] [0, 1] [1, 2, 3, 4, 5, 6] rfl rfl rfl rfl (gt rfl rfl (gs (rg (sv (EV.bd (v := .agg #[.int .i64 0, .slice none 0 0, .slice none 0 0, .slice none 0 0, .int .i64 0]) rfl (by kernel_rfl)) rfl (so rfl ?_)))))))))))))))))))))))))))))
    refine op_st (cs' := [.int .i64 0, .slice none 0 0, .slice none 0 0, .slice none 0 0, .int .i64 0]) 0 rfl rfl rfl rfl rfl rfl (sv (EV.as rfl) rfl (re (nil_ k99 8 dq (nil_ k99 9 dq (nil_ .bool 10 dq ?_)))))
    cases H
    exact rt Try.func9 rfl (.cell 0 (some 5) rfl rfl rfl (.tmp rfl .nil)) rfl [] [⟨6, 2, 1, true⟩, ⟨7, 2, 2, true⟩, ⟨8, 2, 3, true⟩] rfl rfl rfl rfl rfl ⟨_, _, _, _, _, _, rfl, rfl, rfl⟩
 ·
  refine gt rfl (nT c2) (gs (rg (sv (EV.bd (v := .agg #[.int .i64 0, .slice none 0 0, .slice none 0 0, .slice none 0 0, .int .i64 0]) rfl (by kernel_rfl)) rfl (so rfl (op_st (cs' := [.int .i64 0, .slice none 0 0, .slice none 0 0, .slice none 0 0, .int .i64 0]) 0 rfl rfl rfl rfl rfl rfl (sv (EV.as rfl) rfl (re (pr [2, 3] [0] [] rfl rfl rfl rfl (nil_ k99 1 dq (nil_ k99 2 dq (nil_ .bool 3 dq ?_)))))))))))
  cases H
  exact rt Try.func9 rfl (.cell 0 (some 5) rfl rfl rfl (.tmp rfl .nil)) rfl [] [⟨0, 2, 1, true⟩, ⟨1, 2, 2, true⟩, ⟨2, 2, 3, true⟩] rfl rfl rfl rfl rfl ⟨_, _, _, _, _, _, rfl, rfl, rfl⟩
def impl_ParseJoiner.l0 : Nat → Bool → Bool → (List ByteArray) → Int → Int → (List S27) → Int → Int → (List S27) → Int → Int → Option ((List S27) × Int × Int × Bool)
 | 0, _, _, _, _, _, _, _, _, _, _, _ => none
 | k + 1, x2_6, x2_8, x2_38, x2_39, x2_40, x2_2_0, x2_2_1, x2_2_2, x2_9_0, x2_9_1, x2_9_2 => if x2_40 < x2_39 then (if 0 ≤ x2_40 then (if x2_40 < (x2_38.length : Int) then ((impl_ParseTask.f k (rdOf ByteArray.empty x2_38 x2_40)).bind fun bt11 => (if bt11.2.2.2.2.2 = true then (if x2_9_0.length < 1599289640401 then (impl_ParseJoiner.l0 k x2_6 x2_8 x2_38 x2_39 (wrap64 (x2_40 + 1)) x2_2_0 x2_2_1 x2_2_2 (x2_9_0 ++ ([(⟨bt11.1, bt11.2.1, bt11.2.2.1, bt11.2.2.2.1, bt11.2.2.2.2.1⟩ : S27)] : List S27)) x2_9_1 x2_9_2) else none) else (some ([], 0, 0, false)))) else none) else none) else (if x2_6 = true then (if x2_8 = true then ((impl_IsValidJoiner.f k x2_9_0 x2_9_1 x2_9_2).bind fun t18 => (if t18 = true then (some (x2_9_0, x2_9_1, x2_9_2, true)) else (some ([], 0, 0, false)))) else (some ([], 0, 0, false))) else (some ([], 0, 0, false)))
def impl_ParseJoiner.f (k : Nat) (a0 : ByteArray) : Option ((List S27) × Int × Int × Bool) := (impl_cut.f k a0 47).bind fun t1 => (if (t1.length : Int) < 2 then (some ([], 0, 0, false)) else (if 0 < (t1.length : Int) then ((impl_ParseInt.f k (rdOf ByteArray.empty t1 0)).bind fun bt4 => (if 1 < (t1.length : Int) then ((impl_ParseInt.f k (rdOf ByteArray.empty t1 1)).bind fun bt6 => (if 2 ≤ (t1.length : Int) then (impl_ParseJoiner.l0 k bt4.2 bt6.2 (t1.drop (2 : Int).toNat) ((t1.drop (2 : Int).toNat).length : Int) 0 [] 0 0 [] bt4.1 bt6.1) else none)) else none)) else none))
set_option maxHeartbeats 4000000 in
set_option maxRecDepth 100000 in
theorem impl_ParseJoiner.ok (k : Nat) (a0 : ByteArray) (r0 : List S27) (r1 : Int) (r2 : Int) (r3 : Bool) (H : impl_ParseJoiner.f k a0 = some (r0, r1, r2, r3)) : Fn Try.prog 41 [.string a0] [] [] (fun v bx en => ∃ A0 c0, v = .tuple #[.agg #[.slice A0 r0.length c0, .int .i64 r1, .int .i64 r2], .bool r3] ∧ bx = [] ∧ en = [.sl 2 k27 A0 c0 r0 1 true]) := by
 refine fn_ 72 Try.func41 rfl rfl rfl (fun base T w0 => ?_)
 rw [impl_ParseJoiner.f] at H
 refine gs (rg (so rfl (op_alloc (cs := [.slice none 0 0, .int .i64 0, .int .i64 0]) (by kernel_rfl) rfl fun b2 => (sv (EV.as rfl) rfl (re (gs (rg (sv (EV.mv rfl) rfl ?_))))))))
 revert H; refine bdI ?_; rintro t1 A1 H
 refine so rfl (op_call (impl_cut.ok k a0 47 _ A1) [] 1 rfl rfl rfl rfl rfl ?_)
 rintro _ _ _ ⟨At1, ct1, rfl, rfl, rfl⟩
 refine sv (EV.as rfl) rfl (re (gs (gs (rg (sv (EV.mv rfl) rfl (sv (EV.ln rfl) rfl (sv (EV.lss rfl rfl) rfl (re (pr [2, 4, 18] [0] [0] rfl rfl rfl rfl ?_)))))))))
 revert H; refine ifsI ?_ ?_ <;> intro c2 H
 ·
  refine gt rfl (dT c2) (gs (rg (sv (EV.bd (v := .agg #[.slice none 0 0, .int .i64 0, .int .i64 0]) rfl (by kernel_rfl)) rfl (so rfl (op_st (cs' := [.slice none 0 0, .int .i64 0, .int .i64 0]) 0 rfl rfl rfl rfl rfl rfl (sv (EV.as rfl) rfl (re (nil_ k27 3 dq ?_))))))))
  cases H
  exact rt Try.func41 rfl (.cell 0 (some 3) rfl rfl rfl (.tmp rfl .nil)) rfl [] [⟨1, 2, 1, true⟩] rfl rfl rfl rfl rfl ⟨_, _, rfl, rfl, rfl⟩
 ·
  refine gf rfl (dF c2) (gk (gs (rg (sv (EV.mv rfl) rfl ?_))))
  revert H; refine ggI ?_; intro g3 H
  refine sv (EV.ix 0 rfl rfl rfl dq g3 rfl) rfl (sv (EV.le (v := .string (rdOf ByteArray.empty t1 0)) 0 0 none 0 ByteArray.empty rfl rfl rfl dq g3 rfl rfl rfl) rfl ?_)
  revert H; refine bdI ?_; rintro ⟨t4_0, t4_1⟩ A4 H
  refine so rfl (op_call (impl_ParseInt.ok k (rdOf ByteArray.empty t1 0) _ _ A4) [] 3 rfl rfl rfl rfl rfl ?_)
  rintro _ _ _ ⟨rfl, rfl, rfl⟩
  refine sv (EV.mv rfl) rfl (sv (EV.ex rfl rfl) rfl (sv (EV.ex rfl rfl) rfl (sv (EV.as rfl) rfl (sv (EV.as rfl) rfl (re (pr [2, 4, 5, 6] [0] [0] rfl rfl rfl rfl (gs (rg (sv (EV.mv rfl) rfl ?_)))))))))
  revert H; refine ggI ?_; intro g5 H
  refine sv (EV.ix 0 rfl rfl rfl dq g5 rfl) rfl (sv (EV.le (v := .string (rdOf ByteArray.empty t1 1)) 1 0 none 0 ByteArray.empty rfl rfl rfl dq g5 rfl rfl rfl) rfl ?_)
  revert H; refine bdI ?_; rintro ⟨t6_0, t6_1⟩ A6 H
  refine so rfl (op_call (impl_ParseInt.ok k (rdOf ByteArray.empty t1 1) _ _ A6) [] 3 rfl rfl rfl rfl rfl ?_)
  rintro _ _ _ ⟨rfl, rfl, rfl⟩
  refine sv (EV.mv rfl) rfl (sv (EV.ex rfl rfl) rfl (sv (EV.ex rfl rfl) rfl (sv (EV.as rfl) rfl (sv (EV.as rfl) rfl (re (pr [2, 4, 5, 6, 7, 8] [0] [0] rfl rfl rfl rfl (gs (rg (sv (EV.mv rfl) rfl (sv (EV.mv rfl) rfl (sv (EV.bd (v := .agg #[.slice none 0 0, .int .i64 t4_0, .int .i64 t6_0]) rfl (by kernel_rfl)) rfl (so rfl (op_alloc (cs := [.slice none 0 0, .int .i64 0, .int .i64 0]) (by kernel_rfl) rfl fun b9 => (so rfl (op_st (cs' := [.slice none 0 0, .int .i64 t4_0, .int .i64 t6_0]) 1 rfl rfl rfl rfl rfl rfl (re (gs (gs (rg (sv (EV.mv rfl) rfl ?_))))))))))))))))))))
  revert H; refine ggI ?_; intro g7 H
  refine cutp (l' := t1.drop (2 : Int).toNat) 2 (t1.length : Int) 0 rfl dq g7 (Int.le_refl _) rfl 1 dq (.inl dq) ctl (sv (EV.ct 2 (t1.length : Int) 0 rfl rfl rfl rfl dq g7 (Int.le_refl _) rfl rfl ctnl) rfl (sv (EV.ln rfl) rfl (sv (EV.mv rfl) rfl (re (pr [2, 6, 8, 9, 38, 39, 40] [0, 1] [1] rfl rfl rfl rfl (gb (nil_ k27 3 dq (nil_ k27 4 dq ?_))))))))
  refine lo (fun kk S => ∃ (x2_6 : Bool) (x2_8 : Bool) (x2_38 : List ByteArray) (Ax2_38 : Option Addr) (cx2_38 : Nat) (x2_39 : Int) (x2_40 : Int) (x2_2_0 : List S27) (Ax2_2_0 : Option Addr) (cx2_2_0 : Nat) (x2_2_1 : Int) (x2_2_2 : Int) (x2_9_0 : List S27) (Ax2_9_0 : Option Addr) (cx2_9_0 : Nat) (x2_9_1 : Int) (x2_9_2 : Int), impl_ParseJoiner.l0 kk x2_6 x2_8 x2_38 x2_39 x2_40 x2_2_0 x2_2_1 x2_2_2 x2_9_0 x2_9_1 x2_9_2 = some (r0, r1, r2, r3) ∧ S = ⟨[(2, .pointer (some ⟨b2, 0, none⟩)), (6, .bool x2_6), (8, .bool x2_8), (9, .pointer (some ⟨b9, 0, none⟩)), (38, .slice Ax2_38 x2_38.length cx2_38), (39, .int .i64 x2_39), (40, .int .i64 x2_40)], [⟨b2, 60, [.slice Ax2_2_0 x2_2_0.length cx2_2_0, .int .i64 x2_2_1, .int .i64 x2_2_2]⟩, ⟨b9, 60, [.slice Ax2_9_0 x2_9_0.length cx2_9_0, .int .i64 x2_9_1, .int .i64 x2_9_2]⟩], [.sl 1 .str Ax2_38 cx2_38 x2_38 1 true, .sl 2 k27 Ax2_2_0 cx2_2_0 x2_2_0 2 true, .sl 2 k27 Ax2_9_0 cx2_9_0 x2_9_0 3 true]⟩) (fun S hS => ?_) (fun n0 ih0 S hS => ?_) ⟨t4_1, t6_1, t1.drop (2 : Int).toNat, (cutA At1 ct1 (2 : Int).toNat 1), (ct1 - (2 : Int).toNat), ((t1.drop (2 : Int).toNat).length : Int), 0, [], none, 0, 0, 0, [], none, 0, t4_0, t6_0, H, rfl⟩ (fun h => wk [2, 6, 8, 9, 38, 39, 40] [0, 1] [⟨0, 1, 1, true⟩, ⟨1, 2, 2, true⟩, ⟨2, 2, 3, true⟩] h)
  · clear H; obtain ⟨_, _, _, _, _, _, _, _, _, _, _, _, _, _, _, _, _, H, _⟩ := hS; rw [impl_ParseJoiner.l0] at H; cases H
  clear H
  obtain ⟨x2_6, x2_8, x2_38, Ax2_38, cx2_38, x2_39, x2_40, x2_2_0, Ax2_2_0, cx2_2_0, x2_2_1, x2_2_2, x2_9_0, Ax2_9_0, cx2_9_0, x2_9_1, x2_9_2, H, rfl⟩ := hS
  rw [impl_ParseJoiner.l0] at H
  refine gs (rg (sv (EV.lss rfl rfl) rfl (re (gs ?_))))
  revert H; refine ifsI ?_ ?_ <;> intro c8 H
  ·
   refine gt rfl (dT c8) (gk (gs (gb (gs (rg ?_)))))
   revert H; refine ggI ?_; intro g9 H
   revert H; refine ggI ?_; intro g10 H
   refine sv (EV.ix 0 rfl rfl rfl g9 g10 rfl) rfl (sv (EV.le (v := .string (rdOf ByteArray.empty x2_38 x2_40)) x2_40 0 none 0 ByteArray.empty rfl rfl rfl g9 g10 rfl rfl rfl) rfl (sv (EV.as rfl) rfl (re (gs (rg (sv (EV.mv rfl) rfl ?_))))))
   revert H; refine bdI ?_; rintro ⟨t11_0, t11_1, t11_2, t11_3, t11_4, t11_5⟩ A11 H
   refine so rfl (op_call (impl_ParseTask.ok n0 (rdOf ByteArray.empty x2_38 x2_40) _ _ _ _ _ _ A11) [] 4 rfl rfl rfl rfl rfl ?_)
   rintro _ _ _ ⟨At11_1, ct11_1, At11_2, ct11_2, At11_3, ct11_3, rfl, rfl, rfl⟩
   refine sv (EV.mv rfl) rfl (sv (EV.ex rfl rfl) rfl (sv (EV.ex rfl rfl) rfl (so rfl (op_alloc (cs := [.int .i64 0, .slice none 0 0, .slice none 0 0, .slice none 0 0, .int .i64 0]) (by kernel_rfl) rfl fun b12 => (so rfl (op_st (cs' := [.int .i64 t11_0, .slice At11_1 t11_1.length ct11_1, .slice At11_2 t11_2.length ct11_2, .slice At11_3 t11_3.length ct11_3, .int .i64 t11_4]) 2 rfl rfl rfl rfl rfl rfl (sv (EV.as rfl) rfl (re (pr [2, 6, 8, 9, 12, 13, 38, 39, 40] [0, 1, 2] [0, 1, 2, 3, 4, 5] rfl rfl rfl rfl (gs (gs (rg (sv (EV.mv rfl) rfl (sv (EV.nt rfl) rfl (re ?_)))))))))))))))
   revert H; refine ifsI ?_ ?_ <;> intro c12 H
   ·
    subst c12
    refine gf rfl rfl (gk (rg (sv (EV.fa 0 rfl) rfl (sv (EV.ld 1 none rfl rfl rfl) rfl (sv (EV.ld (v := .agg #[.int .i64 t11_0, .slice At11_1 t11_1.length ct11_1, .slice At11_2 t11_2.length ct11_2, .slice At11_3 t11_3.length ct11_3, .int .i64 t11_4]) 2 (some 5) rfl rfl rfl) rfl (so rfl (op_lit (s := 5) (by_ := 88) k27 ([(⟨t11_0, t11_1, t11_2, t11_3, t11_4⟩ : S27)] : List S27) [[(At11_1, ct11_1), (At11_2, ct11_2), (At11_3, ct11_3)]] [3, 4, 5] 8 [.tmp 54] rfl rfl rfl rfl rfl rfl rfl rfl rfl rfl rfl rfl rfl dq rfl fun A55_13 c55_13 => (nmE (en := [.sl 1 .str Ax2_38 cx2_38 x2_38 1 true, .sl 2 k27 Ax2_2_0 cx2_2_0 x2_2_0 2 true, .sl 2 k27 Ax2_9_0 cx2_9_0 x2_9_0 3 true, .sl 2 k99 At11_1 ct11_1 t11_1 8 true, .sl 2 k99 At11_2 ct11_2 t11_2 8 true, .sl 2 .bool At11_3 ct11_3 t11_3 8 true, .sl 2 k27 A55_13 c55_13 ([(⟨t11_0, t11_1, t11_2, t11_3, t11_4⟩ : S27)] : List S27) 8 true]) (by kernel_rfl) ?_))))))))
    revert H; refine ggI ?_; intro g14 H
    exact so rfl (op_app (k := k27) (s := 5) (by_ := 88) 2 6 rfl rfl rfl rfl (ap1 g14 dq) (ap1n g14 dq) (.inr ⟨dq, dq, rfl, dq⟩) true (fun _ => .inr ⟨rfl, rfl, dq⟩) rfl rfl fun A56_15 c56_15 => (nmE (en := [.sl 1 .str Ax2_38 cx2_38 x2_38 1 true, .sl 2 k27 Ax2_2_0 cx2_2_0 x2_2_0 2 true, .sl 2 k99 At11_1 ct11_1 t11_1 3 true, .sl 2 k99 At11_2 ct11_2 t11_2 3 true, .sl 2 .bool At11_3 ct11_3 t11_3 3 true, .sl 2 k27 A55_13 c55_13 ([(⟨t11_0, t11_1, t11_2, t11_3, t11_4⟩ : S27)] : List S27) 3 true, .sl 2 k27 A56_15 c56_15 (x2_9_0 ++ ([(⟨t11_0, t11_1, t11_2, t11_3, t11_4⟩ : S27)] : List S27)) 3 true]) (by kernel_rfl) (sv (EV.fa 0 rfl) rfl (so rfl (op_st (cs' := [.slice A56_15 (x2_9_0 ++ ([(⟨t11_0, t11_1, t11_2, t11_3, t11_4⟩ : S27)] : List S27)).length c56_15, .int .i64 x2_9_1, .int .i64 x2_9_2]) 1 rfl rfl rfl rfl rfl rfl (re (pr [2, 6, 8, 9, 38, 39, 40] [0, 1] [0, 1, 6] rfl rfl rfl rfl (ge (rg (sv (EV.add rfl rfl) rfl (sv (EV.mv rfl) rfl (re (wk [2, 6, 8, 9, 38, 39, 40] [0, 1] [⟨0, 1, 1, true⟩, ⟨1, 2, 2, true⟩, ⟨2, 2, 3, true⟩] (ih0 _ (by omega) _ ⟨x2_6, x2_8, x2_38, Ax2_38, cx2_38, x2_39, wrap64 (x2_40 + 1), x2_2_0, Ax2_2_0, cx2_2_0, x2_2_1, x2_2_2, x2_9_0 ++ ([(⟨t11_0, t11_1, t11_2, t11_3, t11_4⟩ : S27)] : List S27), A56_15, c56_15, x2_9_1, x2_9_2, H, rfl⟩))))))))))))))
   ·
    obtain rfl := bF c12
    refine gt rfl rfl (gs (rg (sv (EV.bd (v := .agg #[.slice none 0 0, .int .i64 0, .int .i64 0]) rfl (by kernel_rfl)) rfl (so rfl (op_st (cs' := [.slice none 0 0, .int .i64 0, .int .i64 0]) 0 rfl rfl rfl rfl rfl rfl (sv (EV.as rfl) rfl (re (pr [2, 3] [0] [] rfl rfl rfl rfl (nil_ k27 1 dq ?_)))))))))
    cases H
    exact rt Try.func41 rfl (.cell 0 (some 3) rfl rfl rfl (.tmp rfl .nil)) rfl [] [⟨0, 2, 1, true⟩] rfl rfl rfl rfl rfl ⟨_, _, rfl, rfl, rfl⟩
  ·
   refine gf rfl (dF c8) (gx rfl (gs (gs (rg (sv (EV.mv rfl) rfl (sv (EV.nt rfl) rfl (sv (EV.mv rfl) rfl ?_)))))))
   revert H; refine ifsI ?_ ?_ <;> intro c16 H
   ·
    subst c16
    refine ts 61 rfl rfl (sv (EV.mv rfl) rfl (sv (EV.nt rfl) rfl (sv (EV.pf rfl rfl rfl) rfl (sv (EV.mv rfl) rfl ?_))))
    revert H; refine ifsI ?_ ?_ <;> intro c17 H
    ·
     subst c17
     refine ts 65 rfl rfl (sv (EV.ld (v := .agg #[.slice Ax2_9_0 x2_9_0.length cx2_9_0, .int .i64 x2_9_1, .int .i64 x2_9_2]) 1 (some 3) rfl rfl rfl) rfl ?_)
     revert H; refine bdI ?_; rintro t18 A18 H
     refine so rfl (op_call (impl_IsValidJoiner.ok n0 x2_9_0 Ax2_9_0 cx2_9_0 x2_9_1 x2_9_2 _ A18) [⟨2, 0, 0, false⟩] 4 rfl rfl rfl rfl rfl ?_)
     rintro _ _ _ ⟨rfl, rfl, rfl⟩
     refine sv (EV.nt rfl) rfl (sv (EV.pf rfl rfl rfl) rfl (re (pr [2, 9, 69] [0, 1] [1, 2] rfl rfl rfl rfl ?_)))
     revert H; refine ifsI ?_ ?_ <;> intro c19 H
     ·
      subst c19
      refine gf rfl rfl (gk (gs (rg (sv (EV.ld (v := .agg #[.slice Ax2_9_0 x2_9_0.length cx2_9_0, .int .i64 x2_9_1, .int .i64 x2_9_2]) 1 (some 3) rfl rfl rfl) rfl (so rfl (op_st (cs' := [.slice Ax2_9_0 x2_9_0.length cx2_9_0, .int .i64 x2_9_1, .int .i64 x2_9_2]) 0 rfl rfl rfl rfl rfl rfl (sv (EV.as rfl) rfl (re ?_))))))))
      cases H
      exact rt Try.func41 rfl (.cell 0 (some 3) rfl rfl rfl (.tmp rfl .nil)) rfl [] [⟨1, 2, 1, true⟩] rfl rfl rfl rfl rfl ⟨_, _, rfl, rfl, rfl⟩
     ·
      obtain rfl := bF c19
      refine gt rfl rfl (gs (rg (sv (EV.bd (v := .agg #[.slice none 0 0, .int .i64 0, .int .i64 0]) rfl (by kernel_rfl)) rfl (so rfl (op_st (cs' := [.slice none 0 0, .int .i64 0, .int .i64 0]) 0 rfl rfl rfl rfl rfl rfl (sv (EV.as rfl) rfl (re (nil_ k27 4 dq ?_))))))))
      cases H
      exact rt Try.func41 rfl (.cell 0 (some 3) rfl rfl rfl (.tmp rfl .nil)) rfl [] [⟨2, 2, 1, true⟩] rfl rfl rfl rfl rfl ⟨_, _, rfl, rfl, rfl⟩
    ·
     obtain rfl := bF c17
     refine ts 65 rfl rfl (sk rfl (sk rfl (sk rfl (sv (EV.pt rfl rfl rfl) rfl (re (pr [2, 9, 69] [0, 1] [1, 2] rfl rfl rfl rfl (gt rfl rfl (gs (rg (sv (EV.bd (v := .agg #[.slice none 0 0, .int .i64 0, .int .i64 0]) rfl (by kernel_rfl)) rfl (so rfl (op_st (cs' := [.slice none 0 0, .int .i64 0, .int .i64 0]) 0 rfl rfl rfl rfl rfl rfl (sv (EV.as rfl) rfl (re (nil_ k27 4 dq ?_)))))))))))))))
     cases H
     exact rt Try.func41 rfl (.cell 0 (some 3) rfl rfl rfl (.tmp rfl .nil)) rfl [] [⟨2, 2, 1, true⟩] rfl rfl rfl rfl rfl ⟨_, _, rfl, rfl, rfl⟩
   ·
    obtain rfl := bF c16
    refine ts 61 rfl rfl (sk rfl (sk rfl (sv (EV.pt rfl rfl rfl) rfl (sv (EV.mv rfl) rfl (sk rfl (sk rfl (sk rfl (sv (EV.pt rfl rfl rfl) rfl (re (pr [2, 9, 69] [0, 1] [1, 2] rfl rfl rfl rfl (gt rfl rfl (gs (rg (sv (EV.bd (v := .agg #[.slice none 0 0, .int .i64 0, .int .i64 0]) rfl (by kernel_rfl)) rfl (so rfl (op_st (cs' := [.slice none 0 0, .int .i64 0, .int .i64 0]) 0 rfl rfl rfl rfl rfl rfl (sv (EV.as rfl) rfl (re (nil_ k27 4 dq ?_)))))))))))))))))))
    cases H
    exact rt Try.func41 rfl (.cell 0 (some 3) rfl rfl rfl (.tmp rfl .nil)) rfl [] [⟨2, 2, 1, true⟩] rfl rfl rfl rfl rfl ⟨_, _, rfl, rfl, rfl⟩
def impl_FormatJoiner.l0 : Nat → (List ByteArray) → Int → Int → (List S27) → Option (ByteArray)
 | 0, _, _, _, _ => none
 | k + 1, x2_3, x2_18, x2_19, l0_0 => if x2_19 < x2_18 then (if 0 ≤ x2_19 then (if x2_19 < (l0_0.length : Int) then ((impl_FormatTask.f k ((rd_T27 l0_0 x2_19).f0) ((rd_T27 l0_0 x2_19).f1) ((rd_T27 l0_0 x2_19).f2) ((rd_T27 l0_0 x2_19).f3) ((rd_T27 l0_0 x2_19).f4)).bind fun t12 => (if x2_3.length < 8796093022208 then (impl_FormatJoiner.l0 k (x2_3 ++ ([t12] : List ByteArray)) x2_18 (wrap64 (x2_19 + 1)) l0_0) else none)) else none) else none) else ((impl_joined.f k x2_3 (⟨#[47]⟩ : ByteArray)).bind fun t16 => (some t16))
def impl_FormatJoiner.f (k : Nat) (l0_0 : List S27) (a0_1 : Int) (a0_2 : Int) : Option (ByteArray) := (impl_IsValidJoiner.f k l0_0 a0_1 a0_2).bind fun t1 => (if t1 = true then ((impl_FormatInt.f k a0_1).bind fun t3 => ((impl_FormatInt.f k a0_2).bind fun t4 => (impl_FormatJoiner.l0 k ([t3, t4] : List ByteArray) (l0_0.length : Int) 0 l0_0))) else (some (⟨#[]⟩ : ByteArray)))
set_option maxHeartbeats 4000000 in
set_option maxRecDepth 100000 in
theorem impl_FormatJoiner.ok (k : Nat) (l0_0 : List S27) (Al0_0 : Option Addr) (cl0_0 : Nat) (a0_1 : Int) (a0_2 : Int) (r0 : ByteArray) (H : impl_FormatJoiner.f k l0_0 a0_1 a0_2 = some r0) : Fn Try.prog 42 [.agg #[.slice Al0_0 l0_0.length cl0_0, .int .i64 a0_1, .int .i64 a0_2]] [] [.sl 0 k27 Al0_0 cl0_0 l0_0 0 false] (fun v bx en => v = .string r0 ∧ bx = [] ∧ en = []) := by
 refine fn_ 31 Try.func42 rfl rfl rfl (fun base T w0 => ?_)
 rw [impl_FormatJoiner.f] at H
 refine gs (rg (so rfl (op_box (cs := [.slice Al0_0 l0_0.length cl0_0, .int .i64 a0_1, .int .i64 a0_2]) rfl rfl rfl fun b1 => (sv (EV.as rfl) rfl (re (gs (gs (rg (sv (EV.ld (v := .agg #[.slice Al0_0 l0_0.length cl0_0, .int .i64 a0_1, .int .i64 a0_2]) 0 (some 3) rfl rfl rfl) rfl ?_)))))))))
 revert H; refine bdI ?_; rintro t1 A1 H
 refine so rfl (op_call (impl_IsValidJoiner.ok k l0_0 Al0_0 cl0_0 a0_1 a0_2 _ A1) [⟨0, 0, 0, false⟩] 1 rfl rfl rfl rfl rfl ?_)
 rintro _ _ _ ⟨rfl, rfl, rfl⟩
 refine sv (EV.nt rfl) rfl (re ?_)
 revert H; refine ifsI ?_ ?_ <;> intro c2 H
 ·
  subst c2
  refine gf rfl rfl (gk (gs (dr [0] [0] [] 8 rfl rfl rfl rfl (xv 0 [0] [0] rfl (EV.fa 1 rfl) rfl rfl rfl rfl (xv 1 [0] [0] rfl (EV.ld 0 none rfl rfl rfl) rfl rfl rfl rfl (xv 3 [0] [0] rfl (EV.fa 2 rfl) rfl rfl rfl rfl (xv 4 [0] [0] rfl (EV.ld 0 none rfl rfl rfl) rfl rfl rfl rfl (one1 2 rfl rfl ?_))))))))
  revert H; refine bdI ?_; rintro t3 A3 H
  refine op_call (impl_FormatInt.ok k a0_1 _ A3) [] 1 rfl rfl rfl rfl rfl ?_
  rintro _ _ _ ⟨rfl, rfl, rfl⟩
  refine xs [0] [0] rfl rfl rfl (one1 5 rfl rfl ?_)
  revert H; refine bdI ?_; rintro t4 A4 H
  refine op_call (impl_FormatInt.ok k a0_2 _ A4) [] 1 rfl rfl rfl rfl rfl ?_
  rintro _ _ _ ⟨rfl, rfl, rfl⟩
  refine xs [0] [0] rfl rfl rfl (one1 6 rfl rfl (op_lit (s := 1) (by_ := 16) .str ([t3, t4] : List ByteArray) [[], []] [] 1 [.tmp 11, .tmp 14] rfl rfl rfl rfl rfl rfl rfl rfl rfl rfl rfl rfl rfl dq rfl fun A15_5 c15_5 => (xs [0] [0] rfl rfl rfl (xv 7 [0] [0] rfl (EV.as rfl) rfl rfl rfl rfl (xd (pr [1, 3] [0] [0, 1] rfl rfl rfl rfl (gs (gs (rg (sv (EV.fa 0 rfl) rfl (sv (EV.ld 0 none rfl rfl rfl) rfl (sv (EV.ln rfl) rfl (sv (EV.mv rfl) rfl (re (gb ?_)))))))))))))))
  refine lo (fun kk S => ∃ (x2_3 : List ByteArray) (Ax2_3 : Option Addr) (cx2_3 : Nat) (x2_18 : Int) (x2_19 : Int), impl_FormatJoiner.l0 kk x2_3 x2_18 x2_19 l0_0 = some r0 ∧ S = ⟨[(3, .slice Ax2_3 x2_3.length cx2_3), (17, .slice Al0_0 l0_0.length cl0_0), (18, .int .i64 x2_18), (19, .int .i64 x2_19)], [], [.sl 2 .str Ax2_3 cx2_3 x2_3 1 true, .sl 0 k27 Al0_0 cl0_0 l0_0 0 false]⟩) (fun S hS => ?_) (fun n0 ih0 S hS => ?_) ⟨([t3, t4] : List ByteArray), A15_5, c15_5, (l0_0.length : Int), 0, H, rfl⟩ (fun h => wk [3, 17, 18, 19] [] [⟨1, 2, 1, true⟩, ⟨0, 0, 0, false⟩] h)
  · clear H; obtain ⟨_, _, _, _, _, H, _⟩ := hS; rw [impl_FormatJoiner.l0] at H; cases H
  clear H
  obtain ⟨x2_3, Ax2_3, cx2_3, x2_18, x2_19, H, rfl⟩ := hS
  rw [impl_FormatJoiner.l0] at H
  refine gs (rg (sv (EV.lss rfl rfl) rfl (re (gs ?_))))
  revert H; refine ifsI ?_ ?_ <;> intro c6 H
  ·
   refine gt rfl (dT c6) (gk (gs (gb (gs (rg ?_)))))
   revert H; refine ggI ?_; intro g7 H
   revert H; refine ggI ?_; intro g8 H
   refine sv (EV.ix 1 rfl rfl rfl g7 g8 rfl) rfl (opn (i := x2_19) 1 z27 rfl g7 g8 fun A_9 c_9 A_10 c_10 A_11 c_11 => (sv (EV.lc (v := .agg #[.int .i64 ((rd_T27 l0_0 x2_19).f0), .slice A_9 ((rd_T27 l0_0 x2_19).f1).length c_9, .slice A_10 ((rd_T27 l0_0 x2_19).f2).length c_10, .slice A_11 ((rd_T27 l0_0 x2_19).f3).length c_11, .int .i64 ((rd_T27 l0_0 x2_19).f4)]) 0 (some 5) 2 rfl rfl rfl rfl) rfl (so rfl (op_alloc (cs := [.int .i64 0, .slice none 0 0, .slice none 0 0, .slice none 0 0, .int .i64 0]) (by kernel_rfl) rfl fun b5 => (so rfl (op_st (cs' := [.int .i64 ((rd_T27 l0_0 x2_19).f0), .slice A_9 ((rd_T27 l0_0 x2_19).f1).length c_9, .slice A_10 ((rd_T27 l0_0 x2_19).f2).length c_10, .slice A_11 ((rd_T27 l0_0 x2_19).f3).length c_11, .int .i64 ((rd_T27 l0_0 x2_19).f4)]) 0 rfl rfl rfl rfl rfl rfl (re (rg (sv (EV.mv rfl) rfl (sv (EV.ld (v := .agg #[.int .i64 ((rd_T27 l0_0 x2_19).f0), .slice A_9 ((rd_T27 l0_0 x2_19).f1).length c_9, .slice A_10 ((rd_T27 l0_0 x2_19).f2).length c_10, .slice A_11 ((rd_T27 l0_0 x2_19).f3).length c_11, .int .i64 ((rd_T27 l0_0 x2_19).f4)]) 0 (some 5) rfl rfl rfl) rfl ?_))))))))))
   revert H; refine bdI ?_; rintro t12 A12 H
   refine so rfl (op_call (impl_FormatTask.ok n0 ((rd_T27 l0_0 x2_19).f0) ((rd_T27 l0_0 x2_19).f1) A_9 c_9 ((rd_T27 l0_0 x2_19).f2) A_10 c_10 ((rd_T27 l0_0 x2_19).f3) A_11 c_11 ((rd_T27 l0_0 x2_19).f4) _ A12) [⟨3, 0, 0, false⟩, ⟨4, 0, 0, false⟩, ⟨5, 0, 0, false⟩] 2 rfl rfl rfl rfl rfl ?_)
   rintro _ _ _ ⟨rfl, rfl, rfl⟩
   refine so rfl (op_lit (s := 1) (by_ := 16) .str ([t12] : List ByteArray) [[]] [] 2 [.tmp 25] rfl rfl rfl rfl rfl rfl rfl rfl rfl rfl rfl rfl rfl dq rfl fun A26_13 c26_13 => ?_)
   revert H; refine ggI ?_; intro g14 H
   exact so rfl (op_app (k := .str) (s := 1) (by_ := 16) 0 6 rfl rfl rfl rfl (ap1 g14 dq) (ap1n g14 dq) (.inl rfl) true (fun _ => .inl rfl) rfl rfl fun A27_15 c27_15 => (nmE (en := [.sl 0 k27 Al0_0 cl0_0 l0_0 0 false, celE Al0_0 (x2_19.toNat * 5) [.int .i64 ((rd_T27 l0_0 x2_19).f0), .slice A_9 ((rd_T27 l0_0 x2_19).f1).length c_9, .slice A_10 ((rd_T27 l0_0 x2_19).f2).length c_10, .slice A_11 ((rd_T27 l0_0 x2_19).f3).length c_11, .int .i64 ((rd_T27 l0_0 x2_19).f4)] 0, .sl 0 k99 A_9 c_9 ((rd_T27 l0_0 x2_19).f1) 0 false, .sl 0 k99 A_10 c_10 ((rd_T27 l0_0 x2_19).f2) 0 false, .sl 0 .bool A_11 c_11 ((rd_T27 l0_0 x2_19).f3) 0 false, .sl 2 .str A26_13 c26_13 ([t12] : List ByteArray) 2 true, .sl 2 .str A27_15 c27_15 (x2_3 ++ ([t12] : List ByteArray)) 1 true]) (by kernel_rfl) (sv (EV.as rfl) rfl (re (pr [3, 17, 18, 19] [] [0, 6] rfl rfl rfl rfl (ge (rg (sv (EV.add rfl rfl) rfl (sv (EV.mv rfl) rfl (re (wk [3, 17, 18, 19] [] [⟨1, 2, 1, true⟩, ⟨0, 0, 0, false⟩] (ih0 _ (by omega) _ ⟨x2_3 ++ ([t12] : List ByteArray), A27_15, c27_15, x2_18, wrap64 (x2_19 + 1), H, rfl⟩))))))))))))
  ·
   refine gf rfl (dF c6) (gx rfl (gs (rg (sv (EV.mv rfl) rfl ?_))))
   revert H; refine bdI ?_; rintro t16 A16 H
   refine so rfl (op_call (impl_joined.ok n0 x2_3 Ax2_3 cx2_3 (⟨#[47]⟩ : ByteArray) _ A16) [⟨0, 0, 0, false⟩] 2 rfl rfl rfl rfl rfl ?_)
   rintro _ _ _ ⟨rfl, rfl, rfl⟩
   refine sv (EV.as rfl) rfl (re (pr [2] [] [] rfl rfl rfl rfl ?_))
   cases H
   exact rt Try.func42 rfl (.tmp rfl .nil) rfl [] [] rfl rfl rfl rfl rfl ⟨rfl, rfl, rfl⟩
 ·
  obtain rfl := bF c2
  refine gt rfl rfl (gs (rg (sv (EV.as rfl) rfl (re ?_))))
  cases H
  exact rt Try.func42 rfl (.tmp rfl .nil) rfl [] [] rfl rfl rfl rfl rfl ⟨rfl, rfl, rfl⟩
def spec_l6Rows.l0 : Nat → Int → (List S99) → (List S99) → Option (Bool)
 | 0, _, _, _ => none
 | k + 1, x2_5, l0, l1 => if x2_5 < (l0.length : Int) then (if 0 ≤ x2_5 then (if x2_5 < (l1.length : Int) then (if (((rd_T99 l0 x2_5).f0) == ((rd_T99 l1 x2_5).f0) && (((rd_T99 l0 x2_5).f1) == ((rd_T99 l1 x2_5).f1) && (((rd_T99 l0 x2_5).f2) == ((rd_T99 l1 x2_5).f2)))) = true then (spec_l6Rows.l0 k (wrap64 (x2_5 + 1)) l0 l1) else (some false)) else none) else none) else (some true)
def spec_l6Rows.f (k : Nat) (l0 : List S99) (l1 : List S99) : Option (Bool) := if (l0.length : Int) = (l1.length : Int) then (spec_l6Rows.l0 k 0 l0 l1) else (some false)
set_option maxHeartbeats 4000000 in
set_option maxRecDepth 100000 in
theorem spec_l6Rows.ok (k : Nat) (l0 : List S99) (Al0 : Option Addr) (cl0 : Nat) (l1 : List S99) (Al1 : Option Addr) (cl1 : Nat) (r0 : Bool) (H : spec_l6Rows.f k l0 l1 = some r0) : Fn Try.prog 79 [.slice Al0 l0.length cl0, .slice Al1 l1.length cl1] [] [.sl 0 k99 Al0 cl0 l0 0 false, .sl 0 k99 Al1 cl1 l1 0 false] (fun v bx en => v = .bool r0 ∧ bx = [] ∧ en = []) := by
 refine fn_ 26 Try.func79 rfl rfl rfl (fun base T w0 => ?_)
 rw [spec_l6Rows.f] at H
 refine gs (rg (sv (EV.as rfl) rfl (re (gs (gs (rg (sv (EV.mv rfl) rfl (sv (EV.ln rfl) rfl (sv (EV.mv rfl) rfl (sv (EV.ln rfl) rfl (sv (EV.neq rfl rfl) rfl (re ?_))))))))))))
 revert H; refine ifsI ?_ ?_ <;> intro c1 H
 ·
  refine gf rfl (nF c1) (gk (gs (gs (rg (sv (EV.as rfl) rfl (re (pr [0, 1, 5] [] [0, 1] rfl rfl rfl rfl (gb ?_))))))))
  refine lo (fun kk S => ∃ (x2_5 : Int), spec_l6Rows.l0 kk x2_5 l0 l1 = some r0 ∧ S = ⟨[(0, .slice Al0 l0.length cl0), (1, .slice Al1 l1.length cl1), (5, .int .i64 x2_5)], [], [.sl 0 k99 Al0 cl0 l0 0 false, .sl 0 k99 Al1 cl1 l1 0 false]⟩) (fun S hS => ?_) (fun n0 ih0 S hS => ?_) ⟨0, H, rfl⟩ (fun h => wk [0, 1, 5] [] [⟨0, 0, 0, false⟩, ⟨1, 0, 0, false⟩] h)
  · clear H; obtain ⟨_, H, _⟩ := hS; rw [spec_l6Rows.l0] at H; cases H
  clear H
  obtain ⟨x2_5, H, rfl⟩ := hS
  rw [spec_l6Rows.l0] at H
  refine gs (gs (rg (sv (EV.mv rfl) rfl (sv (EV.mv rfl) rfl (sv (EV.ln rfl) rfl (sv (EV.lss rfl rfl) rfl (re ?_)))))))
  revert H; refine ifsI ?_ ?_ <;> intro c2 H
  ·
   refine gt rfl (dT c2) (gk (gs (gb (gs ?_))))
   revert H; refine ggI ?_; intro g3 H
   revert H; refine ggI ?_; intro g4 H
   refine dr [] [0, 1] [] 9 rfl rfl rfl rfl (xv 0 [] [0, 1] rfl (EV.mv rfl) rfl rfl rfl rfl (xv 1 [] [0, 1] rfl (EV.mv rfl) rfl rfl rfl rfl (xv 2 [] [0, 1] rfl (EV.ix 0 rfl rfl rfl g3 c2 rfl) rfl rfl rfl rfl (xv 3 [] [0, 1] rfl (EV.le (v := .agg #[.int .i64 ((rd_T99 l0 x2_5).f0), .int .i64 ((rd_T99 l0 x2_5).f1), .int .i64 ((rd_T99 l0 x2_5).f2)]) x2_5 0 (some 3) 0 z99 rfl rfl rfl g3 c2 rfl rfl rfl) rfl rfl rfl rfl (xv 4 [] [0, 1] rfl (EV.mv rfl) rfl rfl rfl rfl (xv 5 [] [0, 1] rfl (EV.mv rfl) rfl rfl rfl rfl (xv 6 [] [0, 1] rfl (EV.ix 1 rfl rfl rfl g3 g4 rfl) rfl rfl rfl rfl (xv 7 [] [0, 1] rfl (EV.le (v := .agg #[.int .i64 ((rd_T99 l1 x2_5).f0), .int .i64 ((rd_T99 l1 x2_5).f1), .int .i64 ((rd_T99 l1 x2_5).f2)]) x2_5 0 (some 3) 1 z99 rfl rfl rfl g3 g4 rfl rfl rfl) rfl rfl rfl rfl (xv 8 [] [0, 1] rfl (EV.neS rfl rfl (fun d w => eq99 d w ((rd_T99 l0 x2_5).f0) ((rd_T99 l1 x2_5).f0) ((rd_T99 l0 x2_5).f1) ((rd_T99 l1 x2_5).f1) ((rd_T99 l0 x2_5).f2) ((rd_T99 l1 x2_5).f2))) rfl rfl rfl rfl (xd (pr [0, 1, 5, 25] [] [0, 1] rfl rfl rfl rfl ?_)))))))))))
   revert H; refine ifsI ?_ ?_ <;> intro c5 H
   ·
    exact gf rfl (bN c5) (gk (ge (rg (sv (EV.mv rfl) rfl (sv (EV.add rfl rfl) rfl (sv (EV.as rfl) rfl (re (wk [0, 1, 5] [] [⟨0, 0, 0, false⟩, ⟨1, 0, 0, false⟩] (ih0 _ (by omega) _ ⟨wrap64 (x2_5 + 1), H, rfl⟩)))))))))
   ·
    refine gt rfl (bM c5) (gs (rg (sv (EV.as rfl) rfl (re ?_))))
    cases H
    exact rt Try.func79 rfl (.tmp rfl .nil) rfl [] [] rfl rfl rfl rfl rfl ⟨rfl, rfl, rfl⟩
  ·
   refine gf rfl (dF c2) (gx rfl (gs (rg (sv (EV.as rfl) rfl (re (pr [4] [] [] rfl rfl rfl rfl ?_))))))
   cases H
   exact rt Try.func79 rfl (.tmp rfl .nil) rfl [] [] rfl rfl rfl rfl rfl ⟨rfl, rfl, rfl⟩
 ·
  refine gt rfl (nT c1) (gs (rg (sv (EV.as rfl) rfl (re (pr [4] [] [] rfl rfl rfl rfl ?_)))))
  cases H
  exact rt Try.func79 rfl (.tmp rfl .nil) rfl [] [] rfl rfl rfl rfl rfl ⟨rfl, rfl, rfl⟩
def spec_EqualTasks.l0 : Nat → Int → Int → Int → Int → Int → (List S99) → (List S99) → (List Bool) → (List S99) → (List S99) → (List Bool) → Option (Bool)
 | 0, _, _, _, _, _, _, _, _, _, _, _ => none
 | k + 1, x2_5, x2_2_0, x2_2_4, x2_3_0, x2_3_4, l0_1, l0_2, l0_3, l1_1, l1_2, l1_3 => if x2_5 < (l0_3.length : Int) then (if 0 ≤ x2_5 then (if x2_5 < (l1_3.length : Int) then (if ((rdOf false l0_3 x2_5) == (rdOf false l1_3 x2_5)) = true then (spec_EqualTasks.l0 k (wrap64 (x2_5 + 1)) x2_2_0 x2_2_4 x2_3_0 x2_3_4 l0_1 l0_2 l0_3 l1_1 l1_2 l1_3) else (some false)) else none) else none) else (some true)
def spec_EqualTasks.f (k : Nat) (a0_0 : Int) (l0_1 : List S99) (l0_2 : List S99) (l0_3 : List Bool) (a0_4 : Int) (a1_0 : Int) (l1_1 : List S99) (l1_2 : List S99) (l1_3 : List Bool) (a1_4 : Int) : Option (Bool) := if a0_0 = a1_0 then ((spec_l6Rows.f k l0_1 l1_1).bind fun t2 => (if t2 = true then ((spec_l6Rows.f k l0_2 l1_2).bind fun t4 => (if t4 = true then (if a0_4 = a1_4 then (if (l0_3.length : Int) = (l1_3.length : Int) then (spec_EqualTasks.l0 k 0 a0_0 a0_4 a1_0 a1_4 l0_1 l0_2 l0_3 l1_1 l1_2 l1_3) else (some false)) else (some false)) else (some false))) else (some false))) else (some false)
set_option maxHeartbeats 4000000 in
set_option maxRecDepth 100000 in
theorem spec_EqualTasks.ok (k : Nat) (a0_0 : Int) (l0_1 : List S99) (Al0_1 : Option Addr) (cl0_1 : Nat) (l0_2 : List S99) (Al0_2 : Option Addr) (cl0_2 : Nat) (l0_3 : List Bool) (Al0_3 : Option Addr) (cl0_3 : Nat) (a0_4 : Int) (a1_0 : Int) (l1_1 : List S99) (Al1_1 : Option Addr) (cl1_1 : Nat) (l1_2 : List S99) (Al1_2 : Option Addr) (cl1_2 : Nat) (l1_3 : List Bool) (Al1_3 : Option Addr) (cl1_3 : Nat) (a1_4 : Int) (r0 : Bool) (H : spec_EqualTasks.f k a0_0 l0_1 l0_2 l0_3 a0_4 a1_0 l1_1 l1_2 l1_3 a1_4 = some r0) : Fn Try.prog 20 [.agg #[.int .i64 a0_0, .slice Al0_1 l0_1.length cl0_1, .slice Al0_2 l0_2.length cl0_2, .slice Al0_3 l0_3.length cl0_3, .int .i64 a0_4], .agg #[.int .i64 a1_0, .slice Al1_1 l1_1.length cl1_1, .slice Al1_2 l1_2.length cl1_2, .slice Al1_3 l1_3.length cl1_3, .int .i64 a1_4]] [] [.sl 0 k99 Al0_1 cl0_1 l0_1 0 false, .sl 0 k99 Al0_2 cl0_2 l0_2 0 false, .sl 0 .bool Al0_3 cl0_3 l0_3 0 false, .sl 0 k99 Al1_1 cl1_1 l1_1 0 false, .sl 0 k99 Al1_2 cl1_2 l1_2 0 false, .sl 0 .bool Al1_3 cl1_3 l1_3 0 false] (fun v bx en => v = .bool r0 ∧ bx = [] ∧ en = []) := by
 refine fn_ 61 Try.func20 rfl rfl rfl (fun base T w0 => ?_)
 rw [spec_EqualTasks.f] at H
 refine gs (rg (so rfl (op_box (cs := [.int .i64 a0_0, .slice Al0_1 l0_1.length cl0_1, .slice Al0_2 l0_2.length cl0_2, .slice Al0_3 l0_3.length cl0_3, .int .i64 a0_4]) rfl rfl rfl fun b2 => (so rfl (op_box (cs := [.int .i64 a1_0, .slice Al1_1 l1_1.length cl1_1, .slice Al1_2 l1_2.length cl1_2, .slice Al1_3 l1_3.length cl1_3, .int .i64 a1_4]) rfl rfl rfl fun b3 => (sv (EV.as rfl) rfl (re (gs (gs (rg (sv (EV.fa 0 rfl) rfl (sv (EV.ld 0 none rfl rfl rfl) rfl (sv (EV.fa 0 rfl) rfl (sv (EV.ld 1 none rfl rfl rfl) rfl (sv (EV.neq rfl rfl) rfl (sv (EV.mv rfl) rfl ?_))))))))))))))))
 revert H; refine ifsI ?_ ?_ <;> intro c1 H
 ·
  refine ts 11 rfl (nF c1) (sv (EV.fa 1 rfl) rfl (sv (EV.ld 0 none rfl rfl rfl) rfl (sv (EV.fa 1 rfl) rfl (sv (EV.ld 1 none rfl rfl rfl) rfl ?_))))
  revert H; refine bdI ?_; rintro t2 A2 H
  refine so rfl (op_call (spec_l6Rows.ok k l0_1 Al0_1 cl0_1 l1_1 Al1_1 cl1_1 _ A2) [⟨0, 0, 0, false⟩, ⟨3, 0, 0, false⟩] 1 rfl rfl rfl rfl rfl ?_)
  rintro _ _ _ ⟨rfl, rfl, rfl⟩
  refine sv (EV.nt rfl) rfl (sv (EV.pf rfl rfl rfl) rfl (sv (EV.mv rfl) rfl ?_))
  revert H; refine ifsI ?_ ?_ <;> intro c3 H
  ·
   subst c3
   refine ts 19 rfl rfl (sv (EV.fa 2 rfl) rfl (sv (EV.ld 0 none rfl rfl rfl) rfl (sv (EV.fa 2 rfl) rfl (sv (EV.ld 1 none rfl rfl rfl) rfl ?_))))
   revert H; refine bdI ?_; rintro t4 A4 H
   refine so rfl (op_call (spec_l6Rows.ok k l0_2 Al0_2 cl0_2 l1_2 Al1_2 cl1_2 _ A4) [⟨1, 0, 0, false⟩, ⟨4, 0, 0, false⟩] 1 rfl rfl rfl rfl rfl ?_)
   rintro _ _ _ ⟨rfl, rfl, rfl⟩
   refine sv (EV.nt rfl) rfl (sv (EV.pf rfl rfl rfl) rfl (sv (EV.mv rfl) rfl ?_))
   revert H; refine ifsI ?_ ?_ <;> intro c5 H
   ·
    subst c5
    refine ts 27 rfl rfl (sv (EV.fa 4 rfl) rfl (sv (EV.ld 0 none rfl rfl rfl) rfl (sv (EV.fa 4 rfl) rfl (sv (EV.ld 1 none rfl rfl rfl) rfl (sv (EV.neq rfl rfl) rfl (sv (EV.pf rfl rfl rfl) rfl (sv (EV.mv rfl) rfl ?_)))))))
    revert H; refine ifsI ?_ ?_ <;> intro c6 H
    ·
     refine ts 34 rfl (nF c6) (sv (EV.fa 3 rfl) rfl (sv (EV.ld 0 none rfl rfl rfl) rfl (sv (EV.ln rfl) rfl (sv (EV.fa 3 rfl) rfl (sv (EV.ld 1 none rfl rfl rfl) rfl (sv (EV.ln rfl) rfl (sv (EV.neq rfl rfl) rfl (sv (EV.pf rfl rfl rfl) rfl (re (pr [2, 3, 42] [0, 1] [0, 1, 2, 3, 4, 5] rfl rfl rfl rfl ?_))))))))))
     revert H; refine ifsI ?_ ?_ <;> intro c7 H
     ·
      refine gf rfl (nF c7) (gk (gs (gs (rg (sv (EV.as rfl) rfl (re (gb ?_)))))))
      refine lo (fun kk S => ∃ (x2_5 : Int) (x2_2_0 : Int) (x2_2_4 : Int) (x2_3_0 : Int) (x2_3_4 : Int), spec_EqualTasks.l0 kk x2_5 x2_2_0 x2_2_4 x2_3_0 x2_3_4 l0_1 l0_2 l0_3 l1_1 l1_2 l1_3 = some r0 ∧ S = ⟨[(2, .pointer (some ⟨b2, 0, none⟩)), (3, .pointer (some ⟨b3, 0, none⟩)), (5, .int .i64 x2_5)], [⟨b2, 27, [.int .i64 x2_2_0, .slice Al0_1 l0_1.length cl0_1, .slice Al0_2 l0_2.length cl0_2, .slice Al0_3 l0_3.length cl0_3, .int .i64 x2_2_4]⟩, ⟨b3, 27, [.int .i64 x2_3_0, .slice Al1_1 l1_1.length cl1_1, .slice Al1_2 l1_2.length cl1_2, .slice Al1_3 l1_3.length cl1_3, .int .i64 x2_3_4]⟩], [.sl 0 k99 Al0_1 cl0_1 l0_1 0 false, .sl 0 k99 Al0_2 cl0_2 l0_2 0 false, .sl 0 .bool Al0_3 cl0_3 l0_3 0 false, .sl 0 k99 Al1_1 cl1_1 l1_1 0 false, .sl 0 k99 Al1_2 cl1_2 l1_2 0 false, .sl 0 .bool Al1_3 cl1_3 l1_3 0 false]⟩) (fun S hS => ?_) (fun n0 ih0 S hS => ?_) ⟨0, a0_0, a0_4, a1_0, a1_4, H, rfl⟩ (fun h => wk [2, 3, 5] [0, 1] [⟨0, 0, 0, false⟩, ⟨1, 0, 0, false⟩, ⟨2, 0, 0, false⟩, ⟨3, 0, 0, false⟩, ⟨4, 0, 0, false⟩, ⟨5, 0, 0, false⟩] h)
      · clear H; obtain ⟨_, _, _, _, _, H, _⟩ := hS; rw [spec_EqualTasks.l0] at H; cases H
      clear H
      obtain ⟨x2_5, x2_2_0, x2_2_4, x2_3_0, x2_3_4, H, rfl⟩ := hS
      rw [spec_EqualTasks.l0] at H
      refine gs (gs (rg (sv (EV.mv rfl) rfl (sv (EV.fa 3 rfl) rfl (sv (EV.ld 0 none rfl rfl rfl) rfl (sv (EV.ln rfl) rfl (sv (EV.lss rfl rfl) rfl (re ?_))))))))
      revert H; refine ifsI ?_ ?_ <;> intro c8 H
      ·
       refine gt rfl (dT c8) (gk (gs (gb (gs ?_))))
       revert H; refine ggI ?_; intro g9 H
       revert H; refine ggI ?_; intro g10 H
       refine dr [0, 1] [0, 1, 2, 3, 4, 5] [] 11 rfl rfl rfl rfl (xv 0 [0, 1] [0, 1, 2, 3, 4, 5] rfl (EV.fa 3 rfl) rfl rfl rfl rfl (xv 1 [0, 1] [0, 1, 2, 3, 4, 5] rfl (EV.ld 0 none rfl rfl rfl) rfl rfl rfl rfl (xv 2 [0, 1] [0, 1, 2, 3, 4, 5] rfl (EV.mv rfl) rfl rfl rfl rfl (xv 3 [0, 1] [0, 1, 2, 3, 4, 5] rfl (EV.ix 2 rfl rfl rfl g9 c8 rfl) rfl rfl rfl rfl (xv 4 [0, 1] [0, 1, 2, 3, 4, 5] rfl (EV.le (v := .bool (rdOf false l0_3 x2_5)) x2_5 0 none 2 false rfl rfl rfl g9 c8 rfl rfl rfl) rfl rfl rfl rfl (xv 5 [0, 1] [0, 1, 2, 3, 4, 5] rfl (EV.fa 3 rfl) rfl rfl rfl rfl (xv 6 [0, 1] [0, 1, 2, 3, 4, 5] rfl (EV.ld 1 none rfl rfl rfl) rfl rfl rfl rfl (xv 7 [0, 1] [0, 1, 2, 3, 4, 5] rfl (EV.mv rfl) rfl rfl rfl rfl (xv 8 [0, 1] [0, 1, 2, 3, 4, 5] rfl (EV.ix 5 rfl rfl rfl g9 g10 rfl) rfl rfl rfl rfl (xv 9 [0, 1] [0, 1, 2, 3, 4, 5] rfl (EV.le (v := .bool (rdOf false l1_3 x2_5)) x2_5 0 none 5 false rfl rfl rfl g9 g10 rfl rfl rfl) rfl rfl rfl rfl (xv 10 [0, 1] [0, 1, 2, 3, 4, 5] rfl (EV.neb rfl rfl) rfl rfl rfl rfl (xd (pr [2, 3, 5, 60] [0, 1] [0, 1, 2, 3, 4, 5] rfl rfl rfl rfl ?_)))))))))))))
       revert H; refine ifsI ?_ ?_ <;> intro c11 H
       ·
        exact gf rfl (bN c11) (gk (ge (rg (sv (EV.mv rfl) rfl (sv (EV.add rfl rfl) rfl (sv (EV.as rfl) rfl (re (wk [2, 3, 5] [0, 1] [⟨0, 0, 0, false⟩, ⟨1, 0, 0, false⟩, ⟨2, 0, 0, false⟩, ⟨3, 0, 0, false⟩, ⟨4, 0, 0, false⟩, ⟨5, 0, 0, false⟩] (ih0 _ (by omega) _ ⟨wrap64 (x2_5 + 1), x2_2_0, x2_2_4, x2_3_0, x2_3_4, H, rfl⟩)))))))))
       ·
        refine gt rfl (bM c11) (gs (rg (sv (EV.as rfl) rfl (re ?_))))
        cases H
        exact rt Try.func20 rfl (.tmp rfl .nil) rfl [] [] rfl rfl rfl rfl rfl ⟨rfl, rfl, rfl⟩
      ·
       refine gf rfl (dF c8) (gx rfl (gs (rg (sv (EV.as rfl) rfl (re (pr [4] [] [] rfl rfl rfl rfl ?_))))))
       cases H
       exact rt Try.func20 rfl (.tmp rfl .nil) rfl [] [] rfl rfl rfl rfl rfl ⟨rfl, rfl, rfl⟩
     ·
      refine gt rfl (nT c7) (gs (rg (sv (EV.as rfl) rfl (re ?_))))
      cases H
      exact rt Try.func20 rfl (.tmp rfl .nil) rfl [] [] rfl rfl rfl rfl rfl ⟨rfl, rfl, rfl⟩
    ·
     refine ts 34 rfl (nT c6) (sk rfl (sk rfl (sk rfl (sk rfl (sk rfl (sk rfl (sk rfl (sv (EV.pt rfl rfl rfl) rfl (re (pr [2, 3, 42] [0, 1] [0, 1, 2, 3, 4, 5] rfl rfl rfl rfl (gt rfl rfl (gs (rg (sv (EV.as rfl) rfl (re ?_)))))))))))))))
     cases H
     exact rt Try.func20 rfl (.tmp rfl .nil) rfl [] [] rfl rfl rfl rfl rfl ⟨rfl, rfl, rfl⟩
   ·
    obtain rfl := bF c5
    refine ts 27 rfl rfl (sk rfl (sk rfl (sk rfl (sk rfl (sk rfl (sv (EV.pt rfl rfl rfl) rfl (sv (EV.mv rfl) rfl (sk rfl (sk rfl (sk rfl (sk rfl (sk rfl (sk rfl (sk rfl (sv (EV.pt rfl rfl rfl) rfl (re (pr [2, 3, 42] [0, 1] [0, 1, 2, 3, 4, 5] rfl rfl rfl rfl (gt rfl rfl (gs (rg (sv (EV.as rfl) rfl (re ?_))))))))))))))))))))))
    cases H
    exact rt Try.func20 rfl (.tmp rfl .nil) rfl [] [] rfl rfl rfl rfl rfl ⟨rfl, rfl, rfl⟩
  ·
   obtain rfl := bF c3
   refine ts 19 rfl rfl (sk rfl (sk rfl (sk rfl (sk rfl (sk rfl (sk rfl (sv (EV.pt rfl rfl rfl) rfl (sv (EV.mv rfl) rfl (sk rfl (sk rfl (sk rfl (sk rfl (sk rfl (sv (EV.pt rfl rfl rfl) rfl (sv (EV.mv rfl) rfl (sk rfl (sk rfl (sk rfl (sk rfl (sk rfl (sk rfl (sk rfl (sv (EV.pt rfl rfl rfl) rfl (re (pr [2, 3, 42] [0, 1] [0, 1, 2, 3, 4, 5] rfl rfl rfl rfl (gt rfl rfl (gs (rg (sv (EV.as rfl) rfl ?_)))))))))))))))))))))))))))))
   refine re ?_
   cases H
   exact rt Try.func20 rfl (.tmp rfl .nil) rfl [] [] rfl rfl rfl rfl rfl ⟨rfl, rfl, rfl⟩
 ·
  refine ts 11 rfl (nT c1) (sk rfl (sk rfl (sk rfl (sk rfl (sk rfl (sk rfl (sv (EV.pt rfl rfl rfl) rfl (sv (EV.mv rfl) rfl (sk rfl (sk rfl (sk rfl (sk rfl (sk rfl (sk rfl (sv (EV.pt rfl rfl rfl) rfl (sv (EV.mv rfl) rfl (sk rfl (sk rfl (sk rfl (sk rfl (sk rfl (sv (EV.pt rfl rfl rfl) rfl (sv (EV.mv rfl) rfl (sk rfl (sk rfl (sk rfl (sk rfl (sk rfl (sk rfl ?_)))))))))))))))))))))))))))))
  refine sk rfl (sv (EV.pt rfl rfl rfl) rfl (re (pr [2, 3, 42] [0, 1] [0, 1, 2, 3, 4, 5] rfl rfl rfl rfl (gt rfl rfl (gs (rg (sv (EV.as rfl) rfl (re ?_))))))))
  cases H
  exact rt Try.func20 rfl (.tmp rfl .nil) rfl [] [] rfl rfl rfl rfl rfl ⟨rfl, rfl, rfl⟩
def spec_EqualJoiners.l0 : Nat → Int → Int → Int → Int → Int → (List S27) → (List S27) → Option (Bool)
 | 0, _, _, _, _, _, _, _ => none
 | k + 1, x2_5, x2_2_1, x2_2_2, x2_3_1, x2_3_2, l0_0, l1_0 => if x2_5 < (l0_0.length : Int) then (if 0 ≤ x2_5 then (if x2_5 < (l1_0.length : Int) then ((spec_EqualTasks.f k ((rd_T27 l0_0 x2_5).f0) ((rd_T27 l0_0 x2_5).f1) ((rd_T27 l0_0 x2_5).f2) ((rd_T27 l0_0 x2_5).f3) ((rd_T27 l0_0 x2_5).f4) ((rd_T27 l1_0 x2_5).f0) ((rd_T27 l1_0 x2_5).f1) ((rd_T27 l1_0 x2_5).f2) ((rd_T27 l1_0 x2_5).f3) ((rd_T27 l1_0 x2_5).f4)).bind fun t13 => (if t13 = true then (spec_EqualJoiners.l0 k (wrap64 (x2_5 + 1)) x2_2_1 x2_2_2 x2_3_1 x2_3_2 l0_0 l1_0) else (some false))) else none) else none) else (some true)
def spec_EqualJoiners.f (k : Nat) (l0_0 : List S27) (a0_1 : Int) (a0_2 : Int) (l1_0 : List S27) (a1_1 : Int) (a1_2 : Int) : Option (Bool) := if a0_1 = a1_1 then (if a0_2 = a1_2 then (if (l0_0.length : Int) = (l1_0.length : Int) then (spec_EqualJoiners.l0 k 0 a0_1 a0_2 a1_1 a1_2 l0_0 l1_0) else (some false)) else (some false)) else (some false)
set_option maxHeartbeats 4000000 in
set_option maxRecDepth 100000 in
theorem spec_EqualJoiners.ok (k : Nat) (l0_0 : List S27) (Al0_0 : Option Addr) (cl0_0 : Nat) (a0_1 : Int) (a0_2 : Int) (l1_0 : List S27) (Al1_0 : Option Addr) (cl1_0 : Nat) (a1_1 : Int) (a1_2 : Int) (r0 : Bool) (H : spec_EqualJoiners.f k l0_0 a0_1 a0_2 l1_0 a1_1 a1_2 = some r0) : Fn Try.prog 43 [.agg #[.slice Al0_0 l0_0.length cl0_0, .int .i64 a0_1, .int .i64 a0_2], .agg #[.slice Al1_0 l1_0.length cl1_0, .int .i64 a1_1, .int .i64 a1_2]] [] [.sl 0 k27 Al0_0 cl0_0 l0_0 0 false, .sl 0 k27 Al1_0 cl1_0 l1_0 0 false] (fun v bx en => v = .bool r0 ∧ bx = [] ∧ en = []) := by
 refine fn_ 46 Try.func43 rfl rfl rfl (fun base T w0 => ?_)
 rw [spec_EqualJoiners.f] at H
 refine gs (rg (so rfl (op_box (cs := [.slice Al0_0 l0_0.length cl0_0, .int .i64 a0_1, .int .i64 a0_2]) rfl rfl rfl fun b2 => (so rfl (op_box (cs := [.slice Al1_0 l1_0.length cl1_0, .int .i64 a1_1, .int .i64 a1_2]) rfl rfl rfl fun b3 => (sv (EV.as rfl) rfl (re (gs (gs (rg (sv (EV.fa 1 rfl) rfl (sv (EV.ld 0 none rfl rfl rfl) rfl (sv (EV.fa 1 rfl) rfl (sv (EV.ld 1 none rfl rfl rfl) rfl (sv (EV.neq rfl rfl) rfl (sv (EV.mv rfl) rfl ?_))))))))))))))))
 revert H; refine ifsI ?_ ?_ <;> intro c1 H
 ·
  refine ts 11 rfl (nF c1) (sv (EV.fa 2 rfl) rfl (sv (EV.ld 0 none rfl rfl rfl) rfl (sv (EV.fa 2 rfl) rfl (sv (EV.ld 1 none rfl rfl rfl) rfl (sv (EV.neq rfl rfl) rfl (sv (EV.pf rfl rfl rfl) rfl (sv (EV.mv rfl) rfl ?_)))))))
  revert H; refine ifsI ?_ ?_ <;> intro c2 H
  ·
   refine ts 18 rfl (nF c2) (sv (EV.fa 0 rfl) rfl (sv (EV.ld 0 none rfl rfl rfl) rfl (sv (EV.ln rfl) rfl (sv (EV.fa 0 rfl) rfl (sv (EV.ld 1 none rfl rfl rfl) rfl (sv (EV.ln rfl) rfl (sv (EV.neq rfl rfl) rfl (sv (EV.pf rfl rfl rfl) rfl (re (pr [2, 3, 26] [0, 1] [0, 1] rfl rfl rfl rfl ?_))))))))))
   revert H; refine ifsI ?_ ?_ <;> intro c3 H
   ·
    refine gf rfl (nF c3) (gk (gs (gs (rg (sv (EV.as rfl) rfl (re (gb ?_)))))))
    refine lo (fun kk S => ∃ (x2_5 : Int) (x2_2_1 : Int) (x2_2_2 : Int) (x2_3_1 : Int) (x2_3_2 : Int), spec_EqualJoiners.l0 kk x2_5 x2_2_1 x2_2_2 x2_3_1 x2_3_2 l0_0 l1_0 = some r0 ∧ S = ⟨[(2, .pointer (some ⟨b2, 0, none⟩)), (3, .pointer (some ⟨b3, 0, none⟩)), (5, .int .i64 x2_5)], [⟨b2, 60, [.slice Al0_0 l0_0.length cl0_0, .int .i64 x2_2_1, .int .i64 x2_2_2]⟩, ⟨b3, 60, [.slice Al1_0 l1_0.length cl1_0, .int .i64 x2_3_1, .int .i64 x2_3_2]⟩], [.sl 0 k27 Al0_0 cl0_0 l0_0 0 false, .sl 0 k27 Al1_0 cl1_0 l1_0 0 false]⟩) (fun S hS => ?_) (fun n0 ih0 S hS => ?_) ⟨0, a0_1, a0_2, a1_1, a1_2, H, rfl⟩ (fun h => wk [2, 3, 5] [0, 1] [⟨0, 0, 0, false⟩, ⟨1, 0, 0, false⟩] h)
    · clear H; obtain ⟨_, _, _, _, _, H, _⟩ := hS; rw [spec_EqualJoiners.l0] at H; cases H
    clear H
    obtain ⟨x2_5, x2_2_1, x2_2_2, x2_3_1, x2_3_2, H, rfl⟩ := hS
    rw [spec_EqualJoiners.l0] at H
    refine gs (gs (rg (sv (EV.mv rfl) rfl (sv (EV.fa 0 rfl) rfl (sv (EV.ld 0 none rfl rfl rfl) rfl (sv (EV.ln rfl) rfl (sv (EV.lss rfl rfl) rfl (re ?_))))))))
    revert H; refine ifsI ?_ ?_ <;> intro c4 H
    ·
     refine gt rfl (dT c4) (gk (gs (gb (gs ?_))))
     revert H; refine ggI ?_; intro g5 H
     refine opn (i := x2_5) 0 z27 rfl g5 c4 fun A_6 c_6 A_7 c_7 A_8 c_8 => ?_
     revert H; refine ggI ?_; intro g9 H
     refine opn (i := x2_5) 1 z27 rfl g5 g9 fun A_10 c_10 A_11 c_11 A_12 c_12 => (dr [0, 1] [0, 1, 2, 3, 4, 5, 6, 7, 8, 9] [] 12 rfl rfl rfl rfl (xv 0 [0, 1] [0, 1, 2, 3, 4, 5, 6, 7, 8, 9] rfl (EV.fa 0 rfl) rfl rfl rfl rfl (xv 1 [0, 1] [0, 1, 2, 3, 4, 5, 6, 7, 8, 9] rfl (EV.ld 0 none rfl rfl rfl) rfl rfl rfl rfl (xv 2 [0, 1] [0, 1, 2, 3, 4, 5, 6, 7, 8, 9] rfl (EV.mv rfl) rfl rfl rfl rfl (xv 3 [0, 1] [0, 1, 2, 3, 4, 5, 6, 7, 8, 9] rfl (EV.ix 0 rfl rfl rfl g5 c4 rfl) rfl rfl rfl rfl (xv 4 [0, 1] [0, 1, 2, 3, 4, 5, 6, 7, 8, 9] rfl (EV.lc (v := .agg #[.int .i64 ((rd_T27 l0_0 x2_5).f0), .slice A_6 ((rd_T27 l0_0 x2_5).f1).length c_6, .slice A_7 ((rd_T27 l0_0 x2_5).f2).length c_7, .slice A_8 ((rd_T27 l0_0 x2_5).f3).length c_8, .int .i64 ((rd_T27 l0_0 x2_5).f4)]) 0 (some 5) 2 rfl rfl rfl rfl) rfl rfl rfl rfl (xv 5 [0, 1] [0, 1, 2, 3, 4, 5, 6, 7, 8, 9] rfl (EV.fa 0 rfl) rfl rfl rfl rfl (xv 6 [0, 1] [0, 1, 2, 3, 4, 5, 6, 7, 8, 9] rfl (EV.ld 1 none rfl rfl rfl) rfl rfl rfl rfl (xv 7 [0, 1] [0, 1, 2, 3, 4, 5, 6, 7, 8, 9] rfl (EV.mv rfl) rfl rfl rfl rfl (xv 8 [0, 1] [0, 1, 2, 3, 4, 5, 6, 7, 8, 9] rfl (EV.ix 1 rfl rfl rfl g5 g9 rfl) rfl rfl rfl rfl (xv 9 [0, 1] [0, 1, 2, 3, 4, 5, 6, 7, 8, 9] rfl (EV.lc (v := .agg #[.int .i64 ((rd_T27 l1_0 x2_5).f0), .slice A_10 ((rd_T27 l1_0 x2_5).f1).length c_10, .slice A_11 ((rd_T27 l1_0 x2_5).f2).length c_11, .slice A_12 ((rd_T27 l1_0 x2_5).f3).length c_12, .int .i64 ((rd_T27 l1_0 x2_5).f4)]) 0 (some 5) 6 rfl rfl rfl rfl) rfl rfl rfl rfl (one1 10 rfl rfl ?_))))))))))))
     revert H; refine bdI ?_; rintro t13 A13 H
     refine op_call (spec_EqualTasks.ok n0 ((rd_T27 l0_0 x2_5).f0) ((rd_T27 l0_0 x2_5).f1) A_6 c_6 ((rd_T27 l0_0 x2_5).f2) A_7 c_7 ((rd_T27 l0_0 x2_5).f3) A_8 c_8 ((rd_T27 l0_0 x2_5).f4) ((rd_T27 l1_0 x2_5).f0) ((rd_T27 l1_0 x2_5).f1) A_10 c_10 ((rd_T27 l1_0 x2_5).f2) A_11 c_11 ((rd_T27 l1_0 x2_5).f3) A_12 c_12 ((rd_T27 l1_0 x2_5).f4) _ A13) [⟨3, 0, 0, false⟩, ⟨4, 0, 0, false⟩, ⟨5, 0, 0, false⟩, ⟨7, 0, 0, false⟩, ⟨8, 0, 0, false⟩, ⟨9, 0, 0, false⟩] 1 rfl rfl rfl rfl rfl ?_
     rintro _ _ _ ⟨rfl, rfl, rfl⟩
     refine xs [0, 1] [0, 1, 2, 3, 4, 5, 6, 7, 8, 9] rfl rfl rfl (xv 11 [0, 1] [0, 1, 2, 3, 4, 5, 6, 7, 8, 9] rfl (EV.nt rfl) rfl rfl rfl rfl (xd (pr [2, 3, 5, 45] [0, 1] [0, 1] rfl rfl rfl rfl ?_)))
     revert H; refine ifsI ?_ ?_ <;> intro c14 H
     ·
      subst c14
      exact gf rfl rfl (gk (ge (rg (sv (EV.mv rfl) rfl (sv (EV.add rfl rfl) rfl (sv (EV.as rfl) rfl (re (wk [2, 3, 5] [0, 1] [⟨0, 0, 0, false⟩, ⟨1, 0, 0, false⟩] (ih0 _ (by omega) _ ⟨wrap64 (x2_5 + 1), x2_2_1, x2_2_2, x2_3_1, x2_3_2, H, rfl⟩)))))))))
     ·
      obtain rfl := bF c14
      refine gt rfl rfl (gs (rg (sv (EV.as rfl) rfl (re ?_))))
      cases H
      exact rt Try.func43 rfl (.tmp rfl .nil) rfl [] [] rfl rfl rfl rfl rfl ⟨rfl, rfl, rfl⟩
    ·
     refine gf rfl (dF c4) (gx rfl (gs (rg (sv (EV.as rfl) rfl (re (pr [4] [] [] rfl rfl rfl rfl ?_))))))
     cases H
     exact rt Try.func43 rfl (.tmp rfl .nil) rfl [] [] rfl rfl rfl rfl rfl ⟨rfl, rfl, rfl⟩
   ·
    refine gt rfl (nT c3) (gs (rg (sv (EV.as rfl) rfl (re ?_))))
    cases H
    exact rt Try.func43 rfl (.tmp rfl .nil) rfl [] [] rfl rfl rfl rfl rfl ⟨rfl, rfl, rfl⟩
  ·
   refine ts 18 rfl (nT c2) (sk rfl (sk rfl (sk rfl (sk rfl (sk rfl (sk rfl (sk rfl (sv (EV.pt rfl rfl rfl) rfl (re (pr [2, 3, 26] [0, 1] [0, 1] rfl rfl rfl rfl (gt rfl rfl (gs (rg (sv (EV.as rfl) rfl (re ?_)))))))))))))))
   cases H
   exact rt Try.func43 rfl (.tmp rfl .nil) rfl [] [] rfl rfl rfl rfl rfl ⟨rfl, rfl, rfl⟩
 ·
  refine ts 11 rfl (nT c1) (sk rfl (sk rfl (sk rfl (sk rfl (sk rfl (sv (EV.pt rfl rfl rfl) rfl (sv (EV.mv rfl) rfl (sk rfl (sk rfl (sk rfl (sk rfl (sk rfl (sk rfl (sk rfl (sv (EV.pt rfl rfl rfl) rfl (re (pr [2, 3, 26] [0, 1] [0, 1] rfl rfl rfl rfl (gt rfl rfl (gs (rg (sv (EV.as rfl) rfl (re ?_))))))))))))))))))))))
  cases H
  exact rt Try.func43 rfl (.tmp rfl .nil) rfl [] [] rfl rfl rfl rfl rfl ⟨rfl, rfl, rfl⟩
def laws_big.f (l0 : List Int) : Option (Bool) := some (decide ((l0.length : Int) > 1048576))
set_option maxHeartbeats 4000000 in
set_option maxRecDepth 100000 in
theorem laws_big.ok (l0 : List Int) (Al0 : Option Addr) (cl0 : Nat) (r0 : Bool) (H : laws_big.f l0 = some r0) : Fn Try.prog 7 [.slice Al0 l0.length cl0] [] [.sl 0 (.int .u8) Al0 cl0 l0 0 false] (fun v bx en => v = .bool r0 ∧ bx = [] ∧ en = []) := by
 refine fn_ 6 Try.func7 rfl rfl rfl (fun base T w0 => ?_)
 rw [laws_big.f] at H
 refine gs (rg (sv (EV.as rfl) rfl (re (gs (rg (sv (EV.mv rfl) rfl (sv (EV.ln rfl) rfl (sv (EV.gtr rfl rfl) rfl (sv (EV.as rfl) rfl (re ?_))))))))))
 cases H
 exact rt Try.func7 rfl (.tmp rfl .nil) rfl [] [] rfl rfl rfl rfl rfl ⟨rfl, rfl, rfl⟩
end Go.Proofs.Ytamjndlkompeeaa.K
