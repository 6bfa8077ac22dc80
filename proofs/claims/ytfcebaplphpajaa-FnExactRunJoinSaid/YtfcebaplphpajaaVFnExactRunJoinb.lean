/- Walks: what the functions compute. Printed by gen.py; no condition. -/
import Derived.Test.YtfcebaplphpajaaVFnExactRunJoina
namespace Go.Proofs.Ytfcebaplphpajaa.K
open Go Go.RowKit
set_option linter.unusedVariables false
set_option linter.unusedSimpArgs false
def spec_SplitByHashBit.l0 : Nat → Int → (List S77) → (List S77) → Int → (List S77) → Option ((List S77) × (List S77))
 | 0, _, _, _, _, _ => none
 | k + 1, x2_1, x2_6, x2_7, x2_8, l0 => if x2_8 < (l0.length : Int) then (if 0 ≤ x2_8 then ((spec_HashBit.f ((rd_T77 l0 x2_8).f0) x2_1).bind fun t5 => (if t5 = 0 then (if x2_6.length < 5864062014805 then (spec_SplitByHashBit.l0 k x2_1 (x2_6 ++ ([(⟨(rd_T77 l0 x2_8).f0, (rd_T77 l0 x2_8).f1, (rd_T77 l0 x2_8).f2⟩ : S77)] : List S77)) x2_7 (wrap64 (x2_8 + 1)) l0) else none) else (if x2_7.length < 5864062014805 then (spec_SplitByHashBit.l0 k x2_1 x2_6 (x2_7 ++ ([(⟨(rd_T77 l0 x2_8).f0, (rd_T77 l0 x2_8).f1, (rd_T77 l0 x2_8).f2⟩ : S77)] : List S77)) (wrap64 (x2_8 + 1)) l0) else none))) else none) else (some (x2_6, x2_7))
def spec_SplitByHashBit.f (k : Nat) (l0 : List S77) (a1 : Int) : Option ((List S77) × (List S77)) := spec_SplitByHashBit.l0 k a1 [] [] 0 l0
set_option maxHeartbeats 4000000 in
set_option maxRecDepth 100000 in
theorem spec_SplitByHashBit.ok (k : Nat) (l0 : List S77) (Al0 : Option Addr) (cl0 : Nat) (a1 : Int) (r0 : List S77) (r1 : List S77) (H : spec_SplitByHashBit.f k l0 a1 = some (r0, r1)) : Fn Try.prog 101 [.slice Al0 l0.length cl0, .int .i64 a1] [] [.sl 0 k77 Al0 cl0 l0 0 false] (fun v bx en => ∃ A0 c0 A1 c1, v = .tuple #[.slice A0 r0.length c0, .slice A1 r1.length c1] ∧ bx = [] ∧ en = [.sl 2 k77 A0 c0 r0 1 true, .sl 2 k77 A1 c1 r1 2 true]) := by
 refine fn_ 41 Try.func101 rfl rfl rfl (fun base T w0 => ?_)
 rw [spec_SplitByHashBit.f] at H
 refine gs (rg (sv (EV.as rfl) rfl (sv (EV.as rfl) rfl (re (gs (rg (so rfl (op_lit (s := 3) (by_ := 24) k77 ([] : List S77) [] [] 1 [] rfl rfl rfl rfl rfl rfl rfl rfl rfl rfl rfl rfl rfl dq rfl fun A9_1 c9_1 => (sv (EV.as rfl) rfl (re (gs (rg (so rfl (op_lit (s := 3) (by_ := 24) k77 ([] : List S77) [] [] 2 [] rfl rfl rfl rfl rfl rfl rfl rfl rfl rfl rfl rfl rfl dq rfl fun A10_2 c10_2 => (sv (EV.as rfl) rfl (re (gs (gs (rg (sv (EV.as rfl) rfl (re (gb ?_))))))))))))))))))))))
 refine lo (fun kk S => ∃ (x2_1 : Int) (x2_6 : List S77) (Ax2_6 : Option Addr) (cx2_6 : Nat) (x2_7 : List S77) (Ax2_7 : Option Addr) (cx2_7 : Nat) (x2_8 : Int), spec_SplitByHashBit.l0 kk x2_1 x2_6 x2_7 x2_8 l0 = some (r0, r1) ∧ S = ⟨[(0, .slice Al0 l0.length cl0), (1, .int .i64 x2_1), (6, .slice Ax2_6 x2_6.length cx2_6), (7, .slice Ax2_7 x2_7.length cx2_7), (8, .int .i64 x2_8)], [], [.sl 2 k77 Ax2_6 cx2_6 x2_6 1 true, .sl 2 k77 Ax2_7 cx2_7 x2_7 2 true, .sl 0 k77 Al0 cl0 l0 0 false]⟩) (fun S hS => ?_) (fun n0 ih0 S hS => ?_) ⟨a1, [], A9_1, c9_1, [], A10_2, c10_2, 0, H, rfl⟩ (fun h => wk [0, 1, 6, 7, 8] [] [⟨1, 2, 1, true⟩, ⟨2, 2, 2, true⟩, ⟨0, 0, 0, false⟩] h)
 · clear H; obtain ⟨_, _, _, _, _, _, _, _, H, _⟩ := hS; rw [spec_SplitByHashBit.l0] at H; cases H
 clear H
 obtain ⟨x2_1, x2_6, Ax2_6, cx2_6, x2_7, Ax2_7, cx2_7, x2_8, H, rfl⟩ := hS
 rw [spec_SplitByHashBit.l0] at H
 refine gs (gs (rg (sv (EV.mv rfl) rfl (sv (EV.mv rfl) rfl (sv (EV.ln rfl) rfl (sv (EV.lss rfl rfl) rfl (re ?_)))))))
 revert H; refine ifsI ?_ ?_ <;> intro c3 H
 ·
  refine gt rfl (dT c3) (gk (gs (gb (gs (rg (sv (EV.mv rfl) rfl (sv (EV.mv rfl) rfl ?_)))))))
  revert H; refine ggI ?_; intro g4 H
  refine sv (EV.ix 2 rfl rfl rfl g4 c3 rfl) rfl (sv (EV.fa 0 rfl) rfl (sv (EV.le (v := .int .i64 ((rd_T77 l0 x2_8).f0)) x2_8 0 none 2 z77 rfl rfl rfl g4 c3 rfl rfl rfl) rfl (sv (EV.mv rfl) rfl ?_)))
  revert H; refine bdI ?_; rintro t5 A5 H
  refine so rfl (op_call (spec_HashBit.ok ((rd_T77 l0 x2_8).f0) x2_1 _ A5) [] 3 rfl rfl rfl rfl rfl ?_)
  rintro _ _ _ ⟨rfl, rfl, rfl⟩
  refine sv (EV.eql rfl rfl) rfl (re (pr [0, 1, 6, 7, 8, 24] [] [0, 1, 2] rfl rfl rfl rfl ?_))
  revert H; refine ifsI ?_ ?_ <;> intro c6 H
  ·
   refine gt rfl (dT c6) (rg (sv (EV.mv rfl) rfl (sv (EV.mv rfl) rfl (sv (EV.mv rfl) rfl (sv (EV.ix 2 rfl rfl rfl g4 c3 rfl) rfl (sv (EV.le (v := .agg #[.int .i64 ((rd_T77 l0 x2_8).f0), .int .i64 ((rd_T77 l0 x2_8).f1), .int .i64 ((rd_T77 l0 x2_8).f2)]) x2_8 0 (some 3) 2 z77 rfl rfl rfl g4 c3 rfl rfl rfl) rfl (so rfl (op_lit (s := 3) (by_ := 24) k77 ([(⟨(rd_T77 l0 x2_8).f0, (rd_T77 l0 x2_8).f1, (rd_T77 l0 x2_8).f2⟩ : S77)] : List S77) [[]] [] 3 [.tmp 29] rfl rfl rfl rfl rfl rfl rfl rfl rfl rfl rfl rfl rfl dq rfl fun A30_7 c30_7 => ?_))))))))
   revert H; refine ggI ?_; intro g8 H
   exact so rfl (op_app (k := k77) (s := 3) (by_ := 24) 0 3 rfl rfl rfl rfl (ap1 g8 dq) (ap1n g8 dq) (.inl rfl) true (fun _ => .inl rfl) rfl rfl fun A31_9 c31_9 => (nmE (en := [.sl 2 k77 Ax2_7 cx2_7 x2_7 2 true, .sl 0 k77 Al0 cl0 l0 0 false, .sl 2 k77 A30_7 c30_7 ([(⟨(rd_T77 l0 x2_8).f0, (rd_T77 l0 x2_8).f1, (rd_T77 l0 x2_8).f2⟩ : S77)] : List S77) 3 true, .sl 2 k77 A31_9 c31_9 (x2_6 ++ ([(⟨(rd_T77 l0 x2_8).f0, (rd_T77 l0 x2_8).f1, (rd_T77 l0 x2_8).f2⟩ : S77)] : List S77)) 1 true]) (by kernel_rfl) (sv (EV.as rfl) rfl (re (pr [0, 1, 6, 7, 8] [] [0, 1, 3] rfl rfl rfl rfl (ge (rg (sv (EV.mv rfl) rfl (sv (EV.add rfl rfl) rfl (sv (EV.as rfl) rfl (re (wk [0, 1, 6, 7, 8] [] [⟨2, 2, 1, true⟩, ⟨0, 2, 2, true⟩, ⟨1, 0, 0, false⟩] (ih0 _ (by omega) _ ⟨x2_1, x2_6 ++ ([(⟨(rd_T77 l0 x2_8).f0, (rd_T77 l0 x2_8).f1, (rd_T77 l0 x2_8).f2⟩ : S77)] : List S77), A31_9, c31_9, x2_7, Ax2_7, cx2_7, wrap64 (x2_8 + 1), H, rfl⟩)))))))))))))
  ·
   refine gf rfl (dF c6) (rg (sv (EV.mv rfl) rfl (sv (EV.mv rfl) rfl (sv (EV.mv rfl) rfl (sv (EV.ix 2 rfl rfl rfl g4 c3 rfl) rfl (sv (EV.le (v := .agg #[.int .i64 ((rd_T77 l0 x2_8).f0), .int .i64 ((rd_T77 l0 x2_8).f1), .int .i64 ((rd_T77 l0 x2_8).f2)]) x2_8 0 (some 3) 2 z77 rfl rfl rfl g4 c3 rfl rfl rfl) rfl (so rfl (op_lit (s := 3) (by_ := 24) k77 ([(⟨(rd_T77 l0 x2_8).f0, (rd_T77 l0 x2_8).f1, (rd_T77 l0 x2_8).f2⟩ : S77)] : List S77) [[]] [] 3 [.tmp 36] rfl rfl rfl rfl rfl rfl rfl rfl rfl rfl rfl rfl rfl dq rfl fun A37_10 c37_10 => ?_))))))))
   revert H; refine ggI ?_; intro g11 H
   exact so rfl (op_app (k := k77) (s := 3) (by_ := 24) 1 3 rfl rfl rfl rfl (ap1 g11 dq) (ap1n g11 dq) (.inl rfl) true (fun _ => .inl rfl) rfl rfl fun A38_12 c38_12 => (nmE (en := [.sl 2 k77 Ax2_6 cx2_6 x2_6 1 true, .sl 0 k77 Al0 cl0 l0 0 false, .sl 2 k77 A37_10 c37_10 ([(⟨(rd_T77 l0 x2_8).f0, (rd_T77 l0 x2_8).f1, (rd_T77 l0 x2_8).f2⟩ : S77)] : List S77) 3 true, .sl 2 k77 A38_12 c38_12 (x2_7 ++ ([(⟨(rd_T77 l0 x2_8).f0, (rd_T77 l0 x2_8).f1, (rd_T77 l0 x2_8).f2⟩ : S77)] : List S77)) 2 true]) (by kernel_rfl) (sv (EV.as rfl) rfl (re (pr [0, 1, 6, 7, 8] [] [0, 1, 3] rfl rfl rfl rfl (ge (rg (sv (EV.mv rfl) rfl (sv (EV.add rfl rfl) rfl (sv (EV.as rfl) rfl (re (wk [0, 1, 6, 7, 8] [] [⟨0, 2, 1, true⟩, ⟨2, 2, 2, true⟩, ⟨1, 0, 0, false⟩] (ih0 _ (by omega) _ ⟨x2_1, x2_6, Ax2_6, cx2_6, x2_7 ++ ([(⟨(rd_T77 l0 x2_8).f0, (rd_T77 l0 x2_8).f1, (rd_T77 l0 x2_8).f2⟩ : S77)] : List S77), A38_12, c38_12, wrap64 (x2_8 + 1), H, rfl⟩)))))))))))))
 ·
  refine gf rfl (dF c3) (gx rfl (gs (rg (sv (EV.mv rfl) rfl (sv (EV.mv rfl) rfl (sv (EV.as rfl) rfl (sv (EV.as rfl) rfl (re (pr [4, 5] [] [0, 1] rfl rfl rfl rfl ?_)))))))))
  cases H
  exact rt Try.func101 rfl (.tmp rfl (.tmp rfl .nil)) rfl [] [⟨0, 2, 1, true⟩, ⟨1, 2, 2, true⟩] rfl rfl rfl rfl rfl ⟨_, _, _, _, rfl, rfl, rfl⟩
end Go.Proofs.Ytfcebaplphpajaa.K
namespace Go.Proofs.Ytfcebaplphpajaa.K
open Go Go.RowKit
set_option linter.unusedVariables false
set_option linter.unusedSimpArgs false
def spec_PartitionTask.l0 : Nat → Int → Int → Int → Int → (List S77) → (List S77) → (List Bool) → Int → Int → (List S77) → (List S77) → (List Bool) → Int → Int → (List S77) → (List S77) → (List Bool) → Int → Int → (List S77) → (List S77) → (List Bool) → Int → (List S77) → (List S77) → (List Bool) → Option (Int × (List S77) × (List S77) × (List Bool) × Int × Int × (List S77) × (List S77) × (List Bool) × Int × Bool)
 | 0, _, _, _, _, _, _, _, _, _, _, _, _, _, _, _, _, _, _, _, _, _, _, _, _, _, _ => none
 | k + 1, x2_7, x2_1_0, x2_1_4, x2_2_0, x2_2_1, x2_2_2, x2_2_3, x2_2_4, x2_3_0, x2_3_1, x2_3_2, x2_3_3, x2_3_4, x2_5_0, x2_5_1, x2_5_2, x2_5_3, x2_5_4, x2_6_0, x2_6_1, x2_6_2, x2_6_3, x2_6_4, l0_1, l0_2, l0_3 => if x2_7 < (l0_1.length : Int) then (if 0 ≤ x2_7 then ((spec_HashBit.f ((rd_T77 l0_1 x2_7).f0) x2_1_4).bind fun t7 => (if t7 = 0 then (if x2_5_1.length < 5864062014805 then (if x2_7 < (l0_3.length : Int) then (if x2_5_3.length < 140737488355328 then (spec_PartitionTask.l0 k (wrap64 (x2_7 + 1)) x2_1_0 x2_1_4 x2_2_0 x2_2_1 x2_2_2 x2_2_3 x2_2_4 x2_3_0 x2_3_1 x2_3_2 x2_3_3 x2_3_4 x2_5_0 (x2_5_1 ++ ([(⟨(rd_T77 l0_1 x2_7).f0, (rd_T77 l0_1 x2_7).f1, (rd_T77 l0_1 x2_7).f2⟩ : S77)] : List S77)) x2_5_2 (x2_5_3 ++ ([rdOf false l0_3 x2_7] : List Bool)) x2_5_4 x2_6_0 x2_6_1 x2_6_2 x2_6_3 x2_6_4 l0_1 l0_2 l0_3) else none) else none) else none) else (if x2_6_1.length < 5864062014805 then (if x2_7 < (l0_3.length : Int) then (if x2_6_3.length < 140737488355328 then (spec_PartitionTask.l0 k (wrap64 (x2_7 + 1)) x2_1_0 x2_1_4 x2_2_0 x2_2_1 x2_2_2 x2_2_3 x2_2_4 x2_3_0 x2_3_1 x2_3_2 x2_3_3 x2_3_4 x2_5_0 x2_5_1 x2_5_2 x2_5_3 x2_5_4 x2_6_0 (x2_6_1 ++ ([(⟨(rd_T77 l0_1 x2_7).f0, (rd_T77 l0_1 x2_7).f1, (rd_T77 l0_1 x2_7).f2⟩ : S77)] : List S77)) x2_6_2 (x2_6_3 ++ ([rdOf false l0_3 x2_7] : List Bool)) x2_6_4 l0_1 l0_2 l0_3) else none) else none) else none))) else none) else (some (x2_5_0, x2_5_1, x2_5_2, x2_5_3, x2_5_4, x2_6_0, x2_6_1, x2_6_2, x2_6_3, x2_6_4, true))
def spec_PartitionTask.f (k : Nat) (a0_0 : Int) (l0_1 : List S77) (l0_2 : List S77) (l0_3 : List Bool) (a0_4 : Int) : Option (Int × (List S77) × (List S77) × (List Bool) × Int × Int × (List S77) × (List S77) × (List Bool) × Int × Bool) := (spec_IsValidTask.f k a0_0 l0_1 l0_2 l0_3 a0_4).bind fun t1 => (if t1 = true then (if a0_4 = 4 then (some (0, [], [], [], 0, 0, [], [], [], 0, false)) else ((spec_SplitByHashBit.f k l0_2 a0_4).bind fun bt4 => (spec_PartitionTask.l0 k 0 a0_0 a0_4 0 [] [] [] 0 0 [] [] [] 0 a0_0 [] bt4.1 [] (wrap64 (a0_4 + 1)) a0_0 [] bt4.2 [] (wrap64 (a0_4 + 1)) l0_1 l0_2 l0_3))) else (some (0, [], [], [], 0, 0, [], [], [], 0, false)))
set_option maxHeartbeats 4000000 in
set_option maxRecDepth 100000 in
theorem spec_PartitionTask.ok (k : Nat) (a0_0 : Int) (l0_1 : List S77) (Al0_1 : Option Addr) (cl0_1 : Nat) (l0_2 : List S77) (Al0_2 : Option Addr) (cl0_2 : Nat) (l0_3 : List Bool) (Al0_3 : Option Addr) (cl0_3 : Nat) (a0_4 : Int) (r0 : Int) (r1 : List S77) (r2 : List S77) (r3 : List Bool) (r4 : Int) (r5 : Int) (r6 : List S77) (r7 : List S77) (r8 : List Bool) (r9 : Int) (r10 : Bool) (H : spec_PartitionTask.f k a0_0 l0_1 l0_2 l0_3 a0_4 = some (r0, r1, r2, r3, r4, r5, r6, r7, r8, r9, r10)) : Fn Try.prog 69 [.agg #[.int .i64 a0_0, .slice Al0_1 l0_1.length cl0_1, .slice Al0_2 l0_2.length cl0_2, .slice Al0_3 l0_3.length cl0_3, .int .i64 a0_4]] [] [.sl 0 k77 Al0_1 cl0_1 l0_1 0 false, .sl 0 k77 Al0_2 cl0_2 l0_2 0 false, .sl 0 .bool Al0_3 cl0_3 l0_3 0 false] (fun v bx en => ∃ A1 c1 A2 c2 A3 c3 A6 c6 A7 c7 A8 c8, v = .tuple #[.agg #[.int .i64 r0, .slice A1 r1.length c1, .slice A2 r2.length c2, .slice A3 r3.length c3, .int .i64 r4], .agg #[.int .i64 r5, .slice A6 r6.length c6, .slice A7 r7.length c7, .slice A8 r8.length c8, .int .i64 r9], .bool r10] ∧ bx = [] ∧ en = [.sl 2 k77 A1 c1 r1 1 true, .sl 2 k77 A2 c2 r2 2 true, .sl 2 .bool A3 c3 r3 3 true, .sl 2 k77 A6 c6 r6 4 true, .sl 2 k77 A7 c7 r7 5 true, .sl 2 .bool A8 c8 r8 6 true]) := by
 refine fn_ 99 Try.func69 rfl rfl rfl (fun base T w0 => ?_)
 rw [spec_PartitionTask.f] at H
 refine gs (rg (so rfl (op_box (cs := [.int .i64 a0_0, .slice Al0_1 l0_1.length cl0_1, .slice Al0_2 l0_2.length cl0_2, .slice Al0_3 l0_3.length cl0_3, .int .i64 a0_4]) rfl rfl rfl fun b1 => (so rfl (op_alloc (cs := [.int .i64 0, .slice none 0 0, .slice none 0 0, .slice none 0 0, .int .i64 0]) (by kernel_rfl) rfl fun b2 => (so rfl (op_alloc (cs := [.int .i64 0, .slice none 0 0, .slice none 0 0, .slice none 0 0, .int .i64 0]) (by kernel_rfl) rfl fun b3 => (sv (EV.as rfl) rfl (re (gs (gs (rg (sv (EV.ld (v := .agg #[.int .i64 a0_0, .slice Al0_1 l0_1.length cl0_1, .slice Al0_2 l0_2.length cl0_2, .slice Al0_3 l0_3.length cl0_3, .int .i64 a0_4]) 0 (some 5) rfl rfl rfl) rfl ?_)))))))))))))
 revert H; refine bdI ?_; rintro t1 A1 H
 refine so rfl (op_call (spec_IsValidTask.ok k a0_0 l0_1 Al0_1 cl0_1 l0_2 Al0_2 cl0_2 l0_3 Al0_3 cl0_3 a0_4 _ A1) [⟨0, 0, 0, false⟩, ⟨1, 0, 0, false⟩, ⟨2, 0, 0, false⟩] 1 rfl rfl rfl rfl rfl ?_)
 rintro _ _ _ ⟨rfl, rfl, rfl⟩
 refine sv (EV.nt rfl) rfl (sv (EV.mv rfl) rfl ?_)
 revert H; refine ifsI ?_ ?_ <;> intro c2 H
 ·
  subst c2
  refine ts 11 rfl rfl (sv (EV.fa 4 rfl) rfl (sv (EV.ld 0 none rfl rfl rfl) rfl (sv (EV.eql rfl rfl) rfl (sv (EV.pf rfl rfl rfl) rfl (re (pr [1, 2, 3, 15] [0, 1, 2] [0, 1, 2] rfl rfl rfl rfl ?_))))))
  revert H; refine ifsI ?_ ?_ <;> intro c3 H
  ·
   refine gt rfl (dT c3) (gs (rg (sv (EV.bd (v := .agg #[.int .i64 0, .slice none 0 0, .slice none 0 0, .slice none 0 0, .int .i64 0]) rfl (by kernel_rfl)) rfl (sv (EV.bd (v := .agg #[.int .i64 0, .slice none 0 0, .slice none 0 0, .slice none 0 0, .int .i64 0]) rfl (by kernel_rfl)) rfl (so rfl (op_st (cs' := [.int .i64 0, .slice none 0 0, .slice none 0 0, .slice none 0 0, .int .i64 0]) 1 rfl rfl rfl rfl rfl rfl (so rfl (op_st (cs' := [.int .i64 0, .slice none 0 0, .slice none 0 0, .slice none 0 0, .int .i64 0]) 2 rfl rfl rfl rfl rfl rfl (sv (EV.as rfl) rfl (re (nil_ k77 1 dq (nil_ k77 2 dq (nil_ .bool 3 dq (nil_ k77 4 dq (nil_ k77 5 dq (nil_ .bool 6 dq ?_))))))))))))))))
   cases H
   exact rt Try.func69 rfl (.cell 1 (some 5) rfl rfl rfl (.cell 2 (some 5) rfl rfl rfl (.tmp rfl .nil))) rfl [] [⟨3, 2, 1, true⟩, ⟨4, 2, 2, true⟩, ⟨5, 2, 3, true⟩, ⟨6, 2, 4, true⟩, ⟨7, 2, 5, true⟩, ⟨8, 2, 6, true⟩] rfl rfl rfl rfl rfl ⟨_, _, _, _, _, _, _, _, _, _, _, _, rfl, rfl, rfl⟩
  ·
   refine gf rfl (dF c3) (gk (gs (rg (sv (EV.fa 0 rfl) rfl (sv (EV.ld 0 none rfl rfl rfl) rfl (sv (EV.fa 4 rfl) rfl (sv (EV.ld 0 none rfl rfl rfl) rfl (sv (EV.add rfl rfl) rfl (sv (EV.bd (v := .agg #[.int .i64 a0_0, .slice none 0 0, .slice none 0 0, .slice none 0 0, .int .i64 (wrap64 (a0_4 + 1))]) rfl (by kernel_rfl)) rfl (so rfl (op_alloc (cs := [.int .i64 0, .slice none 0 0, .slice none 0 0, .slice none 0 0, .int .i64 0]) (by kernel_rfl) rfl fun b5 => (so rfl (op_st (cs' := [.int .i64 a0_0, .slice none 0 0, .slice none 0 0, .slice none 0 0, .int .i64 (wrap64 (a0_4 + 1))]) 3 rfl rfl rfl rfl rfl rfl (re (pr [1, 2, 3, 5] [0, 1, 2, 3] [0, 1, 2] rfl rfl rfl rfl (gs (rg (sv (EV.fa 0 rfl) rfl (sv (EV.ld 0 none rfl rfl rfl) rfl (sv (EV.fa 4 rfl) rfl (sv (EV.ld 0 none rfl rfl rfl) rfl (sv (EV.add rfl rfl) rfl (sv (EV.bd (v := .agg #[.int .i64 a0_0, .slice none 0 0, .slice none 0 0, .slice none 0 0, .int .i64 (wrap64 (a0_4 + 1))]) rfl (by kernel_rfl)) rfl (so rfl (op_alloc (cs := [.int .i64 0, .slice none 0 0, .slice none 0 0, .slice none 0 0, .int .i64 0]) (by kernel_rfl) rfl fun b6 => (so rfl (op_st (cs' := [.int .i64 a0_0, .slice none 0 0, .slice none 0 0, .slice none 0 0, .int .i64 (wrap64 (a0_4 + 1))]) 4 rfl rfl rfl rfl rfl rfl (re (pr [1, 2, 3, 5, 6] [0, 1, 2, 3, 4] [0, 1, 2] rfl rfl rfl rfl ?_)))))))))))))))))))))))))))))
   refine gs (rg (sv (EV.fa 2 rfl) rfl (sv (EV.ld 0 none rfl rfl rfl) rfl (sv (EV.fa 4 rfl) rfl (sv (EV.ld 0 none rfl rfl rfl) rfl ?_)))))
   revert H; refine bdI ?_; rintro ⟨t4_0, t4_1⟩ A4 H
   refine so rfl (op_call (spec_SplitByHashBit.ok k l0_2 Al0_2 cl0_2 a0_4 _ _ A4) [⟨1, 0, 0, false⟩] 1 rfl rfl rfl rfl rfl ?_)
   rintro _ _ _ ⟨At4_0, ct4_0, At4_1, ct4_1, rfl, rfl, rfl⟩
   refine sv (EV.mv rfl) rfl (sv (EV.ex rfl rfl) rfl (sv (EV.ex rfl rfl) rfl (sv (EV.fa 2 rfl) rfl (so rfl (op_st (cs' := [.int .i64 a0_0, .slice none 0 0, .slice At4_0 t4_0.length ct4_0, .slice none 0 0, .int .i64 (wrap64 (a0_4 + 1))]) 3 rfl rfl rfl rfl rfl rfl (sv (EV.fa 2 rfl) rfl (so rfl (op_st (cs' := [.int .i64 a0_0, .slice none 0 0, .slice At4_1 t4_1.length ct4_1, .slice none 0 0, .int .i64 (wrap64 (a0_4 + 1))]) 4 rfl rfl rfl rfl rfl rfl (re (pr [1, 2, 3, 5, 6] [0, 1, 2, 3, 4] [0, 1, 2, 3, 4] rfl rfl rfl rfl (gs (gs (rg (sv (EV.as rfl) rfl (re (gb (nil_ k77 4 dq (nil_ k77 5 dq (nil_ .bool 6 dq (nil_ k77 7 dq (nil_ k77 8 dq (nil_ .bool 9 dq (nil_ k77 10 dq (nil_ .bool 11 dq (nil_ k77 12 dq (nil_ .bool 13 dq ?_))))))))))))))))))))))))))
   refine lo (fun kk S => ∃ (x2_7 : Int) (x2_1_0 : Int) (x2_1_4 : Int) (x2_2_0 : Int) (x2_2_1 : List S77) (Ax2_2_1 : Option Addr) (cx2_2_1 : Nat) (x2_2_2 : List S77) (Ax2_2_2 : Option Addr) (cx2_2_2 : Nat) (x2_2_3 : List Bool) (Ax2_2_3 : Option Addr) (cx2_2_3 : Nat) (x2_2_4 : Int) (x2_3_0 : Int) (x2_3_1 : List S77) (Ax2_3_1 : Option Addr) (cx2_3_1 : Nat) (x2_3_2 : List S77) (Ax2_3_2 : Option Addr) (cx2_3_2 : Nat) (x2_3_3 : List Bool) (Ax2_3_3 : Option Addr) (cx2_3_3 : Nat) (x2_3_4 : Int) (x2_5_0 : Int) (x2_5_1 : List S77) (Ax2_5_1 : Option Addr) (cx2_5_1 : Nat) (x2_5_2 : List S77) (Ax2_5_2 : Option Addr) (cx2_5_2 : Nat) (x2_5_3 : List Bool) (Ax2_5_3 : Option Addr) (cx2_5_3 : Nat) (x2_5_4 : Int) (x2_6_0 : Int) (x2_6_1 : List S77) (Ax2_6_1 : Option Addr) (cx2_6_1 : Nat) (x2_6_2 : List S77) (Ax2_6_2 : Option Addr) (cx2_6_2 : Nat) (x2_6_3 : List Bool) (Ax2_6_3 : Option Addr) (cx2_6_3 : Nat) (x2_6_4 : Int), spec_PartitionTask.l0 kk x2_7 x2_1_0 x2_1_4 x2_2_0 x2_2_1 x2_2_2 x2_2_3 x2_2_4 x2_3_0 x2_3_1 x2_3_2 x2_3_3 x2_3_4 x2_5_0 x2_5_1 x2_5_2 x2_5_3 x2_5_4 x2_6_0 x2_6_1 x2_6_2 x2_6_3 x2_6_4 l0_1 l0_2 l0_3 = some (r0, r1, r2, r3, r4, r5, r6, r7, r8, r9, r10) ∧ S = ⟨[(1, .pointer (some ⟨b1, 0, none⟩)), (2, .pointer (some ⟨b2, 0, none⟩)), (3, .pointer (some ⟨b3, 0, none⟩)), (5, .pointer (some ⟨b5, 0, none⟩)), (6, .pointer (some ⟨b6, 0, none⟩)), (7, .int .i64 x2_7)], [⟨b1, 68, [.int .i64 x2_1_0, .slice Al0_1 l0_1.length cl0_1, .slice Al0_2 l0_2.length cl0_2, .slice Al0_3 l0_3.length cl0_3, .int .i64 x2_1_4]⟩, ⟨b2, 68, [.int .i64 x2_2_0, .slice Ax2_2_1 x2_2_1.length cx2_2_1, .slice Ax2_2_2 x2_2_2.length cx2_2_2, .slice Ax2_2_3 x2_2_3.length cx2_2_3, .int .i64 x2_2_4]⟩, ⟨b3, 68, [.int .i64 x2_3_0, .slice Ax2_3_1 x2_3_1.length cx2_3_1, .slice Ax2_3_2 x2_3_2.length cx2_3_2, .slice Ax2_3_3 x2_3_3.length cx2_3_3, .int .i64 x2_3_4]⟩, ⟨b5, 68, [.int .i64 x2_5_0, .slice Ax2_5_1 x2_5_1.length cx2_5_1, .slice Ax2_5_2 x2_5_2.length cx2_5_2, .slice Ax2_5_3 x2_5_3.length cx2_5_3, .int .i64 x2_5_4]⟩, ⟨b6, 68, [.int .i64 x2_6_0, .slice Ax2_6_1 x2_6_1.length cx2_6_1, .slice Ax2_6_2 x2_6_2.length cx2_6_2, .slice Ax2_6_3 x2_6_3.length cx2_6_3, .int .i64 x2_6_4]⟩], [.sl 2 k77 Ax2_2_1 cx2_2_1 x2_2_1 1 true, .sl 2 k77 Ax2_2_2 cx2_2_2 x2_2_2 2 true, .sl 2 .bool Ax2_2_3 cx2_2_3 x2_2_3 3 true, .sl 2 k77 Ax2_3_1 cx2_3_1 x2_3_1 4 true, .sl 2 k77 Ax2_3_2 cx2_3_2 x2_3_2 5 true, .sl 2 .bool Ax2_3_3 cx2_3_3 x2_3_3 6 true, .sl 2 k77 Ax2_5_1 cx2_5_1 x2_5_1 7 true, .sl 2 k77 Ax2_5_2 cx2_5_2 x2_5_2 8 true, .sl 2 .bool Ax2_5_3 cx2_5_3 x2_5_3 9 true, .sl 2 k77 Ax2_6_1 cx2_6_1 x2_6_1 10 true, .sl 2 k77 Ax2_6_2 cx2_6_2 x2_6_2 11 true, .sl 2 .bool Ax2_6_3 cx2_6_3 x2_6_3 12 true, .sl 0 k77 Al0_1 cl0_1 l0_1 0 false, .sl 0 k77 Al0_2 cl0_2 l0_2 0 false, .sl 0 .bool Al0_3 cl0_3 l0_3 0 false]⟩) (fun S hS => ?_) (fun n0 ih0 S hS => ?_) ⟨0, a0_0, a0_4, 0, [], none, 0, [], none, 0, [], none, 0, 0, 0, [], none, 0, [], none, 0, [], none, 0, 0, a0_0, [], none, 0, t4_0, At4_0, ct4_0, [], none, 0, wrap64 (a0_4 + 1), a0_0, [], none, 0, t4_1, At4_1, ct4_1, [], none, 0, wrap64 (a0_4 + 1), H, rfl⟩ (fun h => wk [1, 2, 3, 5, 6, 7] [0, 1, 2, 3, 4] [⟨5, 2, 1, true⟩, ⟨6, 2, 2, true⟩, ⟨7, 2, 3, true⟩, ⟨8, 2, 4, true⟩, ⟨9, 2, 5, true⟩, ⟨10, 2, 6, true⟩, ⟨11, 2, 7, true⟩, ⟨3, 2, 8, true⟩, ⟨12, 2, 9, true⟩, ⟨13, 2, 10, true⟩, ⟨4, 2, 11, true⟩, ⟨14, 2, 12, true⟩, ⟨0, 0, 0, false⟩, ⟨1, 0, 0, false⟩, ⟨2, 0, 0, false⟩] h)
   · clear H; obtain ⟨_, _, _, _, _, _, _, _, _, _, _, _, _, _, _, _, _, _, _, _, _, _, _, _, _, _, _, _, _, _, _, _, _, _, _, _, _, _, _, _, _, _, _, _, _, _, _, H, _⟩ := hS; rw [spec_PartitionTask.l0] at H; cases H
   clear H
   obtain ⟨x2_7, x2_1_0, x2_1_4, x2_2_0, x2_2_1, Ax2_2_1, cx2_2_1, x2_2_2, Ax2_2_2, cx2_2_2, x2_2_3, Ax2_2_3, cx2_2_3, x2_2_4, x2_3_0, x2_3_1, Ax2_3_1, cx2_3_1, x2_3_2, Ax2_3_2, cx2_3_2, x2_3_3, Ax2_3_3, cx2_3_3, x2_3_4, x2_5_0, x2_5_1, Ax2_5_1, cx2_5_1, x2_5_2, Ax2_5_2, cx2_5_2, x2_5_3, Ax2_5_3, cx2_5_3, x2_5_4, x2_6_0, x2_6_1, Ax2_6_1, cx2_6_1, x2_6_2, Ax2_6_2, cx2_6_2, x2_6_3, Ax2_6_3, cx2_6_3, x2_6_4, H, rfl⟩ := hS
   rw [spec_PartitionTask.l0] at H
   refine gs (gs (rg (sv (EV.mv rfl) rfl (sv (EV.fa 1 rfl) rfl (sv (EV.ld 0 none rfl rfl rfl) rfl (sv (EV.ln rfl) rfl (sv (EV.lss rfl rfl) rfl (re ?_))))))))
   revert H; refine ifsI ?_ ?_ <;> intro c5 H
   ·
    refine gt rfl (dT c5) (gk (gs (gb (gs ?_))))
    revert H; refine ggI ?_; intro g6 H
    refine dr [0, 1, 2, 3, 4] [0, 1, 2, 3, 4, 5, 6, 7, 8, 9, 10, 11, 12, 13, 14] [] 10 rfl rfl rfl rfl (xv 0 [0, 1, 2, 3, 4] [0, 1, 2, 3, 4, 5, 6, 7, 8, 9, 10, 11, 12, 13, 14] rfl (EV.fa 1 rfl) rfl rfl rfl rfl (xv 1 [0, 1, 2, 3, 4] [0, 1, 2, 3, 4, 5, 6, 7, 8, 9, 10, 11, 12, 13, 14] rfl (EV.ld 0 none rfl rfl rfl) rfl rfl rfl rfl (xv 2 [0, 1, 2, 3, 4] [0, 1, 2, 3, 4, 5, 6, 7, 8, 9, 10, 11, 12, 13, 14] rfl (EV.mv rfl) rfl rfl rfl rfl (xv 3 [0, 1, 2, 3, 4] [0, 1, 2, 3, 4, 5, 6, 7, 8, 9, 10, 11, 12, 13, 14] rfl (EV.ix 12 rfl rfl rfl g6 c5 rfl) rfl rfl rfl rfl (xv 4 [0, 1, 2, 3, 4] [0, 1, 2, 3, 4, 5, 6, 7, 8, 9, 10, 11, 12, 13, 14] rfl (EV.fa 0 rfl) rfl rfl rfl rfl (xv 5 [0, 1, 2, 3, 4] [0, 1, 2, 3, 4, 5, 6, 7, 8, 9, 10, 11, 12, 13, 14] rfl (EV.le (v := .int .i64 ((rd_T77 l0_1 x2_7).f0)) x2_7 0 none 12 z77 rfl rfl rfl g6 c5 rfl rfl rfl) rfl rfl rfl rfl (xv 6 [0, 1, 2, 3, 4] [0, 1, 2, 3, 4, 5, 6, 7, 8, 9, 10, 11, 12, 13, 14] rfl (EV.fa 4 rfl) rfl rfl rfl rfl (xv 7 [0, 1, 2, 3, 4] [0, 1, 2, 3, 4, 5, 6, 7, 8, 9, 10, 11, 12, 13, 14] rfl (EV.ld 0 none rfl rfl rfl) rfl rfl rfl rfl (one1 8 rfl rfl ?_)))))))))
    revert H; refine bdI ?_; rintro t7 A7 H
    refine op_call (spec_HashBit.ok ((rd_T77 l0_1 x2_7).f0) x2_1_4 _ A7) [] 13 rfl rfl rfl rfl rfl ?_
    rintro _ _ _ ⟨rfl, rfl, rfl⟩
    refine xs [0, 1, 2, 3, 4] [0, 1, 2, 3, 4, 5, 6, 7, 8, 9, 10, 11, 12, 13, 14] rfl rfl rfl (xv 9 [0, 1, 2, 3, 4] [0, 1, 2, 3, 4, 5, 6, 7, 8, 9, 10, 11, 12, 13, 14] rfl (EV.eql rfl rfl) rfl rfl rfl rfl (xd (pr [1, 2, 3, 5, 6, 7, 56] [0, 1, 2, 3, 4] [0, 1, 2, 3, 4, 5, 6, 7, 8, 9, 10, 11, 12, 13, 14] rfl rfl rfl rfl ?_)))
    revert H; refine ifsI ?_ ?_ <;> intro c8 H
    ·
     refine gt rfl (dT c8) (gs ?_)
     revert H; refine ggI ?_; intro g9 H
     refine dr [0, 1, 2, 3, 4] [0, 1, 2, 3, 4, 5, 7, 8, 9, 10, 11, 12, 13, 14] [9, 10] 11 rfl rfl rfl rfl (xv 0 [0, 1, 2, 3, 4] [0, 1, 2, 3, 4, 5, 7, 8, 9, 10, 11, 12, 13, 14] rfl (EV.fa 1 rfl) rfl rfl rfl rfl (xv 1 [0, 1, 2, 3, 4] [0, 1, 2, 3, 4, 5, 7, 8, 9, 10, 11, 12, 13, 14] rfl (EV.ld 3 none rfl rfl rfl) rfl rfl rfl rfl (xv 2 [0, 1, 2, 3, 4] [0, 1, 2, 3, 4, 5, 7, 8, 9, 10, 11, 12, 13, 14] rfl (EV.fa 1 rfl) rfl rfl rfl rfl (xv 3 [0, 1, 2, 3, 4] [0, 1, 2, 3, 4, 5, 7, 8, 9, 10, 11, 12, 13, 14] rfl (EV.ld 0 none rfl rfl rfl) rfl rfl rfl rfl (xv 4 [0, 1, 2, 3, 4] [0, 1, 2, 3, 4, 5, 7, 8, 9, 10, 11, 12, 13, 14] rfl (EV.mv rfl) rfl rfl rfl rfl (xv 5 [0, 1, 2, 3, 4] [0, 1, 2, 3, 4, 5, 7, 8, 9, 10, 11, 12, 13, 14] rfl (EV.ix 11 rfl rfl rfl g6 c5 rfl) rfl rfl rfl rfl (xv 6 [0, 1, 2, 3, 4] [0, 1, 2, 3, 4, 5, 7, 8, 9, 10, 11, 12, 13, 14] rfl (EV.le (v := .agg #[.int .i64 ((rd_T77 l0_1 x2_7).f0), .int .i64 ((rd_T77 l0_1 x2_7).f1), .int .i64 ((rd_T77 l0_1 x2_7).f2)]) x2_7 0 (some 3) 11 z77 rfl rfl rfl g6 c5 rfl rfl rfl) rfl rfl rfl rfl (one1 7 rfl rfl (op_lit (s := 3) (by_ := 24) k77 ([(⟨(rd_T77 l0_1 x2_7).f0, (rd_T77 l0_1 x2_7).f1, (rd_T77 l0_1 x2_7).f2⟩ : S77)] : List S77) [[]] [] 13 [.tmp 63] rfl rfl rfl rfl rfl rfl rfl rfl rfl rfl rfl rfl rfl dq rfl fun A64_10 c64_10 => (xs [0, 1, 2, 3, 4] [0, 1, 2, 3, 4, 5, 7, 8, 9, 10, 11, 12, 13, 14] rfl rfl rfl (one1 8 rfl rfl (op_app (k := k77) (s := 3) (by_ := 24) 6 15 rfl rfl rfl rfl (ap1 g9 dq) (ap1n g9 dq) (.inl rfl) true (fun _ => .inl rfl) rfl rfl fun A65_11 c65_11 => (nmE (en := [.sl 2 k77 Ax2_2_1 cx2_2_1 x2_2_1 1 true, .sl 2 k77 Ax2_2_2 cx2_2_2 x2_2_2 2 true, .sl 2 .bool Ax2_2_3 cx2_2_3 x2_2_3 3 true, .sl 2 k77 Ax2_3_1 cx2_3_1 x2_3_1 4 true, .sl 2 k77 Ax2_3_2 cx2_3_2 x2_3_2 5 true, .sl 2 .bool Ax2_3_3 cx2_3_3 x2_3_3 6 true, .sl 2 k77 Ax2_5_2 cx2_5_2 x2_5_2 8 true, .sl 2 .bool Ax2_5_3 cx2_5_3 x2_5_3 9 true, .sl 2 k77 Ax2_6_1 cx2_6_1 x2_6_1 10 true, .sl 2 k77 Ax2_6_2 cx2_6_2 x2_6_2 11 true, .sl 2 .bool Ax2_6_3 cx2_6_3 x2_6_3 12 true, .sl 0 k77 Al0_1 cl0_1 l0_1 0 false, .sl 0 k77 Al0_2 cl0_2 l0_2 0 false, .sl 0 .bool Al0_3 cl0_3 l0_3 0 false, .sl 2 k77 A64_10 c64_10 ([(⟨(rd_T77 l0_1 x2_7).f0, (rd_T77 l0_1 x2_7).f1, (rd_T77 l0_1 x2_7).f2⟩ : S77)] : List S77) 13 true, .sl 2 k77 A65_11 c65_11 (x2_5_1 ++ ([(⟨(rd_T77 l0_1 x2_7).f0, (rd_T77 l0_1 x2_7).f1, (rd_T77 l0_1 x2_7).f2⟩ : S77)] : List S77)) 7 true]) (by kernel_rfl) (xs [0, 1, 2, 3, 4] [0, 1, 2, 3, 4, 5, 6, 7, 8, 9, 10, 11, 12, 13] rfl rfl rfl (one1 9 rfl rfl (ov (EV.fa 1 rfl) rfl (xn rfl (one1 10 rfl rfl (op_st (cs' := [.int .i64 x2_5_0, .slice A65_11 (x2_5_1 ++ ([(⟨(rd_T77 l0_1 x2_7).f0, (rd_T77 l0_1 x2_7).f1, (rd_T77 l0_1 x2_7).f2⟩ : S77)] : List S77)).length c65_11, .slice Ax2_5_2 x2_5_2.length cx2_5_2, .slice Ax2_5_3 x2_5_3.length cx2_5_3, .int .i64 x2_5_4]) 3 rfl rfl rfl rfl rfl rfl (xn rfl (xd (pr [1, 2, 3, 5, 6, 7] [0, 1, 2, 3, 4] [0, 1, 2, 3, 4, 5, 6, 7, 8, 9, 10, 11, 12, 13, 15] rfl rfl rfl rfl ?_))))))))))))))))))))))
     revert H; refine ggI ?_; intro g12 H
     revert H; refine ggI ?_; intro g13 H
     exact dr [0, 1, 2, 3, 4] [0, 1, 2, 3, 4, 5, 6, 8, 9, 10, 11, 12, 13, 14] [9, 10] 11 rfl rfl rfl rfl (xv 0 [0, 1, 2, 3, 4] [0, 1, 2, 3, 4, 5, 6, 8, 9, 10, 11, 12, 13, 14] rfl (EV.fa 3 rfl) rfl rfl rfl rfl (xv 1 [0, 1, 2, 3, 4] [0, 1, 2, 3, 4, 5, 6, 8, 9, 10, 11, 12, 13, 14] rfl (EV.ld 3 none rfl rfl rfl) rfl rfl rfl rfl (xv 2 [0, 1, 2, 3, 4] [0, 1, 2, 3, 4, 5, 6, 8, 9, 10, 11, 12, 13, 14] rfl (EV.fa 3 rfl) rfl rfl rfl rfl (xv 3 [0, 1, 2, 3, 4] [0, 1, 2, 3, 4, 5, 6, 8, 9, 10, 11, 12, 13, 14] rfl (EV.ld 0 none rfl rfl rfl) rfl rfl rfl rfl (xv 4 [0, 1, 2, 3, 4] [0, 1, 2, 3, 4, 5, 6, 8, 9, 10, 11, 12, 13, 14] rfl (EV.mv rfl) rfl rfl rfl rfl (xv 5 [0, 1, 2, 3, 4] [0, 1, 2, 3, 4, 5, 6, 8, 9, 10, 11, 12, 13, 14] rfl (EV.ix 12 rfl rfl rfl g6 g12 rfl) rfl rfl rfl rfl (xv 6 [0, 1, 2, 3, 4] [0, 1, 2, 3, 4, 5, 6, 8, 9, 10, 11, 12, 13, 14] rfl (EV.le (v := .bool (rdOf false l0_3 x2_7)) x2_7 0 none 12 false rfl rfl rfl g6 g12 rfl rfl rfl) rfl rfl rfl rfl (one1 7 rfl rfl (op_lit (s := 1) (by_ := 1) .bool ([rdOf false l0_3 x2_7] : List Bool) [[]] [] 13 [.tmp 73] rfl rfl rfl rfl rfl rfl rfl rfl rfl rfl rfl rfl rfl dq rfl fun A74_14 c74_14 => (xs [0, 1, 2, 3, 4] [0, 1, 2, 3, 4, 5, 6, 8, 9, 10, 11, 12, 13, 14] rfl rfl rfl (one1 8 rfl rfl (op_app (k := .bool) (s := 1) (by_ := 1) 7 15 rfl rfl rfl rfl (ap1 g13 dq) (ap1n g13 dq) (.inl rfl) true (fun _ => .inl rfl) rfl rfl fun A75_15 c75_15 => (nmE (en := [.sl 2 k77 Ax2_2_1 cx2_2_1 x2_2_1 1 true, .sl 2 k77 Ax2_2_2 cx2_2_2 x2_2_2 2 true, .sl 2 .bool Ax2_2_3 cx2_2_3 x2_2_3 3 true, .sl 2 k77 Ax2_3_1 cx2_3_1 x2_3_1 4 true, .sl 2 k77 Ax2_3_2 cx2_3_2 x2_3_2 5 true, .sl 2 .bool Ax2_3_3 cx2_3_3 x2_3_3 6 true, .sl 2 k77 Ax2_5_2 cx2_5_2 x2_5_2 8 true, .sl 2 k77 Ax2_6_1 cx2_6_1 x2_6_1 10 true, .sl 2 k77 Ax2_6_2 cx2_6_2 x2_6_2 11 true, .sl 2 .bool Ax2_6_3 cx2_6_3 x2_6_3 12 true, .sl 0 k77 Al0_1 cl0_1 l0_1 0 false, .sl 0 k77 Al0_2 cl0_2 l0_2 0 false, .sl 0 .bool Al0_3 cl0_3 l0_3 0 false, .sl 2 k77 A65_11 c65_11 (x2_5_1 ++ ([(⟨(rd_T77 l0_1 x2_7).f0, (rd_T77 l0_1 x2_7).f1, (rd_T77 l0_1 x2_7).f2⟩ : S77)] : List S77)) 7 true, .sl 2 .bool A74_14 c74_14 ([rdOf false l0_3 x2_7] : List Bool) 13 true, .sl 2 .bool A75_15 c75_15 (x2_5_3 ++ ([rdOf false l0_3 x2_7] : List Bool)) 9 true]) (by kernel_rfl) (xs [0, 1, 2, 3, 4] [0, 1, 2, 3, 4, 5, 6, 7, 8, 9, 10, 11, 12, 13] rfl rfl rfl (one1 9 rfl rfl (ov (EV.fa 3 rfl) rfl (xn rfl (one1 10 rfl rfl (op_st (cs' := [.int .i64 x2_5_0, .slice A65_11 (x2_5_1 ++ ([(⟨(rd_T77 l0_1 x2_7).f0, (rd_T77 l0_1 x2_7).f1, (rd_T77 l0_1 x2_7).f2⟩ : S77)] : List S77)).length c65_11, .slice Ax2_5_2 x2_5_2.length cx2_5_2, .slice A75_15 (x2_5_3 ++ ([rdOf false l0_3 x2_7] : List Bool)).length c75_15, .int .i64 x2_5_4]) 3 rfl rfl rfl rfl rfl rfl (xn rfl (xd (pr [1, 2, 3, 5, 6, 7] [0, 1, 2, 3, 4] [0, 1, 2, 3, 4, 5, 6, 7, 8, 9, 10, 11, 12, 13, 15] rfl rfl rfl rfl (ge (rg (sv (EV.mv rfl) rfl (sv (EV.add rfl rfl) rfl (sv (EV.as rfl) rfl (re (wk [1, 2, 3, 5, 6, 7] [0, 1, 2, 3, 4] [⟨0, 2, 1, true⟩, ⟨1, 2, 2, true⟩, ⟨2, 2, 3, true⟩, ⟨3, 2, 4, true⟩, ⟨4, 2, 5, true⟩, ⟨5, 2, 6, true⟩, ⟨13, 2, 7, true⟩, ⟨6, 2, 8, true⟩, ⟨14, 2, 9, true⟩, ⟨7, 2, 10, true⟩, ⟨8, 2, 11, true⟩, ⟨9, 2, 12, true⟩, ⟨10, 0, 0, false⟩, ⟨11, 0, 0, false⟩, ⟨12, 0, 0, false⟩] (ih0 _ (by omega) _ ⟨wrap64 (x2_7 + 1), x2_1_0, x2_1_4, x2_2_0, x2_2_1, Ax2_2_1, cx2_2_1, x2_2_2, Ax2_2_2, cx2_2_2, x2_2_3, Ax2_2_3, cx2_2_3, x2_2_4, x2_3_0, x2_3_1, Ax2_3_1, cx2_3_1, x2_3_2, Ax2_3_2, cx2_3_2, x2_3_3, Ax2_3_3, cx2_3_3, x2_3_4, x2_5_0, x2_5_1 ++ ([(⟨(rd_T77 l0_1 x2_7).f0, (rd_T77 l0_1 x2_7).f1, (rd_T77 l0_1 x2_7).f2⟩ : S77)] : List S77), A65_11, c65_11, x2_5_2, Ax2_5_2, cx2_5_2, x2_5_3 ++ ([rdOf false l0_3 x2_7] : List Bool), A75_15, c75_15, x2_5_4, x2_6_0, x2_6_1, Ax2_6_1, cx2_6_1, x2_6_2, Ax2_6_2, cx2_6_2, x2_6_3, Ax2_6_3, cx2_6_3, x2_6_4, H, rfl⟩))))))))))))))))))))))))))))))
    ·
     refine gf rfl (dF c8) (gs ?_)
     revert H; refine ggI ?_; intro g16 H
     refine dr [0, 1, 2, 3, 4] [0, 1, 2, 3, 4, 5, 6, 7, 8, 10, 11, 12, 13, 14] [9, 10] 11 rfl rfl rfl rfl (xv 0 [0, 1, 2, 3, 4] [0, 1, 2, 3, 4, 5, 6, 7, 8, 10, 11, 12, 13, 14] rfl (EV.fa 1 rfl) rfl rfl rfl rfl (xv 1 [0, 1, 2, 3, 4] [0, 1, 2, 3, 4, 5, 6, 7, 8, 10, 11, 12, 13, 14] rfl (EV.ld 4 none rfl rfl rfl) rfl rfl rfl rfl (xv 2 [0, 1, 2, 3, 4] [0, 1, 2, 3, 4, 5, 6, 7, 8, 10, 11, 12, 13, 14] rfl (EV.fa 1 rfl) rfl rfl rfl rfl (xv 3 [0, 1, 2, 3, 4] [0, 1, 2, 3, 4, 5, 6, 7, 8, 10, 11, 12, 13, 14] rfl (EV.ld 0 none rfl rfl rfl) rfl rfl rfl rfl (xv 4 [0, 1, 2, 3, 4] [0, 1, 2, 3, 4, 5, 6, 7, 8, 10, 11, 12, 13, 14] rfl (EV.mv rfl) rfl rfl rfl rfl (xv 5 [0, 1, 2, 3, 4] [0, 1, 2, 3, 4, 5, 6, 7, 8, 10, 11, 12, 13, 14] rfl (EV.ix 11 rfl rfl rfl g6 c5 rfl) rfl rfl rfl rfl (xv 6 [0, 1, 2, 3, 4] [0, 1, 2, 3, 4, 5, 6, 7, 8, 10, 11, 12, 13, 14] rfl (EV.le (v := .agg #[.int .i64 ((rd_T77 l0_1 x2_7).f0), .int .i64 ((rd_T77 l0_1 x2_7).f1), .int .i64 ((rd_T77 l0_1 x2_7).f2)]) x2_7 0 (some 3) 11 z77 rfl rfl rfl g6 c5 rfl rfl rfl) rfl rfl rfl rfl (one1 7 rfl rfl (op_lit (s := 3) (by_ := 24) k77 ([(⟨(rd_T77 l0_1 x2_7).f0, (rd_T77 l0_1 x2_7).f1, (rd_T77 l0_1 x2_7).f2⟩ : S77)] : List S77) [[]] [] 13 [.tmp 83] rfl rfl rfl rfl rfl rfl rfl rfl rfl rfl rfl rfl rfl dq rfl fun A84_17 c84_17 => (xs [0, 1, 2, 3, 4] [0, 1, 2, 3, 4, 5, 6, 7, 8, 10, 11, 12, 13, 14] rfl rfl rfl (one1 8 rfl rfl (op_app (k := k77) (s := 3) (by_ := 24) 9 15 rfl rfl rfl rfl (ap1 g16 dq) (ap1n g16 dq) (.inl rfl) true (fun _ => .inl rfl) rfl rfl fun A85_18 c85_18 => (nmE (en := [.sl 2 k77 Ax2_2_1 cx2_2_1 x2_2_1 1 true, .sl 2 k77 Ax2_2_2 cx2_2_2 x2_2_2 2 true, .sl 2 .bool Ax2_2_3 cx2_2_3 x2_2_3 3 true, .sl 2 k77 Ax2_3_1 cx2_3_1 x2_3_1 4 true, .sl 2 k77 Ax2_3_2 cx2_3_2 x2_3_2 5 true, .sl 2 .bool Ax2_3_3 cx2_3_3 x2_3_3 6 true, .sl 2 k77 Ax2_5_1 cx2_5_1 x2_5_1 7 true, .sl 2 k77 Ax2_5_2 cx2_5_2 x2_5_2 8 true, .sl 2 .bool Ax2_5_3 cx2_5_3 x2_5_3 9 true, .sl 2 k77 Ax2_6_2 cx2_6_2 x2_6_2 11 true, .sl 2 .bool Ax2_6_3 cx2_6_3 x2_6_3 12 true, .sl 0 k77 Al0_1 cl0_1 l0_1 0 false, .sl 0 k77 Al0_2 cl0_2 l0_2 0 false, .sl 0 .bool Al0_3 cl0_3 l0_3 0 false, .sl 2 k77 A84_17 c84_17 ([(⟨(rd_T77 l0_1 x2_7).f0, (rd_T77 l0_1 x2_7).f1, (rd_T77 l0_1 x2_7).f2⟩ : S77)] : List S77) 13 true, .sl 2 k77 A85_18 c85_18 (x2_6_1 ++ ([(⟨(rd_T77 l0_1 x2_7).f0, (rd_T77 l0_1 x2_7).f1, (rd_T77 l0_1 x2_7).f2⟩ : S77)] : List S77)) 10 true]) (by kernel_rfl) (xs [0, 1, 2, 3, 4] [0, 1, 2, 3, 4, 5, 6, 7, 8, 9, 10, 11, 12, 13] rfl rfl rfl (one1 9 rfl rfl (ov (EV.fa 1 rfl) rfl (xn rfl (one1 10 rfl rfl (op_st (cs' := [.int .i64 x2_6_0, .slice A85_18 (x2_6_1 ++ ([(⟨(rd_T77 l0_1 x2_7).f0, (rd_T77 l0_1 x2_7).f1, (rd_T77 l0_1 x2_7).f2⟩ : S77)] : List S77)).length c85_18, .slice Ax2_6_2 x2_6_2.length cx2_6_2, .slice Ax2_6_3 x2_6_3.length cx2_6_3, .int .i64 x2_6_4]) 4 rfl rfl rfl rfl rfl rfl (xn rfl (xd (pr [1, 2, 3, 5, 6, 7] [0, 1, 2, 3, 4] [0, 1, 2, 3, 4, 5, 6, 7, 8, 9, 10, 11, 12, 13, 15] rfl rfl rfl rfl ?_))))))))))))))))))))))
     revert H; refine ggI ?_; intro g19 H
     revert H; refine ggI ?_; intro g20 H
     exact dr [0, 1, 2, 3, 4] [0, 1, 2, 3, 4, 5, 6, 7, 8, 9, 11, 12, 13, 14] [9, 10] 11 rfl rfl rfl rfl (xv 0 [0, 1, 2, 3, 4] [0, 1, 2, 3, 4, 5, 6, 7, 8, 9, 11, 12, 13, 14] rfl (EV.fa 3 rfl) rfl rfl rfl rfl (xv 1 [0, 1, 2, 3, 4] [0, 1, 2, 3, 4, 5, 6, 7, 8, 9, 11, 12, 13, 14] rfl (EV.ld 4 none rfl rfl rfl) rfl rfl rfl rfl (xv 2 [0, 1, 2, 3, 4] [0, 1, 2, 3, 4, 5, 6, 7, 8, 9, 11, 12, 13, 14] rfl (EV.fa 3 rfl) rfl rfl rfl rfl (xv 3 [0, 1, 2, 3, 4] [0, 1, 2, 3, 4, 5, 6, 7, 8, 9, 11, 12, 13, 14] rfl (EV.ld 0 none rfl rfl rfl) rfl rfl rfl rfl (xv 4 [0, 1, 2, 3, 4] [0, 1, 2, 3, 4, 5, 6, 7, 8, 9, 11, 12, 13, 14] rfl (EV.mv rfl) rfl rfl rfl rfl (xv 5 [0, 1, 2, 3, 4] [0, 1, 2, 3, 4, 5, 6, 7, 8, 9, 11, 12, 13, 14] rfl (EV.ix 12 rfl rfl rfl g6 g19 rfl) rfl rfl rfl rfl (xv 6 [0, 1, 2, 3, 4] [0, 1, 2, 3, 4, 5, 6, 7, 8, 9, 11, 12, 13, 14] rfl (EV.le (v := .bool (rdOf false l0_3 x2_7)) x2_7 0 none 12 false rfl rfl rfl g6 g19 rfl rfl rfl) rfl rfl rfl rfl (one1 7 rfl rfl (op_lit (s := 1) (by_ := 1) .bool ([rdOf false l0_3 x2_7] : List Bool) [[]] [] 13 [.tmp 93] rfl rfl rfl rfl rfl rfl rfl rfl rfl rfl rfl rfl rfl dq rfl fun A94_21 c94_21 => (xs [0, 1, 2, 3, 4] [0, 1, 2, 3, 4, 5, 6, 7, 8, 9, 11, 12, 13, 14] rfl rfl rfl (one1 8 rfl rfl (op_app (k := .bool) (s := 1) (by_ := 1) 10 15 rfl rfl rfl rfl (ap1 g20 dq) (ap1n g20 dq) (.inl rfl) true (fun _ => .inl rfl) rfl rfl fun A95_22 c95_22 => (nmE (en := [.sl 2 k77 Ax2_2_1 cx2_2_1 x2_2_1 1 true, .sl 2 k77 Ax2_2_2 cx2_2_2 x2_2_2 2 true, .sl 2 .bool Ax2_2_3 cx2_2_3 x2_2_3 3 true, .sl 2 k77 Ax2_3_1 cx2_3_1 x2_3_1 4 true, .sl 2 k77 Ax2_3_2 cx2_3_2 x2_3_2 5 true, .sl 2 .bool Ax2_3_3 cx2_3_3 x2_3_3 6 true, .sl 2 k77 Ax2_5_1 cx2_5_1 x2_5_1 7 true, .sl 2 k77 Ax2_5_2 cx2_5_2 x2_5_2 8 true, .sl 2 .bool Ax2_5_3 cx2_5_3 x2_5_3 9 true, .sl 2 k77 Ax2_6_2 cx2_6_2 x2_6_2 11 true, .sl 0 k77 Al0_1 cl0_1 l0_1 0 false, .sl 0 k77 Al0_2 cl0_2 l0_2 0 false, .sl 0 .bool Al0_3 cl0_3 l0_3 0 false, .sl 2 k77 A85_18 c85_18 (x2_6_1 ++ ([(⟨(rd_T77 l0_1 x2_7).f0, (rd_T77 l0_1 x2_7).f1, (rd_T77 l0_1 x2_7).f2⟩ : S77)] : List S77)) 10 true, .sl 2 .bool A94_21 c94_21 ([rdOf false l0_3 x2_7] : List Bool) 13 true, .sl 2 .bool A95_22 c95_22 (x2_6_3 ++ ([rdOf false l0_3 x2_7] : List Bool)) 12 true]) (by kernel_rfl) (xs [0, 1, 2, 3, 4] [0, 1, 2, 3, 4, 5, 6, 7, 8, 9, 10, 11, 12, 13] rfl rfl rfl (one1 9 rfl rfl (ov (EV.fa 3 rfl) rfl (xn rfl (one1 10 rfl rfl (op_st (cs' := [.int .i64 x2_6_0, .slice A85_18 (x2_6_1 ++ ([(⟨(rd_T77 l0_1 x2_7).f0, (rd_T77 l0_1 x2_7).f1, (rd_T77 l0_1 x2_7).f2⟩ : S77)] : List S77)).length c85_18, .slice Ax2_6_2 x2_6_2.length cx2_6_2, .slice A95_22 (x2_6_3 ++ ([rdOf false l0_3 x2_7] : List Bool)).length c95_22, .int .i64 x2_6_4]) 4 rfl rfl rfl rfl rfl rfl (xn rfl (xd (pr [1, 2, 3, 5, 6, 7] [0, 1, 2, 3, 4] [0, 1, 2, 3, 4, 5, 6, 7, 8, 9, 10, 11, 12, 13, 15] rfl rfl rfl rfl (ge (rg (sv (EV.mv rfl) rfl (sv (EV.add rfl rfl) rfl (sv (EV.as rfl) rfl (re (wk [1, 2, 3, 5, 6, 7] [0, 1, 2, 3, 4] [⟨0, 2, 1, true⟩, ⟨1, 2, 2, true⟩, ⟨2, 2, 3, true⟩, ⟨3, 2, 4, true⟩, ⟨4, 2, 5, true⟩, ⟨5, 2, 6, true⟩, ⟨6, 2, 7, true⟩, ⟨7, 2, 8, true⟩, ⟨8, 2, 9, true⟩, ⟨13, 2, 10, true⟩, ⟨9, 2, 11, true⟩, ⟨14, 2, 12, true⟩, ⟨10, 0, 0, false⟩, ⟨11, 0, 0, false⟩, ⟨12, 0, 0, false⟩] (ih0 _ (by omega) _ ⟨wrap64 (x2_7 + 1), x2_1_0, x2_1_4, x2_2_0, x2_2_1, Ax2_2_1, cx2_2_1, x2_2_2, Ax2_2_2, cx2_2_2, x2_2_3, Ax2_2_3, cx2_2_3, x2_2_4, x2_3_0, x2_3_1, Ax2_3_1, cx2_3_1, x2_3_2, Ax2_3_2, cx2_3_2, x2_3_3, Ax2_3_3, cx2_3_3, x2_3_4, x2_5_0, x2_5_1, Ax2_5_1, cx2_5_1, x2_5_2, Ax2_5_2, cx2_5_2, x2_5_3, Ax2_5_3, cx2_5_3, x2_5_4, x2_6_0, x2_6_1 ++ ([(⟨(rd_T77 l0_1 x2_7).f0, (rd_T77 l0_1 x2_7).f1, (rd_T77 l0_1 x2_7).f2⟩ : S77)] : List S77), A85_18, c85_18, x2_6_2, Ax2_6_2, cx2_6_2, x2_6_3 ++ ([rdOf false l0_3 x2_7] : List Bool), A95_22, c95_22, x2_6_4, H, rfl⟩))))))))))))))))))))))))))))))
   ·
    refine gf rfl (dF c5) (gx rfl (gs (dr [0, 2, 3, 4] [0, 1, 2, 3, 4, 5, 6, 7, 8, 9, 10, 11, 12, 13, 14] [3, 4] 5 rfl rfl rfl rfl (xv 0 [0, 2, 3, 4] [0, 1, 2, 3, 4, 5, 6, 7, 8, 9, 10, 11, 12, 13, 14] rfl (EV.ld (v := .agg #[.int .i64 x2_5_0, .slice Ax2_5_1 x2_5_1.length cx2_5_1, .slice Ax2_5_2 x2_5_2.length cx2_5_2, .slice Ax2_5_3 x2_5_3.length cx2_5_3, .int .i64 x2_5_4]) 2 (some 5) rfl rfl rfl) rfl rfl rfl rfl (xv 1 [0, 2, 3, 4] [0, 1, 2, 3, 4, 5, 6, 7, 8, 9, 10, 11, 12, 13, 14] rfl (EV.ld (v := .agg #[.int .i64 x2_6_0, .slice Ax2_6_1 x2_6_1.length cx2_6_1, .slice Ax2_6_2 x2_6_2.length cx2_6_2, .slice Ax2_6_3 x2_6_3.length cx2_6_3, .int .i64 x2_6_4]) 3 (some 5) rfl rfl rfl) rfl rfl rfl rfl (one1 2 rfl rfl (op_st (cs' := [.int .i64 x2_5_0, .slice Ax2_5_1 x2_5_1.length cx2_5_1, .slice Ax2_5_2 x2_5_2.length cx2_5_2, .slice Ax2_5_3 x2_5_3.length cx2_5_3, .int .i64 x2_5_4]) 1 rfl rfl rfl rfl rfl rfl (xs [0, 2, 3, 4] [0, 1, 2, 3, 4, 5, 6, 7, 8, 9, 10, 11, 12, 13, 14] rfl rfl rfl (one1 3 rfl rfl (op_st (cs' := [.int .i64 x2_6_0, .slice Ax2_6_1 x2_6_1.length cx2_6_1, .slice Ax2_6_2 x2_6_2.length cx2_6_2, .slice Ax2_6_3 x2_6_3.length cx2_6_3, .int .i64 x2_6_4]) 2 rfl rfl rfl rfl rfl rfl (xn rfl (one1 4 rfl rfl (ov (EV.as rfl) rfl (xn rfl (xd (pr [2, 3, 4] [1, 2] [6, 7, 8, 9, 10, 11] rfl rfl rfl rfl ?_))))))))))))))))
    cases H
    exact rt Try.func69 rfl (.cell 0 (some 5) rfl rfl rfl (.cell 1 (some 5) rfl rfl rfl (.tmp rfl .nil))) rfl [] [⟨0, 2, 1, true⟩, ⟨1, 2, 2, true⟩, ⟨2, 2, 3, true⟩, ⟨3, 2, 4, true⟩, ⟨4, 2, 5, true⟩, ⟨5, 2, 6, true⟩] rfl rfl rfl rfl rfl ⟨_, _, _, _, _, _, _, _, _, _, _, _, rfl, rfl, rfl⟩
 ·
  obtain rfl := bF c2
  refine ts 11 rfl rfl (sk rfl (sk rfl (sk rfl (sv (EV.pt rfl rfl rfl) rfl (re (pr [1, 2, 3, 15] [0, 1, 2] [0, 1, 2] rfl rfl rfl rfl (gt rfl rfl (gs (rg (sv (EV.bd (v := .agg #[.int .i64 0, .slice none 0 0, .slice none 0 0, .slice none 0 0, .int .i64 0]) rfl (by kernel_rfl)) rfl (sv (EV.bd (v := .agg #[.int .i64 0, .slice none 0 0, .slice none 0 0, .slice none 0 0, .int .i64 0]) rfl (by kernel_rfl)) rfl (so rfl (op_st (cs' := [.int .i64 0, .slice none 0 0, .slice none 0 0, .slice none 0 0, .int .i64 0]) 1 rfl rfl rfl rfl rfl rfl (so rfl (op_st (cs' := [.int .i64 0, .slice none 0 0, .slice none 0 0, .slice none 0 0, .int .i64 0]) 2 rfl rfl rfl rfl rfl rfl (sv (EV.as rfl) rfl (re (nil_ k77 1 dq (nil_ k77 2 dq (nil_ .bool 3 dq (nil_ k77 4 dq (nil_ k77 5 dq (nil_ .bool 6 dq ?_)))))))))))))))))))))))
  cases H
  exact rt Try.func69 rfl (.cell 1 (some 5) rfl rfl rfl (.cell 2 (some 5) rfl rfl rfl (.tmp rfl .nil))) rfl [] [⟨3, 2, 1, true⟩, ⟨4, 2, 2, true⟩, ⟨5, 2, 3, true⟩, ⟨6, 2, 4, true⟩, ⟨7, 2, 5, true⟩, ⟨8, 2, 6, true⟩] rfl rfl rfl rfl rfl ⟨_, _, _, _, _, _, _, _, _, _, _, _, rfl, rfl, rfl⟩
end Go.Proofs.Ytfcebaplphpajaa.K
namespace Go.Proofs.Ytfcebaplphpajaa.K
open Go Go.RowKit
set_option linter.unusedVariables false
set_option linter.unusedSimpArgs false
def spec_TaskCost.f (k : Nat) (a0_0 : Int) (l0_1 : List S77) (l0_2 : List S77) (l0_3 : List Bool) (a0_4 : Int) : Option (Int) := (spec_TotalCost.f k l0_1).bind fun t1 => ((spec_TotalCost.f k l0_2).bind fun t2 => (some (wrap64 (t1 + t2))))
set_option maxHeartbeats 4000000 in
set_option maxRecDepth 100000 in
theorem spec_TaskCost.ok (k : Nat) (a0_0 : Int) (l0_1 : List S77) (Al0_1 : Option Addr) (cl0_1 : Nat) (l0_2 : List S77) (Al0_2 : Option Addr) (cl0_2 : Nat) (l0_3 : List Bool) (Al0_3 : Option Addr) (cl0_3 : Nat) (a0_4 : Int) (r0 : Int) (H : spec_TaskCost.f k a0_0 l0_1 l0_2 l0_3 a0_4 = some r0) : Fn Try.prog 70 [.agg #[.int .i64 a0_0, .slice Al0_1 l0_1.length cl0_1, .slice Al0_2 l0_2.length cl0_2, .slice Al0_3 l0_3.length cl0_3, .int .i64 a0_4]] [] [.sl 0 k77 Al0_1 cl0_1 l0_1 0 false, .sl 0 k77 Al0_2 cl0_2 l0_2 0 false, .sl 0 .bool Al0_3 cl0_3 l0_3 0 false] (fun v bx en => v = .int .i64 r0 ∧ bx = [] ∧ en = []) := by
 refine fn_ 10 Try.func70 rfl rfl rfl (fun base T w0 => ?_)
 rw [spec_TaskCost.f] at H
 refine gs (rg (so rfl (op_box (cs := [.int .i64 a0_0, .slice Al0_1 l0_1.length cl0_1, .slice Al0_2 l0_2.length cl0_2, .slice Al0_3 l0_3.length cl0_3, .int .i64 a0_4]) rfl rfl rfl fun b1 => (sv (EV.as rfl) rfl (re (gs (dr [0] [0, 1, 2] [] 8 rfl rfl rfl rfl (xv 0 [0] [0, 1, 2] rfl (EV.fa 1 rfl) rfl rfl rfl rfl (xv 1 [0] [0, 1, 2] rfl (EV.ld 0 none rfl rfl rfl) rfl rfl rfl rfl (xv 3 [0] [0, 1, 2] rfl (EV.fa 2 rfl) rfl rfl rfl rfl (xv 4 [0] [0, 1, 2] rfl (EV.ld 0 none rfl rfl rfl) rfl rfl rfl rfl (one1 2 rfl rfl ?_))))))))))))
 revert H; refine bdI ?_; rintro t1 A1 H
 refine op_call (spec_TotalCost.ok k l0_1 Al0_1 cl0_1 _ A1) [⟨0, 0, 0, false⟩] 1 rfl rfl rfl rfl rfl ?_
 rintro _ _ _ ⟨rfl, rfl, rfl⟩
 refine xs [0] [0, 1, 2] rfl rfl rfl (one1 5 rfl rfl ?_)
 revert H; refine bdI ?_; rintro t2 A2 H
 refine op_call (spec_TotalCost.ok k l0_2 Al0_2 cl0_2 _ A2) [⟨1, 0, 0, false⟩] 1 rfl rfl rfl rfl rfl ?_
 rintro _ _ _ ⟨rfl, rfl, rfl⟩
 refine xs [0] [0, 1, 2] rfl rfl rfl (xv 6 [0] [0, 1, 2] rfl (EV.add rfl rfl) rfl rfl rfl rfl (xv 7 [0] [0, 1, 2] rfl (EV.as rfl) rfl rfl rfl rfl (xd (pr [2] [] [] rfl rfl rfl rfl ?_))))
 cases H
 exact rt Try.func70 rfl (.tmp rfl .nil) rfl [] [] rfl rfl rfl rfl rfl ⟨rfl, rfl, rfl⟩
end Go.Proofs.Ytfcebaplphpajaa.K
namespace Go.Proofs.Ytfcebaplphpajaa.K
open Go Go.RowKit
set_option linter.unusedVariables false
set_option linter.unusedSimpArgs false
def spec_StepJoiner.j0 : Nat → (List S99) → Int → (List S68) → Int → Int → (List S68) → Int → Int → Int → (List S77) → (List S77) → (List Bool) → Int → Option ((List S68) × Int × Int × (List S99) × Int × Bool)
 | 0, _, _, _, _, _, _, _, _, _, _, _, _, _ => none
 | k + 1, x2_12, x2_14, x2_4_0, x2_4_1, x2_4_2, x2_8_0, x2_8_1, x2_8_2, x2_13_0, x2_13_1, x2_13_2, x2_13_3, x2_13_4 => (spec_UnmatchedRows.f k x2_13_0 x2_13_1 x2_13_2 x2_13_3 x2_13_4).bind fun t22 => (if x2_12.length + t22.length ≤ 2513169434916 then (some (x2_8_0, x2_8_1, x2_8_2, x2_12 ++ t22, x2_14, true)) else none)
def spec_StepJoiner.f (k : Nat) (l0_0 : List S68) (a0_1 : Int) (a0_2 : Int) (a1 : Int) : Option ((List S68) × Int × Int × (List S99) × Int × Bool) := (spec_l19Copy.f k l0_0 a0_1 a0_2).bind fun bt1 => ((spec_IsValidJoiner.f k l0_0 a0_1 a0_2).bind fun t2 => (if t2 = true then (if (l0_0.length : Int) = 0 then (some (bt1.1, bt1.2.1, bt1.2.2, [], 0, false)) else ((spec_l1In.f a1 8 60).bind fun t6 => (if t6 = true then (if 0 < (bt1.1.length : Int) then (if 1 ≤ (bt1.1.length : Int) then ((spec_BuildSide.f k ((rd_T68 bt1.1 0).f0) ((rd_T68 bt1.1 0).f1) ((rd_T68 bt1.1 0).f2) ((rd_T68 bt1.1 0).f3) ((rd_T68 bt1.1 0).f4) a1).bind fun t13 => (if (((rd_T68 bt1.1 0).f1).length : Int) = 0 then ((spec_UnmatchedRows.f k ((rd_T68 bt1.1 0).f0) ((rd_T68 bt1.1 0).f1) ((rd_T68 bt1.1 0).f2) ((rd_T68 bt1.1 0).f3) ((rd_T68 bt1.1 0).f4)).bind fun t15 => (some (bt1.1.drop (1 : Int).toNat, bt1.2.1, bt1.2.2, t15, 0, true))) else (if (((rd_T68 bt1.1 0).f2).length : Int) = 0 then ((spec_UnmatchedRows.f k ((rd_T68 bt1.1 0).f0) ((rd_T68 bt1.1 0).f1) ((rd_T68 bt1.1 0).f2) ((rd_T68 bt1.1 0).f3) ((rd_T68 bt1.1 0).f4)).bind fun t17 => (some (bt1.1.drop (1 : Int).toNat, bt1.2.1, bt1.2.2, t17, 0, true))) else (if t13 > 0 then ((spec_JoinChunk.f k ((rd_T68 bt1.1 0).f0) ((rd_T68 bt1.1 0).f1) ((rd_T68 bt1.1 0).f2) ((rd_T68 bt1.1 0).f3) ((rd_T68 bt1.1 0).f4) ((rd_T68 bt1.1 0).f2)).bind fun bt19 => ((spec_TotalCost.f k ((rd_T68 bt1.1 0).f2)).bind fun t20 => (if t13 = 1 then ((spec_TotalCost.f k ((rd_T68 bt1.1 0).f1)).bind fun t26 => (spec_StepJoiner.j0 k bt19.1 t26 [] 0 0 (bt1.1.drop (1 : Int).toNat) bt1.2.1 bt1.2.2 bt19.2.1 bt19.2.2.1 bt19.2.2.2.1 bt19.2.2.2.2.1 bt19.2.2.2.2.2)) else (spec_StepJoiner.j0 k bt19.1 t20 [] 0 0 (bt1.1.drop (1 : Int).toNat) bt1.2.1 bt1.2.2 bt19.2.1 bt19.2.2.1 bt19.2.2.2.1 bt19.2.2.2.2.1 bt19.2.2.2.2.2)))) else ((spec_NeedsNestedLoop.f k ((rd_T68 bt1.1 0).f0) ((rd_T68 bt1.1 0).f1) ((rd_T68 bt1.1 0).f2) ((rd_T68 bt1.1 0).f3) ((rd_T68 bt1.1 0).f4)).bind fun t27 => (if t27 = true then ((spec_NextChunk.f k ((rd_T68 bt1.1 0).f2) a1).bind fun bt29 => ((spec_JoinChunk.f k ((rd_T68 bt1.1 0).f0) ((rd_T68 bt1.1 0).f1) ((rd_T68 bt1.1 0).f2) ((rd_T68 bt1.1 0).f3) ((rd_T68 bt1.1 0).f4) bt29.1).bind fun bt30 => (if ([(⟨bt30.2.1, bt30.2.2.1, bt29.2, bt30.2.2.2.2.1, bt30.2.2.2.2.2⟩ : S68)] : List S68).length + (bt1.1.drop (1 : Int).toNat).length ≤ 1599289640401 then ((spec_TotalCost.f k bt29.1).bind fun t34 => (some (([(⟨bt30.2.1, bt30.2.2.1, bt29.2, bt30.2.2.2.2.1, bt30.2.2.2.2.2⟩ : S68)] : List S68) ++ (bt1.1.drop (1 : Int).toNat), bt1.2.1, bt1.2.2, bt30.1, t34, true))) else none))) else ((spec_PartitionTask.f k ((rd_T68 bt1.1 0).f0) ((rd_T68 bt1.1 0).f1) ((rd_T68 bt1.1 0).f2) ((rd_T68 bt1.1 0).f3) ((rd_T68 bt1.1 0).f4)).bind fun bt35 => (if ([(⟨bt35.1, bt35.2.1, bt35.2.2.1, bt35.2.2.2.1, bt35.2.2.2.2.1⟩ : S68), (⟨bt35.2.2.2.2.2.1, bt35.2.2.2.2.2.2.1, bt35.2.2.2.2.2.2.2.1, bt35.2.2.2.2.2.2.2.2.1, bt35.2.2.2.2.2.2.2.2.2.1⟩ : S68)] : List S68).length + (bt1.1.drop (1 : Int).toNat).length ≤ 1599289640401 then ((spec_TaskCost.f k ((rd_T68 bt1.1 0).f0) ((rd_T68 bt1.1 0).f1) ((rd_T68 bt1.1 0).f2) ((rd_T68 bt1.1 0).f3) ((rd_T68 bt1.1 0).f4)).bind fun t39 => (some (([(⟨bt35.1, bt35.2.1, bt35.2.2.1, bt35.2.2.2.1, bt35.2.2.2.2.1⟩ : S68), (⟨bt35.2.2.2.2.2.1, bt35.2.2.2.2.2.2.1, bt35.2.2.2.2.2.2.2.1, bt35.2.2.2.2.2.2.2.2.1, bt35.2.2.2.2.2.2.2.2.2.1⟩ : S68)] : List S68) ++ (bt1.1.drop (1 : Int).toNat), wrap64 (a0_1 + t39), wrap64 (a0_2 + 1), [], 8, true))) else none)))))))) else none) else none) else (some (bt1.1, bt1.2.1, bt1.2.2, [], 0, false))))) else (some (bt1.1, bt1.2.1, bt1.2.2, [], 0, false))))
set_option maxHeartbeats 4000000 in
set_option maxRecDepth 100000 in
theorem spec_StepJoiner.ok (k : Nat) (l0_0 : List S68) (Al0_0 : Option Addr) (cl0_0 : Nat) (a0_1 : Int) (a0_2 : Int) (a1 : Int) (r0 : List S68) (r1 : Int) (r2 : Int) (r3 : List S99) (r4 : Int) (r5 : Bool) (H : spec_StepJoiner.f k l0_0 a0_1 a0_2 a1 = some (r0, r1, r2, r3, r4, r5)) : Fn Try.prog 37 [.agg #[.slice Al0_0 l0_0.length cl0_0, .int .i64 a0_1, .int .i64 a0_2], .int .i64 a1] [] [.sl 0 k68 Al0_0 cl0_0 l0_0 0 false] (fun v bx en => ∃ A0 c0 A3 c3, v = .tuple #[.agg #[.slice A0 r0.length c0, .int .i64 r1, .int .i64 r2], .slice A3 r3.length c3, .int .i64 r4, .bool r5] ∧ bx = [] ∧ en = [.sl 1 k68 A0 c0 r0 1 true, .sl 2 k99 A3 c3 r3 2 true]) := by
 refine fn_ 140 Try.func37 rfl rfl rfl (fun base T w0 => ?_)
 rw [spec_StepJoiner.f] at H
 refine gs (rg (so rfl (op_box (cs := [.slice Al0_0 l0_0.length cl0_0, .int .i64 a0_1, .int .i64 a0_2]) rfl rfl rfl fun b2 => (so rfl (op_alloc (cs := [.slice none 0 0, .int .i64 0, .int .i64 0]) (by kernel_rfl) rfl fun b4 => (sv (EV.as rfl) rfl (sv (EV.as rfl) rfl (sv (EV.as rfl) rfl (re (gs (rg (sv (EV.ld (v := .agg #[.slice Al0_0 l0_0.length cl0_0, .int .i64 a0_1, .int .i64 a0_2]) 0 (some 3) rfl rfl rfl) rfl ?_))))))))))))
 revert H; refine bdI ?_; rintro ⟨t1_0, t1_1, t1_2⟩ A1 H
 refine so rfl (op_call (spec_l19Copy.ok k l0_0 Al0_0 cl0_0 a0_1 a0_2 _ _ _ A1) [⟨0, 0, 0, false⟩] 1 rfl rfl rfl rfl rfl ?_)
 rintro _ _ _ ⟨At1_0, ct1_0, rfl, rfl, rfl⟩
 refine so rfl (op_alloc (cs := [.slice none 0 0, .int .i64 0, .int .i64 0]) (by kernel_rfl) rfl fun b8 => (so rfl (op_st (cs' := [.slice At1_0 t1_0.length ct1_0, .int .i64 t1_1, .int .i64 t1_2]) 2 rfl rfl rfl rfl rfl rfl (re (pr [1, 2, 4, 8] [0, 1, 2] [0, 1] rfl rfl rfl rfl (gs (gs (rg (sv (EV.ld (v := .agg #[.slice Al0_0 l0_0.length cl0_0, .int .i64 a0_1, .int .i64 a0_2]) 0 (some 3) rfl rfl rfl) rfl ?_)))))))))
 revert H; refine bdI ?_; rintro t2 A2 H
 refine so rfl (op_call (spec_IsValidJoiner.ok k l0_0 Al0_0 cl0_0 a0_1 a0_2 _ A2) [⟨0, 0, 0, false⟩] 3 rfl rfl rfl rfl rfl ?_)
 rintro _ _ _ ⟨rfl, rfl, rfl⟩
 refine sv (EV.nt rfl) rfl (sv (EV.mv rfl) rfl ?_)
 revert H; refine ifsI ?_ ?_ <;> intro c3 H
 ·
  subst c3
  refine ts 27 rfl rfl (sv (EV.fa 0 rfl) rfl (sv (EV.ld 0 none rfl rfl rfl) rfl (sv (EV.ln rfl) rfl (sv (EV.eql rfl rfl) rfl (sv (EV.pf rfl rfl rfl) rfl (sv (EV.mv rfl) rfl ?_))))))
  revert H; refine ifsI ?_ ?_ <;> intro c4 H
  ·
   refine ts 33 rfl (dT c4) (sk rfl (sk rfl (sk rfl (sv (EV.pt rfl rfl rfl) rfl (re (pr [1, 2, 4, 8, 37] [0, 1, 2] [0, 1] rfl rfl rfl rfl (gt rfl rfl (gs (rg (sv (EV.ld (v := .agg #[.slice At1_0 t1_0.length ct1_0, .int .i64 t1_1, .int .i64 t1_2]) 2 (some 3) rfl rfl rfl) rfl (so rfl (op_lit (s := 7) (by_ := 56) k99 ([] : List S99) [] [] 3 [] rfl rfl rfl rfl rfl rfl rfl rfl rfl rfl rfl rfl rfl dq rfl fun A39_5 c39_5 => (so rfl (op_st (cs' := [.slice At1_0 t1_0.length ct1_0, .int .i64 t1_1, .int .i64 t1_2]) 1 rfl rfl rfl rfl rfl rfl (sv (EV.as rfl) rfl (sv (EV.as rfl) rfl (sv (EV.as rfl) rfl (re (pr [4, 5, 6, 7] [1] [1, 2] rfl rfl rfl rfl ?_)))))))))))))))))))
   cases H
   exact rt Try.func37 rfl (.cell 0 (some 3) rfl rfl rfl (.tmp rfl (.tmp rfl (.tmp rfl .nil)))) rfl [] [⟨0, 1, 1, true⟩, ⟨1, 2, 2, true⟩] rfl rfl rfl rfl rfl ⟨_, _, _, _, rfl, rfl, rfl⟩
  ·
   refine ts 33 rfl (dF c4) (sv (EV.mv rfl) rfl ?_)
   revert H; refine bdI ?_; rintro t6 A6 H
   refine so rfl (op_call (spec_l1In.ok a1 8 60 _ A6) [] 3 rfl rfl rfl rfl rfl ?_)
   rintro _ _ _ ⟨rfl, rfl, rfl⟩
   refine sv (EV.nt rfl) rfl (sv (EV.pf rfl rfl rfl) rfl (re (pr [1, 2, 4, 8, 37] [0, 1, 2] [0, 1] rfl rfl rfl rfl ?_)))
   revert H; refine ifsI ?_ ?_ <;> intro c7 H
   ·
    subst c7
    refine gf rfl rfl (gk (gs (rg (sv (EV.fa 0 rfl) rfl (sv (EV.ld 2 none rfl rfl rfl) rfl ?_)))))
    revert H; refine ggI ?_; intro g8 H
    refine sv (EV.ix 1 rfl rfl rfl dq g8 rfl) rfl (opn (i := 0) 1 z68 rfl dq g8 fun A_9 c_9 A_10 c_10 A_11 c_11 => (sv (EV.lc (v := .agg #[.int .i64 ((rd_T68 t1_0 0).f0), .slice A_9 ((rd_T68 t1_0 0).f1).length c_9, .slice A_10 ((rd_T68 t1_0 0).f2).length c_10, .slice A_11 ((rd_T68 t1_0 0).f3).length c_11, .int .i64 ((rd_T68 t1_0 0).f4)]) 0 (some 5) 2 rfl rfl rfl rfl) rfl (so rfl (op_alloc (cs := [.int .i64 0, .slice none 0 0, .slice none 0 0, .slice none 0 0, .int .i64 0]) (by kernel_rfl) rfl fun b9 => (so rfl (op_st (cs' := [.int .i64 ((rd_T68 t1_0 0).f0), .slice A_9 ((rd_T68 t1_0 0).f1).length c_9, .slice A_10 ((rd_T68 t1_0 0).f2).length c_10, .slice A_11 ((rd_T68 t1_0 0).f3).length c_11, .int .i64 ((rd_T68 t1_0 0).f4)]) 3 rfl rfl rfl rfl rfl rfl (re (gs (rg (sv (EV.fa 0 rfl) rfl (sv (EV.ld 2 none rfl rfl rfl) rfl ?_)))))))))))
    revert H; refine ggI ?_; intro g12 H
    refine cutp (l' := t1_0.drop (1 : Int).toNat) 1 (t1_0.length : Int) 1 rfl dq g12 (Int.le_refl _) rfl 1 dq (.inl dq) ctl (sv (EV.ct 1 (t1_0.length : Int) 1 rfl rfl rfl rfl dq g12 (Int.le_refl _) rfl rfl ctnl) rfl (sv (EV.as rfl) rfl (re (pr [1, 2, 4, 8, 9, 10] [0, 1, 2, 3] [0, 1, 2, 3, 4, 5, 6] rfl rfl rfl rfl (gs (rg (sv (EV.ld (v := .agg #[.int .i64 ((rd_T68 t1_0 0).f0), .slice A_9 ((rd_T68 t1_0 0).f1).length c_9, .slice A_10 ((rd_T68 t1_0 0).f2).length c_10, .slice A_11 ((rd_T68 t1_0 0).f3).length c_11, .int .i64 ((rd_T68 t1_0 0).f4)]) 3 (some 5) rfl rfl rfl) rfl (sv (EV.mv rfl) rfl ?_))))))))
    revert H; refine bdI ?_; rintro t13 A13 H
    refine so rfl (op_call (spec_BuildSide.ok k ((rd_T68 t1_0 0).f0) ((rd_T68 t1_0 0).f1) A_9 c_9 ((rd_T68 t1_0 0).f2) A_10 c_10 ((rd_T68 t1_0 0).f3) A_11 c_11 ((rd_T68 t1_0 0).f4) a1 _ A13) [⟨3, 0, 0, false⟩, ⟨4, 0, 0, false⟩, ⟨5, 0, 0, false⟩] 3 rfl rfl rfl rfl rfl ?_)
    rintro _ _ _ ⟨rfl, rfl, rfl⟩
    refine sv (EV.as rfl) rfl (re (gs (gs (rg (sv (EV.fa 1 rfl) rfl (sv (EV.ld 3 none rfl rfl rfl) rfl (sv (EV.ln rfl) rfl (sv (EV.eql rfl rfl) rfl (sv (EV.mv rfl) rfl ?_)))))))))
    revert H; refine ifsI ?_ ?_ <;> intro c14 H
    ·
     refine ts 54 rfl (dT c14) (sk rfl (sk rfl (sk rfl (sk rfl (sv (EV.pt rfl rfl rfl) rfl (re (pr [1, 2, 4, 8, 9, 10, 11, 59] [0, 1, 2, 3] [0, 1, 2, 3, 4, 5, 6] rfl rfl rfl rfl (gt rfl rfl (gs (rg (sv (EV.mv rfl) rfl (sv (EV.fa 0 rfl) rfl (so rfl (op_st (cs' := [.slice (cutA At1_0 ct1_0 (1 : Int).toNat 5) (t1_0.drop (1 : Int).toNat).length (ct1_0 - (1 : Int).toNat), .int .i64 t1_1, .int .i64 t1_2]) 2 rfl rfl rfl rfl rfl rfl (re (pr [4, 8, 9] [1, 2, 3] [3, 4, 5, 6] rfl rfl rfl rfl (gs (dr [1, 2] [0, 1, 2, 3] [4, 5, 6] 7 rfl rfl rfl rfl (xv 0 [1, 2] [0, 1, 2, 3] rfl (EV.ld (v := .agg #[.slice (cutA At1_0 ct1_0 (1 : Int).toNat 5) (t1_0.drop (1 : Int).toNat).length (ct1_0 - (1 : Int).toNat), .int .i64 t1_1, .int .i64 t1_2]) 0 (some 3) rfl rfl rfl) rfl rfl rfl rfl (xv 1 [1, 2] [0, 1, 2, 3] rfl (EV.ld (v := .agg #[.int .i64 ((rd_T68 t1_0 0).f0), .slice A_9 ((rd_T68 t1_0 0).f1).length c_9, .slice A_10 ((rd_T68 t1_0 0).f2).length c_10, .slice A_11 ((rd_T68 t1_0 0).f3).length c_11, .int .i64 ((rd_T68 t1_0 0).f4)]) 1 (some 5) rfl rfl rfl) rfl rfl rfl rfl (one1 2 rfl rfl ?_)))))))))))))))))))))
     revert H; refine bdI ?_; rintro t15 A15 H
     refine op_call (spec_UnmatchedRows.ok k ((rd_T68 t1_0 0).f0) ((rd_T68 t1_0 0).f1) A_9 c_9 ((rd_T68 t1_0 0).f2) A_10 c_10 ((rd_T68 t1_0 0).f3) A_11 c_11 ((rd_T68 t1_0 0).f4) _ A15) [⟨0, 0, 0, false⟩, ⟨1, 0, 0, false⟩, ⟨2, 0, 0, false⟩] 3 rfl rfl rfl rfl rfl ?_
     rintro _ _ _ ⟨At15, ct15, rfl, rfl, rfl⟩
     refine xs [1, 2] [0, 1, 2, 3] rfl rfl rfl (one1 3 rfl rfl (op_st (cs' := [.slice (cutA At1_0 ct1_0 (1 : Int).toNat 5) (t1_0.drop (1 : Int).toNat).length (ct1_0 - (1 : Int).toNat), .int .i64 t1_1, .int .i64 t1_2]) 0 rfl rfl rfl rfl rfl rfl (xs [1, 2] [0, 1, 2, 3] rfl rfl rfl (one1 4 rfl rfl (ov (EV.as rfl) rfl (xn rfl (one1 5 rfl rfl (ov (EV.as rfl) rfl (xn rfl (one1 6 rfl rfl (ov (EV.as rfl) rfl (xn rfl (xd ?_)))))))))))))
     cases H
     exact rt Try.func37 rfl (.cell 0 (some 3) rfl rfl rfl (.tmp rfl (.tmp rfl (.tmp rfl .nil)))) rfl [] [⟨3, 1, 1, true⟩, ⟨4, 2, 2, true⟩] rfl rfl rfl rfl rfl ⟨_, _, _, _, rfl, rfl, rfl⟩
    ·
     refine ts 54 rfl (dF c14) (sv (EV.fa 2 rfl) rfl (sv (EV.ld 3 none rfl rfl rfl) rfl (sv (EV.ln rfl) rfl (sv (EV.eql rfl rfl) rfl (sv (EV.pf rfl rfl rfl) rfl (re (pr [1, 2, 4, 8, 9, 10, 11, 59] [0, 1, 2, 3] [0, 1, 2, 3, 4, 5, 6] rfl rfl rfl rfl ?_)))))))
     revert H; refine ifsI ?_ ?_ <;> intro c16 H
     ·
      refine gt rfl (dT c16) (gs (rg (sv (EV.mv rfl) rfl (sv (EV.fa 0 rfl) rfl (so rfl (op_st (cs' := [.slice (cutA At1_0 ct1_0 (1 : Int).toNat 5) (t1_0.drop (1 : Int).toNat).length (ct1_0 - (1 : Int).toNat), .int .i64 t1_1, .int .i64 t1_2]) 2 rfl rfl rfl rfl rfl rfl (re (pr [4, 8, 9] [1, 2, 3] [3, 4, 5, 6] rfl rfl rfl rfl (gs (dr [1, 2] [0, 1, 2, 3] [4, 5, 6] 7 rfl rfl rfl rfl (xv 0 [1, 2] [0, 1, 2, 3] rfl (EV.ld (v := .agg #[.slice (cutA At1_0 ct1_0 (1 : Int).toNat 5) (t1_0.drop (1 : Int).toNat).length (ct1_0 - (1 : Int).toNat), .int .i64 t1_1, .int .i64 t1_2]) 0 (some 3) rfl rfl rfl) rfl rfl rfl rfl (xv 1 [1, 2] [0, 1, 2, 3] rfl (EV.ld (v := .agg #[.int .i64 ((rd_T68 t1_0 0).f0), .slice A_9 ((rd_T68 t1_0 0).f1).length c_9, .slice A_10 ((rd_T68 t1_0 0).f2).length c_10, .slice A_11 ((rd_T68 t1_0 0).f3).length c_11, .int .i64 ((rd_T68 t1_0 0).f4)]) 1 (some 5) rfl rfl rfl) rfl rfl rfl rfl (one1 2 rfl rfl ?_)))))))))))))
      revert H; refine bdI ?_; rintro t17 A17 H
      refine op_call (spec_UnmatchedRows.ok k ((rd_T68 t1_0 0).f0) ((rd_T68 t1_0 0).f1) A_9 c_9 ((rd_T68 t1_0 0).f2) A_10 c_10 ((rd_T68 t1_0 0).f3) A_11 c_11 ((rd_T68 t1_0 0).f4) _ A17) [⟨0, 0, 0, false⟩, ⟨1, 0, 0, false⟩, ⟨2, 0, 0, false⟩] 3 rfl rfl rfl rfl rfl ?_
      rintro _ _ _ ⟨At17, ct17, rfl, rfl, rfl⟩
      refine xs [1, 2] [0, 1, 2, 3] rfl rfl rfl (one1 3 rfl rfl (op_st (cs' := [.slice (cutA At1_0 ct1_0 (1 : Int).toNat 5) (t1_0.drop (1 : Int).toNat).length (ct1_0 - (1 : Int).toNat), .int .i64 t1_1, .int .i64 t1_2]) 0 rfl rfl rfl rfl rfl rfl (xs [1, 2] [0, 1, 2, 3] rfl rfl rfl (one1 4 rfl rfl (ov (EV.as rfl) rfl (xn rfl (one1 5 rfl rfl (ov (EV.as rfl) rfl (xn rfl (one1 6 rfl rfl (ov (EV.as rfl) rfl (xn rfl (xd ?_)))))))))))))
      cases H
      exact rt Try.func37 rfl (.cell 0 (some 3) rfl rfl rfl (.tmp rfl (.tmp rfl (.tmp rfl .nil)))) rfl [] [⟨3, 1, 1, true⟩, ⟨4, 2, 2, true⟩] rfl rfl rfl rfl rfl ⟨_, _, _, _, rfl, rfl, rfl⟩
     ·
      refine gf rfl (dF c16) (gk (gs (gs (rg (sv (EV.mv rfl) rfl (sv (EV.gtr rfl rfl) rfl (re ?_)))))))
      revert H; refine ifsI ?_ ?_ <;> intro c18 H
      ·
       refine gt rfl (dT c18) (gs (rg (sv (EV.ld (v := .agg #[.int .i64 ((rd_T68 t1_0 0).f0), .slice A_9 ((rd_T68 t1_0 0).f1).length c_9, .slice A_10 ((rd_T68 t1_0 0).f2).length c_10, .slice A_11 ((rd_T68 t1_0 0).f3).length c_11, .int .i64 ((rd_T68 t1_0 0).f4)]) 3 (some 5) rfl rfl rfl) rfl (sv (EV.fa 2 rfl) rfl (sv (EV.ld 3 none rfl rfl rfl) rfl ?_)))))
       revert H; refine bdI ?_; rintro ⟨t19_0, t19_1, t19_2, t19_3, t19_4, t19_5⟩ A19 H
       refine so rfl (op_call (spec_JoinChunk.ok k ((rd_T68 t1_0 0).f0) ((rd_T68 t1_0 0).f1) A_9 c_9 ((rd_T68 t1_0 0).f2) A_10 c_10 ((rd_T68 t1_0 0).f3) A_11 c_11 ((rd_T68 t1_0 0).f4) ((rd_T68 t1_0 0).f2) A_10 c_10 _ _ _ _ _ _ A19) [⟨3, 0, 0, false⟩, ⟨4, 0, 0, false⟩, ⟨5, 0, 0, false⟩, ⟨4, 0, 0, false⟩] 3 rfl rfl rfl rfl rfl ?_)
       rintro _ _ _ ⟨At19_0, ct19_0, At19_2, ct19_2, At19_3, ct19_3, At19_4, ct19_4, rfl, rfl, rfl⟩
       refine sv (EV.mv rfl) rfl (sv (EV.ex rfl rfl) rfl (sv (EV.ex rfl rfl) rfl (so rfl (op_alloc (cs := [.int .i64 0, .slice none 0 0, .slice none 0 0, .slice none 0 0, .int .i64 0]) (by kernel_rfl) rfl fun b13 => (sv (EV.as rfl) rfl (so rfl (op_st (cs' := [.int .i64 t19_1, .slice At19_2 t19_2.length ct19_2, .slice At19_3 t19_3.length ct19_3, .slice At19_4 t19_4.length ct19_4, .int .i64 t19_5]) 4 rfl rfl rfl rfl rfl rfl (re (pr [4, 8, 9, 10, 11, 12, 13] [1, 2, 3, 4] [1, 2, 3, 4, 5, 6, 7, 8, 9, 10] rfl rfl rfl rfl (gs (rg (sv (EV.mv rfl) rfl (sv (EV.fa 0 rfl) rfl (so rfl (op_st (cs' := [.slice (cutA At1_0 ct1_0 (1 : Int).toNat 5) (t1_0.drop (1 : Int).toNat).length (ct1_0 - (1 : Int).toNat), .int .i64 t1_1, .int .i64 t1_2]) 1 rfl rfl rfl rfl rfl rfl (re (gs (rg (sv (EV.fa 2 rfl) rfl (sv (EV.ld 2 none rfl rfl rfl) rfl ?_))))))))))))))))))))
       revert H; refine bdI ?_; rintro t20 A20 H
       refine so rfl (op_call (spec_TotalCost.ok k ((rd_T68 t1_0 0).f2) A_10 c_10 _ A20) [⟨3, 0, 0, false⟩] 8 rfl rfl rfl rfl rfl ?_)
       rintro _ _ _ ⟨rfl, rfl, rfl⟩
       refine sv (EV.as rfl) rfl (re (pr [4, 8, 9, 11, 12, 13, 14] [0, 1, 2, 3] [2, 3, 4, 5, 6, 7, 8, 9] rfl rfl rfl rfl ?_))
       refine jo (fun S => ∃ (m : Nat) (x2_12 : List S99) (Ax2_12 : Option Addr) (cx2_12 : Nat) (x2_14 : Int) (x2_4_0 : List S68) (Ax2_4_0 : Option Addr) (cx2_4_0 : Nat) (x2_4_1 : Int) (x2_4_2 : Int) (x2_8_0 : List S68) (Ax2_8_0 : Option Addr) (cx2_8_0 : Nat) (x2_8_1 : Int) (x2_8_2 : Int) (x2_13_0 : Int) (x2_13_1 : List S77) (Ax2_13_1 : Option Addr) (cx2_13_1 : Nat) (x2_13_2 : List S77) (Ax2_13_2 : Option Addr) (cx2_13_2 : Nat) (x2_13_3 : List Bool) (Ax2_13_3 : Option Addr) (cx2_13_3 : Nat) (x2_13_4 : Int), spec_StepJoiner.j0 m x2_12 x2_14 x2_4_0 x2_4_1 x2_4_2 x2_8_0 x2_8_1 x2_8_2 x2_13_0 x2_13_1 x2_13_2 x2_13_3 x2_13_4 = some (r0, r1, r2, r3, r4, r5) ∧ S = ⟨[(4, .pointer (some ⟨b4, 0, none⟩)), (8, .pointer (some ⟨b8, 0, none⟩)), (12, .slice Ax2_12 x2_12.length cx2_12), (13, .pointer (some ⟨b13, 0, none⟩)), (14, .int .i64 x2_14)], [⟨b4, 29, [.slice Ax2_4_0 x2_4_0.length cx2_4_0, .int .i64 x2_4_1, .int .i64 x2_4_2]⟩, ⟨b8, 29, [.slice Ax2_8_0 x2_8_0.length cx2_8_0, .int .i64 x2_8_1, .int .i64 x2_8_2]⟩, ⟨b13, 68, [.int .i64 x2_13_0, .slice Ax2_13_1 x2_13_1.length cx2_13_1, .slice Ax2_13_2 x2_13_2.length cx2_13_2, .slice Ax2_13_3 x2_13_3.length cx2_13_3, .int .i64 x2_13_4]⟩], [.sl 2 k99 Ax2_12 cx2_12 x2_12 1 true, .sl 2 k68 Ax2_4_0 cx2_4_0 x2_4_0 2 true, .sl 1 k68 Ax2_8_0 cx2_8_0 x2_8_0 3 true, .sl 2 k77 Ax2_13_1 cx2_13_1 x2_13_1 4 true, .sl 2 k77 Ax2_13_2 cx2_13_2 x2_13_2 5 true, .sl 2 .bool Ax2_13_3 cx2_13_3 x2_13_3 6 true]⟩) (fun S hS => ?_) (fun jh0 => ?_)
       ·
        clear H
        obtain ⟨m21, x2_12, Ax2_12, cx2_12, x2_14, x2_4_0, Ax2_4_0, cx2_4_0, x2_4_1, x2_4_2, x2_8_0, Ax2_8_0, cx2_8_0, x2_8_1, x2_8_2, x2_13_0, x2_13_1, Ax2_13_1, cx2_13_1, x2_13_2, Ax2_13_2, cx2_13_2, x2_13_3, Ax2_13_3, cx2_13_3, x2_13_4, H, rfl⟩ := hS
        rcases m21 with _ | m21
        · rw [spec_StepJoiner.j0] at H; cases H
        rw [spec_StepJoiner.j0] at H
        refine gs (dr [1, 2] [1, 2, 3, 4, 5] [8, 9] 10 rfl rfl rfl rfl (xv 0 [1, 2] [1, 2, 3, 4, 5] rfl (EV.ld (v := .agg #[.slice Ax2_8_0 x2_8_0.length cx2_8_0, .int .i64 x2_8_1, .int .i64 x2_8_2]) 0 (some 3) rfl rfl rfl) rfl rfl rfl rfl (xv 1 [1, 2] [1, 2, 3, 4, 5] rfl (EV.mv rfl) rfl rfl rfl rfl (xv 2 [1, 2] [1, 2, 3, 4, 5] rfl (EV.ld (v := .agg #[.int .i64 x2_13_0, .slice Ax2_13_1 x2_13_1.length cx2_13_1, .slice Ax2_13_2 x2_13_2.length cx2_13_2, .slice Ax2_13_3 x2_13_3.length cx2_13_3, .int .i64 x2_13_4]) 1 (some 5) rfl rfl rfl) rfl rfl rfl rfl (xv 5 [1, 2] [1, 2, 3, 4, 5] rfl (EV.mv rfl) rfl rfl rfl rfl (one1 3 rfl rfl ?_))))))
        revert H; refine bdI ?_; rintro t22 A22 H
        refine op_call (spec_UnmatchedRows.ok m21 x2_13_0 x2_13_1 Ax2_13_1 cx2_13_1 x2_13_2 Ax2_13_2 cx2_13_2 x2_13_3 Ax2_13_3 cx2_13_3 x2_13_4 _ A22) [⟨3, 0, 0, false⟩, ⟨4, 0, 0, false⟩, ⟨5, 0, 0, false⟩] 7 rfl rfl rfl rfl rfl ?_
        rintro _ _ _ ⟨At22, ct22, rfl, rfl, rfl⟩
        refine xs [1, 2] [1, 2, 3, 4, 5] rfl rfl rfl (one1 4 rfl rfl ?_)
        revert H; refine ggI ?_; intro g23 H
        refine op_app (k := k99) (s := 7) (by_ := 56) 0 6 rfl rfl rfl rfl (ap2 g23 dq) (ap2n g23 dq) (.inl rfl) true (fun _ => .inl rfl) rfl rfl fun A88_24 c88_24 => (nmE (en := [.sl 2 k68 Ax2_4_0 cx2_4_0 x2_4_0 2 true, .sl 1 k68 Ax2_8_0 cx2_8_0 x2_8_0 3 true, .sl 2 k77 Ax2_13_1 cx2_13_1 x2_13_1 4 true, .sl 2 k77 Ax2_13_2 cx2_13_2 x2_13_2 5 true, .sl 2 .bool Ax2_13_3 cx2_13_3 x2_13_3 6 true, .sl 2 k99 At22 ct22 t22 8 true, .sl 2 k99 A88_24 c88_24 (x2_12 ++ t22) 1 true]) (by kernel_rfl) (xs [1, 2] [0, 1, 2, 3, 4] rfl rfl rfl (one1 6 rfl rfl (op_st (cs' := [.slice Ax2_8_0 x2_8_0.length cx2_8_0, .int .i64 x2_8_1, .int .i64 x2_8_2]) 0 rfl rfl rfl rfl rfl rfl (xs [1, 2] [0, 1, 2, 3, 4] rfl rfl rfl (one1 7 rfl rfl (ov (EV.as rfl) rfl (xs [1, 2] [0, 1, 2, 3, 4] rfl rfl rfl (one1 8 rfl rfl (ov (EV.as rfl) rfl (xn rfl (one1 9 rfl rfl (ov (EV.as rfl) rfl (xn rfl (xd (pr [4, 5, 6, 7] [0] [1, 6] rfl rfl rfl rfl ?_))))))))))))))))
        cases H
        exact rt Try.func37 rfl (.cell 0 (some 3) rfl rfl rfl (.tmp rfl (.tmp rfl (.tmp rfl .nil)))) rfl [] [⟨0, 1, 1, true⟩, ⟨1, 2, 2, true⟩] rfl rfl rfl rfl rfl ⟨_, _, _, _, rfl, rfl, rfl⟩
       ·
        refine gs (rg (sv (EV.mv rfl) rfl (sv (EV.eql rfl rfl) rfl (re ?_))))
        revert H; refine ifsI ?_ ?_ <;> intro c25 H
        ·
         refine gt rfl (dT c25) (rg (sv (EV.fa 1 rfl) rfl (sv (EV.ld 2 none rfl rfl rfl) rfl ?_)))
         revert H; refine bdI ?_; rintro t26 A26 H
         refine so rfl (op_call (spec_TotalCost.ok k ((rd_T68 t1_0 0).f1) A_9 c_9 _ A26) [⟨0, 0, 0, false⟩] 8 rfl rfl rfl rfl rfl ?_)
         rintro _ _ _ ⟨rfl, rfl, rfl⟩
         exact sv (EV.as rfl) rfl (re (pr [4, 8, 12, 13, 14] [0, 1, 3] [3, 4, 5, 6, 7] rfl rfl rfl rfl (nil_ k68 8 dq (wk [4, 8, 12, 13, 14] [0, 1, 2] [⟨1, 2, 1, true⟩, ⟨5, 2, 2, true⟩, ⟨0, 1, 3, true⟩, ⟨2, 2, 4, true⟩, ⟨3, 2, 5, true⟩, ⟨4, 2, 6, true⟩] (jh0 _ ⟨_, t19_0, At19_0, ct19_0, t26, [], none, 0, 0, 0, t1_0.drop (1 : Int).toNat, (cutA At1_0 ct1_0 (1 : Int).toNat 5), (ct1_0 - (1 : Int).toNat), t1_1, t1_2, t19_1, t19_2, At19_2, ct19_2, t19_3, At19_3, ct19_3, t19_4, At19_4, ct19_4, t19_5, H, rfl⟩)))))
        ·
         exact gf rfl (dF c25) (gk (nil_ k68 8 dq (wk [4, 8, 12, 13, 14] [0, 1, 3] [⟨4, 2, 1, true⟩, ⟨8, 2, 2, true⟩, ⟨3, 1, 3, true⟩, ⟨5, 2, 4, true⟩, ⟨6, 2, 5, true⟩, ⟨7, 2, 6, true⟩] (jh0 _ ⟨_, t19_0, At19_0, ct19_0, t20, [], none, 0, 0, 0, t1_0.drop (1 : Int).toNat, (cutA At1_0 ct1_0 (1 : Int).toNat 5), (ct1_0 - (1 : Int).toNat), t1_1, t1_2, t19_1, t19_2, At19_2, ct19_2, t19_3, At19_3, ct19_3, t19_4, At19_4, ct19_4, t19_5, H, rfl⟩))))
      ·
       refine gf rfl (dF c18) (gk (gs (gs (rg (sv (EV.ld (v := .agg #[.int .i64 ((rd_T68 t1_0 0).f0), .slice A_9 ((rd_T68 t1_0 0).f1).length c_9, .slice A_10 ((rd_T68 t1_0 0).f2).length c_10, .slice A_11 ((rd_T68 t1_0 0).f3).length c_11, .int .i64 ((rd_T68 t1_0 0).f4)]) 3 (some 5) rfl rfl rfl) rfl ?_)))))
       revert H; refine bdI ?_; rintro t27 A27 H
       refine so rfl (op_call (spec_NeedsNestedLoop.ok k ((rd_T68 t1_0 0).f0) ((rd_T68 t1_0 0).f1) A_9 c_9 ((rd_T68 t1_0 0).f2) A_10 c_10 ((rd_T68 t1_0 0).f3) A_11 c_11 ((rd_T68 t1_0 0).f4) _ A27) [⟨3, 0, 0, false⟩, ⟨4, 0, 0, false⟩, ⟨5, 0, 0, false⟩] 3 rfl rfl rfl rfl rfl ?_)
       rintro _ _ _ ⟨rfl, rfl, rfl⟩
       refine re ?_
       revert H; refine ifsI ?_ ?_ <;> intro c28 H
       ·
        subst c28
        refine gt rfl rfl (gs (rg (sv (EV.fa 2 rfl) rfl (sv (EV.ld 3 none rfl rfl rfl) rfl (sv (EV.mv rfl) rfl ?_)))))
        revert H; refine bdI ?_; rintro ⟨t29_0, t29_1⟩ A29 H
        refine so rfl (op_call (spec_NextChunk.ok k ((rd_T68 t1_0 0).f2) A_10 c_10 a1 _ _ A29) [⟨4, 0, 0, false⟩] 3 rfl rfl rfl rfl rfl ?_)
        rintro _ _ _ ⟨At29_0, ct29_0, At29_1, ct29_1, rfl, rfl, rfl⟩
        refine sv (EV.mv rfl) rfl (sv (EV.ex rfl rfl) rfl (sv (EV.ex rfl rfl) rfl (sv (EV.as rfl) rfl (sv (EV.as rfl) rfl (re (pr [4, 8, 9, 10, 15, 16] [1, 2, 3] [1, 2, 3, 4, 5, 6, 7, 8] rfl rfl rfl rfl (gs (rg (sv (EV.ld (v := .agg #[.int .i64 ((rd_T68 t1_0 0).f0), .slice A_9 ((rd_T68 t1_0 0).f1).length c_9, .slice A_10 ((rd_T68 t1_0 0).f2).length c_10, .slice A_11 ((rd_T68 t1_0 0).f3).length c_11, .int .i64 ((rd_T68 t1_0 0).f4)]) 2 (some 5) rfl rfl rfl) rfl (sv (EV.mv rfl) rfl ?_))))))))))
        revert H; refine bdI ?_; rintro ⟨t30_0, t30_1, t30_2, t30_3, t30_4, t30_5⟩ A30 H
        refine so rfl (op_call (spec_JoinChunk.ok k ((rd_T68 t1_0 0).f0) ((rd_T68 t1_0 0).f1) A_9 c_9 ((rd_T68 t1_0 0).f2) A_10 c_10 ((rd_T68 t1_0 0).f3) A_11 c_11 ((rd_T68 t1_0 0).f4) t29_0 At29_0 ct29_0 _ _ _ _ _ _ A30) [⟨2, 0, 0, false⟩, ⟨3, 0, 0, false⟩, ⟨4, 0, 0, false⟩, ⟨6, 0, 0, false⟩] 6 rfl rfl rfl rfl rfl ?_)
        rintro _ _ _ ⟨At30_0, ct30_0, At30_2, ct30_2, At30_3, ct30_3, At30_4, ct30_4, rfl, rfl, rfl⟩
        refine sv (EV.mv rfl) rfl (sv (EV.ex rfl rfl) rfl (sv (EV.ex rfl rfl) rfl (so rfl (op_alloc (cs := [.int .i64 0, .slice none 0 0, .slice none 0 0, .slice none 0 0, .int .i64 0]) (by kernel_rfl) rfl fun b18 => (sv (EV.as rfl) rfl (so rfl (op_st (cs' := [.int .i64 t30_1, .slice At30_2 t30_2.length ct30_2, .slice At30_3 t30_3.length ct30_3, .slice At30_4 t30_4.length ct30_4, .int .i64 t30_5]) 3 rfl rfl rfl rfl rfl rfl (re (pr [4, 8, 10, 15, 16, 17, 18] [0, 1, 3] [0, 5, 6, 7, 8, 9, 10, 11] rfl rfl rfl rfl (gs (rg (sv (EV.mv rfl) rfl (sv (EV.fa 2 rfl) rfl (so rfl (op_st (cs' := [.int .i64 t30_1, .slice At30_2 t30_2.length ct30_2, .slice At29_1 t29_1.length ct29_1, .slice At30_4 t30_4.length ct30_4, .int .i64 t30_5]) 2 rfl rfl rfl rfl rfl rfl (re (gs (rg (sv (EV.ld (v := .agg #[.int .i64 t30_1, .slice At30_2 t30_2.length ct30_2, .slice At29_1 t29_1.length ct29_1, .slice At30_4 t30_4.length ct30_4, .int .i64 t30_5]) 2 (some 5) rfl rfl rfl) rfl (so rfl (op_lit (s := 5) (by_ := 88) k68 ([(⟨t30_1, t30_2, t29_1, t30_4, t30_5⟩ : S68)] : List S68) [[(At30_2, ct30_2), (At29_1, ct29_1), (At30_4, ct30_4)]] [5, 3, 7] 11 [.tmp 107] rfl rfl rfl rfl rfl rfl rfl rfl rfl rfl rfl rfl rfl dq rfl fun A108_31 c108_31 => (nmE (en := [.sl 2 k68 At1_0 ct1_0 t1_0 2 true, .sl 1 k68 (cutA At1_0 ct1_0 (1 : Int).toNat 5) (ct1_0 - (1 : Int).toNat) (t1_0.drop (1 : Int).toNat) 2 true, .sl 2 k77 At29_0 ct29_0 t29_0 4 true, .sl 2 k77 At29_1 ct29_1 t29_1 11 true, .sl 2 k99 At30_0 ct30_0 t30_0 7 true, .sl 2 k77 At30_2 ct30_2 t30_2 11 true, .sl 2 k77 At30_3 ct30_3 t30_3 9 true, .sl 2 .bool At30_4 ct30_4 t30_4 11 true, .sl 2 k68 A108_31 c108_31 ([(⟨t30_1, t30_2, t29_1, t30_4, t30_5⟩ : S68)] : List S68) 11 true]) (by kernel_rfl) (sv (EV.mv rfl) rfl ?_)))))))))))))))))))))))
        revert H; refine ggI ?_; intro g32 H
        refine so rfl (op_app (k := k68) (s := 5) (by_ := 88) 8 1 rfl rfl rfl rfl (ap2 g32 dq) (ap2n g32 dq) (.inr ⟨dq, dq, rfl, dq⟩) true (fun _ => .inr ⟨rfl, rfl, dq⟩) rfl rfl fun A110_33 c110_33 => (nmE (en := [.sl 2 k68 At1_0 ct1_0 t1_0 11 true, .sl 1 k68 (cutA At1_0 ct1_0 (1 : Int).toNat 5) (ct1_0 - (1 : Int).toNat) (t1_0.drop (1 : Int).toNat) 11 true, .sl 2 k77 At29_0 ct29_0 t29_0 4 true, .sl 2 k99 At30_0 ct30_0 t30_0 7 true, .sl 2 k77 At30_3 ct30_3 t30_3 9 true, .sl 2 k68 A110_33 c110_33 (([(⟨t30_1, t30_2, t29_1, t30_4, t30_5⟩ : S68)] : List S68) ++ (t1_0.drop (1 : Int).toNat)) 11 true]) (by kernel_rfl) (sv (EV.fa 0 rfl) rfl (so rfl (op_st (cs' := [.slice A110_33 (([(⟨t30_1, t30_2, t29_1, t30_4, t30_5⟩ : S68)] : List S68) ++ (t1_0.drop (1 : Int).toNat)).length c110_33, .int .i64 t1_1, .int .i64 t1_2]) 1 rfl rfl rfl rfl rfl rfl (re (pr [4, 8, 15, 17] [0, 1] [2, 3, 5] rfl rfl rfl rfl (gs (dr [1] [0, 1, 2] [6, 7] 8 rfl rfl rfl rfl (xv 0 [1] [0, 1, 2] rfl (EV.ld (v := .agg #[.slice A110_33 (([(⟨t30_1, t30_2, t29_1, t30_4, t30_5⟩ : S68)] : List S68) ++ (t1_0.drop (1 : Int).toNat)).length c110_33, .int .i64 t1_1, .int .i64 t1_2]) 0 (some 3) rfl rfl rfl) rfl rfl rfl rfl (xv 1 [1] [0, 1, 2] rfl (EV.mv rfl) rfl rfl rfl rfl (xv 2 [1] [0, 1, 2] rfl (EV.mv rfl) rfl rfl rfl rfl (one1 3 rfl rfl ?_)))))))))))))
        revert H; refine bdI ?_; rintro t34 A34 H
        refine op_call (spec_TotalCost.ok k t29_0 At29_0 ct29_0 _ A34) [⟨0, 0, 0, false⟩] 12 rfl rfl rfl rfl rfl ?_
        rintro _ _ _ ⟨rfl, rfl, rfl⟩
        refine xs [1] [0, 1, 2] rfl rfl rfl (one1 4 rfl rfl (op_st (cs' := [.slice A110_33 (([(⟨t30_1, t30_2, t29_1, t30_4, t30_5⟩ : S68)] : List S68) ++ (t1_0.drop (1 : Int).toNat)).length c110_33, .int .i64 t1_1, .int .i64 t1_2]) 0 rfl rfl rfl rfl rfl rfl (xs [1] [0, 1, 2] rfl rfl rfl (one1 5 rfl rfl (ov (EV.as rfl) rfl (xs [1] [0, 1, 2] rfl rfl rfl (one1 6 rfl rfl (ov (EV.as rfl) rfl (xn rfl (one1 7 rfl rfl (ov (EV.as rfl) rfl (xn rfl (xd (pr [4, 5, 6, 7] [0] [1, 2] rfl rfl rfl rfl ?_))))))))))))))
        cases H
        exact rt Try.func37 rfl (.cell 0 (some 3) rfl rfl rfl (.tmp rfl (.tmp rfl (.tmp rfl .nil)))) rfl [] [⟨1, 1, 1, true⟩, ⟨0, 2, 2, true⟩] rfl rfl rfl rfl rfl ⟨_, _, _, _, rfl, rfl, rfl⟩
       ·
        obtain rfl := bF c28
        refine gf rfl rfl (gk (gs (rg (sv (EV.ld (v := .agg #[.int .i64 ((rd_T68 t1_0 0).f0), .slice A_9 ((rd_T68 t1_0 0).f1).length c_9, .slice A_10 ((rd_T68 t1_0 0).f2).length c_10, .slice A_11 ((rd_T68 t1_0 0).f3).length c_11, .int .i64 ((rd_T68 t1_0 0).f4)]) 3 (some 5) rfl rfl rfl) rfl ?_))))
        revert H; refine bdI ?_; rintro ⟨t35_0, t35_1, t35_2, t35_3, t35_4, t35_5, t35_6, t35_7, t35_8, t35_9, t35_10⟩ A35 H
        refine so rfl (op_call (spec_PartitionTask.ok k ((rd_T68 t1_0 0).f0) ((rd_T68 t1_0 0).f1) A_9 c_9 ((rd_T68 t1_0 0).f2) A_10 c_10 ((rd_T68 t1_0 0).f3) A_11 c_11 ((rd_T68 t1_0 0).f4) _ _ _ _ _ _ _ _ _ _ _ A35) [⟨3, 0, 0, false⟩, ⟨4, 0, 0, false⟩, ⟨5, 0, 0, false⟩] 3 rfl rfl rfl rfl rfl ?_)
        rintro _ _ _ ⟨At35_1, ct35_1, At35_2, ct35_2, At35_3, ct35_3, At35_6, ct35_6, At35_7, ct35_7, At35_8, ct35_8, rfl, rfl, rfl⟩
        refine sv (EV.mv rfl) rfl (sv (EV.ex rfl rfl) rfl (sv (EV.ex rfl rfl) rfl (sv (EV.ex rfl rfl) rfl (so rfl (op_alloc (cs := [.int .i64 0, .slice none 0 0, .slice none 0 0, .slice none 0 0, .int .i64 0]) (by kernel_rfl) rfl fun b19 => (so rfl (op_alloc (cs := [.int .i64 0, .slice none 0 0, .slice none 0 0, .slice none 0 0, .int .i64 0]) (by kernel_rfl) rfl fun b20 => (so rfl (op_st (cs' := [.int .i64 t35_0, .slice At35_1 t35_1.length ct35_1, .slice At35_2 t35_2.length ct35_2, .slice At35_3 t35_3.length ct35_3, .int .i64 t35_4]) 4 rfl rfl rfl rfl rfl rfl (so rfl (op_st (cs' := [.int .i64 t35_5, .slice At35_6 t35_6.length ct35_6, .slice At35_7 t35_7.length ct35_7, .slice At35_8 t35_8.length ct35_8, .int .i64 t35_9]) 5 rfl rfl rfl rfl rfl rfl (sv (EV.as rfl) rfl (re (pr [2, 4, 8, 9, 10, 19, 20] [0, 1, 2, 3, 4, 5] [0, 1, 2, 3, 4, 5, 6, 7, 8, 9, 10, 11, 12] rfl rfl rfl rfl (gs (rg (sv (EV.ld (v := .agg #[.int .i64 t35_0, .slice At35_1 t35_1.length ct35_1, .slice At35_2 t35_2.length ct35_2, .slice At35_3 t35_3.length ct35_3, .int .i64 t35_4]) 4 (some 5) rfl rfl rfl) rfl (sv (EV.ld (v := .agg #[.int .i64 t35_5, .slice At35_6 t35_6.length ct35_6, .slice At35_7 t35_7.length ct35_7, .slice At35_8 t35_8.length ct35_8, .int .i64 t35_9]) 5 (some 5) rfl rfl rfl) rfl (so rfl (op_lit (s := 5) (by_ := 88) k68 ([(⟨t35_0, t35_1, t35_2, t35_3, t35_4⟩ : S68), (⟨t35_5, t35_6, t35_7, t35_8, t35_9⟩ : S68)] : List S68) [[(At35_1, ct35_1), (At35_2, ct35_2), (At35_3, ct35_3)], [(At35_6, ct35_6), (At35_7, ct35_7), (At35_8, ct35_8)]] [7, 8, 9, 10, 11, 12] 10 [.tmp 122, .tmp 123] rfl rfl rfl rfl rfl rfl rfl rfl rfl rfl rfl rfl rfl dq rfl fun A124_36 c124_36 => (nmE (en := [.sl 0 k68 Al0_0 cl0_0 l0_0 0 false, .sl 2 k68 At1_0 ct1_0 t1_0 2 true, celE At1_0 ((0 : Int).toNat * 5) [.int .i64 ((rd_T68 t1_0 0).f0), .slice A_9 ((rd_T68 t1_0 0).f1).length c_9, .slice A_10 ((rd_T68 t1_0 0).f2).length c_10, .slice A_11 ((rd_T68 t1_0 0).f3).length c_11, .int .i64 ((rd_T68 t1_0 0).f4)] 2, .sl 1 k77 A_9 c_9 ((rd_T68 t1_0 0).f1) 2 true, .sl 1 k77 A_10 c_10 ((rd_T68 t1_0 0).f2) 2 true, .sl 1 .bool A_11 c_11 ((rd_T68 t1_0 0).f3) 2 true, .sl 1 k68 (cutA At1_0 ct1_0 (1 : Int).toNat 5) (ct1_0 - (1 : Int).toNat) (t1_0.drop (1 : Int).toNat) 2 true, .sl 2 k77 At35_1 ct35_1 t35_1 10 true, .sl 2 k77 At35_2 ct35_2 t35_2 10 true, .sl 2 .bool At35_3 ct35_3 t35_3 10 true, .sl 2 k77 At35_6 ct35_6 t35_6 10 true, .sl 2 k77 At35_7 ct35_7 t35_7 10 true, .sl 2 .bool At35_8 ct35_8 t35_8 10 true, .sl 2 k68 A124_36 c124_36 ([(⟨t35_0, t35_1, t35_2, t35_3, t35_4⟩ : S68), (⟨t35_5, t35_6, t35_7, t35_8, t35_9⟩ : S68)] : List S68) 10 true]) (by kernel_rfl) (sv (EV.mv rfl) rfl ?_))))))))))))))))))))))
        revert H; refine ggI ?_; intro g37 H
        refine so rfl (op_app (k := k68) (s := 5) (by_ := 88) 13 6 rfl rfl rfl rfl (ap2 g37 dq) (ap2n g37 dq) (.inr ⟨dq, dq, rfl, dq⟩) true (fun _ => .inr ⟨rfl, rfl, dq⟩) rfl rfl fun A126_38 c126_38 => (nmE (en := [.sl 0 k68 Al0_0 cl0_0 l0_0 0 false, .sl 2 k68 At1_0 ct1_0 t1_0 10 true, celE At1_0 ((0 : Int).toNat * 5) [.int .i64 ((rd_T68 t1_0 0).f0), .slice A_9 ((rd_T68 t1_0 0).f1).length c_9, .slice A_10 ((rd_T68 t1_0 0).f2).length c_10, .slice A_11 ((rd_T68 t1_0 0).f3).length c_11, .int .i64 ((rd_T68 t1_0 0).f4)] 10, .sl 1 k77 A_9 c_9 ((rd_T68 t1_0 0).f1) 10 true, .sl 1 k77 A_10 c_10 ((rd_T68 t1_0 0).f2) 10 true, .sl 1 .bool A_11 c_11 ((rd_T68 t1_0 0).f3) 10 true, .sl 1 k68 (cutA At1_0 ct1_0 (1 : Int).toNat 5) (ct1_0 - (1 : Int).toNat) (t1_0.drop (1 : Int).toNat) 10 true, .sl 2 k68 A126_38 c126_38 (([(⟨t35_0, t35_1, t35_2, t35_3, t35_4⟩ : S68), (⟨t35_5, t35_6, t35_7, t35_8, t35_9⟩ : S68)] : List S68) ++ (t1_0.drop (1 : Int).toNat)) 10 true]) (by kernel_rfl) (sv (EV.fa 0 rfl) rfl (so rfl (op_st (cs' := [.slice A126_38 (([(⟨t35_0, t35_1, t35_2, t35_3, t35_4⟩ : S68), (⟨t35_5, t35_6, t35_7, t35_8, t35_9⟩ : S68)] : List S68) ++ (t1_0.drop (1 : Int).toNat)).length c126_38, .int .i64 t1_1, .int .i64 t1_2]) 2 rfl rfl rfl rfl rfl rfl (re (pr [2, 4, 8, 9] [0, 1, 2, 3] [0, 3, 4, 5, 7] rfl rfl rfl rfl (gs (dr [0, 1, 2, 3] [0, 1, 2, 3, 4] [6] 7 rfl rfl rfl rfl (xv 0 [0, 1, 2, 3] [0, 1, 2, 3, 4] rfl (EV.fa 1 rfl) rfl rfl rfl rfl (xv 1 [0, 1, 2, 3] [0, 1, 2, 3, 4] rfl (EV.ld 0 none rfl rfl rfl) rfl rfl rfl rfl (xv 2 [0, 1, 2, 3] [0, 1, 2, 3, 4] rfl (EV.ld (v := .agg #[.int .i64 ((rd_T68 t1_0 0).f0), .slice A_9 ((rd_T68 t1_0 0).f1).length c_9, .slice A_10 ((rd_T68 t1_0 0).f2).length c_10, .slice A_11 ((rd_T68 t1_0 0).f3).length c_11, .int .i64 ((rd_T68 t1_0 0).f4)]) 3 (some 5) rfl rfl rfl) rfl rfl rfl rfl (one1 3 rfl rfl ?_)))))))))))))
        revert H; refine bdI ?_; rintro t39 A39 H
        refine op_call (spec_TaskCost.ok k ((rd_T68 t1_0 0).f0) ((rd_T68 t1_0 0).f1) A_9 c_9 ((rd_T68 t1_0 0).f2) A_10 c_10 ((rd_T68 t1_0 0).f3) A_11 c_11 ((rd_T68 t1_0 0).f4) _ A39) [⟨1, 0, 0, false⟩, ⟨2, 0, 0, false⟩, ⟨3, 0, 0, false⟩] 11 rfl rfl rfl rfl rfl ?_
        rintro _ _ _ ⟨rfl, rfl, rfl⟩
        refine xs [0, 1, 2, 3] [0, 1, 2, 3, 4] rfl rfl rfl (xv 4 [0, 1, 2, 3] [0, 1, 2, 3, 4] rfl (EV.add rfl rfl) rfl rfl rfl rfl (xv 5 [0, 1, 2, 3] [0, 1, 2, 3, 4] rfl (EV.fa 1 rfl) rfl rfl rfl rfl (one1 6 rfl rfl (op_st (cs' := [.slice A126_38 (([(⟨t35_0, t35_1, t35_2, t35_3, t35_4⟩ : S68), (⟨t35_5, t35_6, t35_7, t35_8, t35_9⟩ : S68)] : List S68) ++ (t1_0.drop (1 : Int).toNat)).length c126_38, .int .i64 (wrap64 (a0_1 + t39)), .int .i64 t1_2]) 2 rfl rfl rfl rfl rfl rfl (xn rfl (xd (pr [2, 4, 8] [0, 1, 2] [0, 4] rfl rfl rfl rfl (gs (rg (sv (EV.fa 2 rfl) rfl (sv (EV.ld 0 none rfl rfl rfl) rfl (sv (EV.add rfl rfl) rfl (sv (EV.fa 2 rfl) rfl (so rfl (op_st (cs' := [.slice A126_38 (([(⟨t35_0, t35_1, t35_2, t35_3, t35_4⟩ : S68), (⟨t35_5, t35_6, t35_7, t35_8, t35_9⟩ : S68)] : List S68) ++ (t1_0.drop (1 : Int).toNat)).length c126_38, .int .i64 (wrap64 (a0_1 + t39)), .int .i64 (wrap64 (a0_2 + 1))]) 2 rfl rfl rfl rfl rfl rfl (re (gs (rg (sv (EV.ld (v := .agg #[.slice A126_38 (([(⟨t35_0, t35_1, t35_2, t35_3, t35_4⟩ : S68), (⟨t35_5, t35_6, t35_7, t35_8, t35_9⟩ : S68)] : List S68) ++ (t1_0.drop (1 : Int).toNat)).length c126_38, .int .i64 (wrap64 (a0_1 + t39)), .int .i64 (wrap64 (a0_2 + 1))]) 2 (some 3) rfl rfl rfl) rfl (so rfl (op_lit (s := 7) (by_ := 56) k99 ([] : List S99) [] [] 11 [] rfl rfl rfl rfl rfl rfl rfl rfl rfl rfl rfl rfl rfl dq rfl fun A139_40 c139_40 => (so rfl (op_st (cs' := [.slice A126_38 (([(⟨t35_0, t35_1, t35_2, t35_3, t35_4⟩ : S68), (⟨t35_5, t35_6, t35_7, t35_8, t35_9⟩ : S68)] : List S68) ++ (t1_0.drop (1 : Int).toNat)).length c126_38, .int .i64 (wrap64 (a0_1 + t39)), .int .i64 (wrap64 (a0_2 + 1))]) 1 rfl rfl rfl rfl rfl rfl (sv (EV.as rfl) rfl (sv (EV.as rfl) rfl (sv (EV.as rfl) rfl (re (pr [4, 5, 6, 7] [1] [1, 2] rfl rfl rfl rfl ?_))))))))))))))))))))))))))))
        cases H
        exact rt Try.func37 rfl (.cell 0 (some 3) rfl rfl rfl (.tmp rfl (.tmp rfl (.tmp rfl .nil)))) rfl [] [⟨0, 1, 1, true⟩, ⟨1, 2, 2, true⟩] rfl rfl rfl rfl rfl ⟨_, _, _, _, rfl, rfl, rfl⟩
   ·
    obtain rfl := bF c7
    refine gt rfl rfl (gs (rg (sv (EV.ld (v := .agg #[.slice At1_0 t1_0.length ct1_0, .int .i64 t1_1, .int .i64 t1_2]) 2 (some 3) rfl rfl rfl) rfl (so rfl (op_lit (s := 7) (by_ := 56) k99 ([] : List S99) [] [] 3 [] rfl rfl rfl rfl rfl rfl rfl rfl rfl rfl rfl rfl rfl dq rfl fun A39_41 c39_41 => (so rfl (op_st (cs' := [.slice At1_0 t1_0.length ct1_0, .int .i64 t1_1, .int .i64 t1_2]) 1 rfl rfl rfl rfl rfl rfl (sv (EV.as rfl) rfl (sv (EV.as rfl) rfl (sv (EV.as rfl) rfl (re (pr [4, 5, 6, 7] [1] [1, 2] rfl rfl rfl rfl ?_))))))))))))
    cases H
    exact rt Try.func37 rfl (.cell 0 (some 3) rfl rfl rfl (.tmp rfl (.tmp rfl (.tmp rfl .nil)))) rfl [] [⟨0, 1, 1, true⟩, ⟨1, 2, 2, true⟩] rfl rfl rfl rfl rfl ⟨_, _, _, _, rfl, rfl, rfl⟩
 ·
  obtain rfl := bF c3
  refine ts 27 rfl rfl (sk rfl (sk rfl (sk rfl (sk rfl (sv (EV.pt rfl rfl rfl) rfl (sv (EV.mv rfl) rfl (sk rfl (sk rfl (sk rfl (sv (EV.pt rfl rfl rfl) rfl (re (pr [1, 2, 4, 8, 37] [0, 1, 2] [0, 1] rfl rfl rfl rfl (gt rfl rfl (gs (rg (sv (EV.ld (v := .agg #[.slice At1_0 t1_0.length ct1_0, .int .i64 t1_1, .int .i64 t1_2]) 2 (some 3) rfl rfl rfl) rfl (so rfl (op_lit (s := 7) (by_ := 56) k99 ([] : List S99) [] [] 3 [] rfl rfl rfl rfl rfl rfl rfl rfl rfl rfl rfl rfl rfl dq rfl fun A39_42 c39_42 => (so rfl (op_st (cs' := [.slice At1_0 t1_0.length ct1_0, .int .i64 t1_1, .int .i64 t1_2]) 1 rfl rfl rfl rfl rfl rfl (sv (EV.as rfl) rfl (sv (EV.as rfl) rfl (sv (EV.as rfl) rfl (re (pr [4, 5, 6, 7] [1] [1, 2] rfl rfl rfl rfl ?_)))))))))))))))))))))))))
  cases H
  exact rt Try.func37 rfl (.cell 0 (some 3) rfl rfl rfl (.tmp rfl (.tmp rfl (.tmp rfl .nil)))) rfl [] [⟨0, 1, 1, true⟩, ⟨1, 2, 2, true⟩] rfl rfl rfl rfl rfl ⟨_, _, _, _, rfl, rfl, rfl⟩
end Go.Proofs.Ytfcebaplphpajaa.K
namespace Go.Proofs.Ytfcebaplphpajaa.K
open Go Go.RowKit
set_option linter.unusedVariables false
set_option linter.unusedSimpArgs false
def spec_l20Go.l0 : Nat → (List S68) → Int → Int → (List S99) → Int → Int → Int → (List S99) → Int → Int → Int → (List Int) → Option ((List S99) × Int × Int × Int)
 | 0, _, _, _, _, _, _, _, _, _, _, _, _ => none
 | k + 1, x4_2_0, x4_2_1, x4_2_2, x4_4_0, x4_4_1, x4_4_2, x4_4_3, x4_5_0, x4_5_1, x4_5_2, x4_5_3, l1 => if (x4_2_0.length : Int) > 0 then (if (l1.length : Int) ≠ 0 then (if 0 ≤ (Int.tmod x4_5_1 (l1.length : Int)) then (if (Int.tmod x4_5_1 (l1.length : Int)) < (l1.length : Int) then ((spec_StepJoiner.f k x4_2_0 x4_2_1 x4_2_2 (rdOf 0 l1 (Int.tmod x4_5_1 (l1.length : Int)))).bind fun bt5 => (if bt5.2.2.2.2.2 = true then (if x4_5_0.length + bt5.2.2.2.1.length ≤ 2513169434916 then (spec_l20Go.l0 k bt5.1 bt5.2.1 bt5.2.2.1 x4_4_0 x4_4_1 x4_4_2 x4_4_3 (x4_5_0 ++ bt5.2.2.2.1) (wrap64 (x4_5_1 + 1)) (mx x4_5_2 bt5.2.2.2.2.1) x4_5_3 l1) else none) else (some (x4_5_0, x4_5_1, x4_5_2, x4_5_3)))) else none) else none) else none) else (some (x4_5_0, x4_5_1, x4_5_2, x4_2_1))
def spec_l20Go.f (k : Nat) (l0_0 : List S68) (a0_1 : Int) (a0_2 : Int) (l1 : List Int) : Option ((List S99) × Int × Int × Int) := spec_l20Go.l0 k l0_0 a0_1 a0_2 [] 0 0 0 [] 0 0 0 l1
set_option maxHeartbeats 4000000 in
set_option maxRecDepth 100000 in
theorem spec_l20Go.ok (k : Nat) (l0_0 : List S68) (Al0_0 : Option Addr) (cl0_0 : Nat) (a0_1 : Int) (a0_2 : Int) (l1 : List Int) (Al1 : Option Addr) (cl1 : Nat) (r0 : List S99) (r1 : Int) (r2 : Int) (r3 : Int) (H : spec_l20Go.f k l0_0 a0_1 a0_2 l1 = some (r0, r1, r2, r3)) : Fn Try.prog 58 [.agg #[.slice Al0_0 l0_0.length cl0_0, .int .i64 a0_1, .int .i64 a0_2], .slice Al1 l1.length cl1] [] [.sl 0 k68 Al0_0 cl0_0 l0_0 0 false, .sl 0 (.int .i64) Al1 cl1 l1 0 false] (fun v bx en => ∃ A0 c0, v = .agg #[.slice A0 r0.length c0, .int .i64 r1, .int .i64 r2, .int .i64 r3] ∧ bx = [] ∧ en = [.sl 2 k99 A0 c0 r0 1 true]) := by
 refine fn_ 52 Try.func58 rfl rfl rfl (fun base T w0 => ?_)
 rw [spec_l20Go.f] at H
 refine gs (rg (so rfl (op_box (cs := [.slice Al0_0 l0_0.length cl0_0, .int .i64 a0_1, .int .i64 a0_2]) rfl rfl rfl fun b2 => (so rfl (op_alloc (cs := [.slice none 0 0, .int .i64 0, .int .i64 0, .int .i64 0]) (by kernel_rfl) rfl fun b4 => (re (gs (rg (sv (EV.bd (v := .agg #[.slice none 0 0, .int .i64 0, .int .i64 0, .int .i64 0]) rfl (by kernel_rfl)) rfl (so rfl (op_alloc (cs := [.slice none 0 0, .int .i64 0, .int .i64 0, .int .i64 0]) (by kernel_rfl) rfl fun b5 => (so rfl (op_st (cs' := [.slice none 0 0, .int .i64 0, .int .i64 0, .int .i64 0]) 2 rfl rfl rfl rfl rfl rfl (re (gs (gb (nil_ k99 1 dq (nil_ k99 2 dq ?_))))))))))))))))))
 refine lo (fun kk S => ∃ (x4_2_0 : List S68) (Ax4_2_0 : Option Addr) (cx4_2_0 : Nat) (x4_2_1 : Int) (x4_2_2 : Int) (x4_4_0 : List S99) (Ax4_4_0 : Option Addr) (cx4_4_0 : Nat) (x4_4_1 : Int) (x4_4_2 : Int) (x4_4_3 : Int) (x4_5_0 : List S99) (Ax4_5_0 : Option Addr) (cx4_5_0 : Nat) (x4_5_1 : Int) (x4_5_2 : Int) (x4_5_3 : Int), spec_l20Go.l0 kk x4_2_0 x4_2_1 x4_2_2 x4_4_0 x4_4_1 x4_4_2 x4_4_3 x4_5_0 x4_5_1 x4_5_2 x4_5_3 l1 = some (r0, r1, r2, r3) ∧ S = ⟨[(1, .slice Al1 l1.length cl1), (2, .pointer (some ⟨b2, 0, none⟩)), (4, .pointer (some ⟨b4, 0, none⟩)), (5, .pointer (some ⟨b5, 0, none⟩))], [⟨b2, 29, [.slice Ax4_2_0 x4_2_0.length cx4_2_0, .int .i64 x4_2_1, .int .i64 x4_2_2]⟩, ⟨b4, 53, [.slice Ax4_4_0 x4_4_0.length cx4_4_0, .int .i64 x4_4_1, .int .i64 x4_4_2, .int .i64 x4_4_3]⟩, ⟨b5, 53, [.slice Ax4_5_0 x4_5_0.length cx4_5_0, .int .i64 x4_5_1, .int .i64 x4_5_2, .int .i64 x4_5_3]⟩], [.sl 0 k68 Ax4_2_0 cx4_2_0 x4_2_0 0 false, .sl 2 k99 Ax4_4_0 cx4_4_0 x4_4_0 1 true, .sl 2 k99 Ax4_5_0 cx4_5_0 x4_5_0 2 true, .sl 0 (.int .i64) Al1 cl1 l1 0 false]⟩) (fun S hS => ?_) (fun n0 ih0 S hS => ?_) ⟨l0_0, Al0_0, cl0_0, a0_1, a0_2, [], none, 0, 0, 0, 0, [], none, 0, 0, 0, 0, H, rfl⟩ (fun h => wk [1, 2, 4, 5] [0, 1, 2] [⟨0, 0, 0, false⟩, ⟨2, 2, 1, true⟩, ⟨3, 2, 2, true⟩, ⟨1, 0, 0, false⟩] h)
 · clear H; obtain ⟨_, _, _, _, _, _, _, _, _, _, _, _, _, _, _, _, _, H, _⟩ := hS; rw [spec_l20Go.l0] at H; cases H
 clear H
 obtain ⟨x4_2_0, Ax4_2_0, cx4_2_0, x4_2_1, x4_2_2, x4_4_0, Ax4_4_0, cx4_4_0, x4_4_1, x4_4_2, x4_4_3, x4_5_0, Ax4_5_0, cx4_5_0, x4_5_1, x4_5_2, x4_5_3, H, rfl⟩ := hS
 rw [spec_l20Go.l0] at H
 refine gs (gs (rg (sv (EV.fa 0 rfl) rfl (sv (EV.ld 0 none rfl rfl rfl) rfl (sv (EV.ln rfl) rfl (sv (EV.gtr rfl rfl) rfl (re ?_)))))))
 revert H; refine ifsI ?_ ?_ <;> intro c1 H
 ·
  refine gt rfl (dT c1) (gk (gb (gs ?_)))
  revert H; refine ggI ?_; intro g2 H
  refine dr [0, 1, 2] [0, 1, 2, 3] [19] 20 rfl rfl rfl rfl (xv 0 [0, 1, 2] [0, 1, 2, 3] rfl (EV.ld (v := .agg #[.slice Ax4_2_0 x4_2_0.length cx4_2_0, .int .i64 x4_2_1, .int .i64 x4_2_2]) 0 (some 3) rfl rfl rfl) rfl rfl rfl rfl (xv 1 [0, 1, 2] [0, 1, 2, 3] rfl (EV.mv rfl) rfl rfl rfl rfl (xv 2 [0, 1, 2] [0, 1, 2, 3] rfl (EV.fa 1 rfl) rfl rfl rfl rfl (xv 3 [0, 1, 2] [0, 1, 2, 3] rfl (EV.ld 2 none rfl rfl rfl) rfl rfl rfl rfl (xv 4 [0, 1, 2] [0, 1, 2, 3] rfl (EV.mv rfl) rfl rfl rfl rfl (xv 5 [0, 1, 2] [0, 1, 2, 3] rfl (EV.ln rfl) rfl rfl rfl rfl (xv 6 [0, 1, 2] [0, 1, 2, 3] rfl (EV.rem rfl rfl g2) rfl rfl rfl rfl ?_)))))))
  revert H; refine ggI ?_; intro g3 H
  revert H; refine ggI ?_; intro g4 H
  refine xv 7 [0, 1, 2] [0, 1, 2, 3] rfl (EV.ix 3 rfl rfl rfl g3 g4 rfl) rfl rfl rfl rfl (xv 8 [0, 1, 2] [0, 1, 2, 3] rfl (EV.le (v := .int .i64 (rdOf 0 l1 (Int.tmod x4_5_1 (l1.length : Int)))) (Int.tmod x4_5_1 (l1.length : Int)) 0 none 3 0 rfl rfl rfl g3 g4 rfl rfl rfl) rfl rfl rfl rfl ?_)
  refine one2 9 15 rfl rfl rfl rfl ?_ ?_
  ·
   revert H; refine bdI ?_; rintro ⟨t5_0, t5_1, t5_2, t5_3, t5_4, t5_5⟩ A5 H
   refine op_call (spec_StepJoiner.ok n0 x4_2_0 Ax4_2_0 cx4_2_0 x4_2_1 x4_2_2 (rdOf 0 l1 (Int.tmod x4_5_1 (l1.length : Int))) _ _ _ _ _ _ A5) [⟨0, 0, 0, false⟩] 3 rfl rfl rfl rfl rfl ?_
   rintro _ _ _ ⟨At5_0, ct5_0, At5_3, ct5_3, rfl, rfl, rfl⟩
   refine xs [0, 1, 2] [0, 1, 2, 3] rfl rfl rfl (xv 10 [0, 1, 2] [0, 1, 2, 3] rfl (EV.mv rfl) rfl rfl rfl rfl (xv 11 [0, 1, 2] [0, 1, 2, 3] rfl (EV.ex rfl rfl) rfl rfl rfl rfl (xv 12 [0, 1, 2] [0, 1, 2, 3] rfl (EV.ex rfl rfl) rfl rfl rfl rfl (xv 13 [0, 1, 2] [0, 1, 2, 3] rfl (EV.ex rfl rfl) rfl rfl rfl rfl (xv 14 [0, 1, 2] [0, 1, 2, 3] rfl (EV.ex rfl rfl) rfl rfl rfl rfl (one1 15 rfl rfl (op_alloc (cs := [.slice none 0 0, .int .i64 0, .int .i64 0]) (by kernel_rfl) rfl fun b6 => (xs [0, 1, 2] [0, 1, 2, 3] rfl rfl rfl (one1 16 rfl rfl (op_st (cs' := [.slice At5_0 t5_0.length ct5_0, .int .i64 t5_1, .int .i64 t5_2]) 3 rfl rfl rfl rfl rfl rfl (xs [0, 1, 2] [0, 1, 2, 3] rfl rfl rfl (one1 17 rfl rfl (ov (EV.as rfl) rfl (xs [0, 1, 2] [0, 1, 2, 3] rfl rfl rfl (one1 18 rfl rfl (ov (EV.as rfl) rfl (xs [0, 1, 2] [0, 1, 2, 3] rfl rfl rfl (one1 19 rfl rfl (ov (EV.as rfl) rfl (xn rfl (xd (pr [1, 2, 4, 5, 6, 7, 8, 9] [0, 1, 2, 3] [0, 1, 2, 3, 4, 5] rfl rfl rfl rfl (gs (gs (rg (sv (EV.mv rfl) rfl (sv (EV.nt rfl) rfl (re ?_))))))))))))))))))))))))))))
   revert H; refine ifsI ?_ ?_ <;> intro c6 H
   ·
    subst c6
    refine gf rfl rfl (gk (gs (rg (sv (EV.fa 1 rfl) rfl (sv (EV.ld 2 none rfl rfl rfl) rfl (sv (EV.add rfl rfl) rfl (sv (EV.fa 1 rfl) rfl (so rfl (op_st (cs' := [.slice Ax4_5_0 x4_5_0.length cx4_5_0, .int .i64 (wrap64 (x4_5_1 + 1)), .int .i64 x4_5_2, .int .i64 x4_5_3]) 2 rfl rfl rfl rfl rfl rfl (re (pr [1, 2, 4, 5, 6, 7, 8] [0, 1, 2, 3] [0, 1, 2, 3, 4, 5] rfl rfl rfl rfl (gs (rg (sv (EV.fa 0 rfl) rfl (sv (EV.ld 2 none rfl rfl rfl) rfl (sv (EV.mv rfl) rfl ?_))))))))))))))))
    revert H; refine ggI ?_; intro g7 H
    exact so rfl (op_app (k := k99) (s := 7) (by_ := 56) 2 5 rfl rfl rfl rfl (ap2 g7 dq) (ap2n g7 dq) (.inl rfl) true (fun _ => .inl rfl) rfl rfl fun A40_8 c40_8 => (nmE (en := [.sl 0 k68 Ax4_2_0 cx4_2_0 x4_2_0 0 false, .sl 2 k99 Ax4_4_0 cx4_4_0 x4_4_0 1 true, .sl 0 (.int .i64) Al1 cl1 l1 0 false, .sl 1 k68 At5_0 ct5_0 t5_0 4 true, .sl 2 k99 At5_3 ct5_3 t5_3 5 true, .sl 2 k99 A40_8 c40_8 (x4_5_0 ++ t5_3) 2 true]) (by kernel_rfl) (sv (EV.fa 0 rfl) rfl (so rfl (op_st (cs' := [.slice A40_8 (x4_5_0 ++ t5_3).length c40_8, .int .i64 (wrap64 (x4_5_1 + 1)), .int .i64 x4_5_2, .int .i64 x4_5_3]) 2 rfl rfl rfl rfl rfl rfl (re (pr [1, 2, 4, 5, 6, 8] [0, 1, 2, 3] [0, 1, 2, 3, 5] rfl rfl rfl rfl (gs (rg (sv (EV.fa 2 rfl) rfl (sv (EV.ld 2 none rfl rfl rfl) rfl (sv (EV.mv rfl) rfl (sv (EV.mx rfl rfl) rfl (sv (EV.fa 2 rfl) rfl (so rfl (op_st (cs' := [.slice A40_8 (x4_5_0 ++ t5_3).length c40_8, .int .i64 (wrap64 (x4_5_1 + 1)), .int .i64 (mx x4_5_2 t5_4), .int .i64 x4_5_3]) 2 rfl rfl rfl rfl rfl rfl (re (pr [1, 2, 4, 5, 6] [0, 1, 2, 3] [0, 1, 2, 3, 4] rfl rfl rfl rfl (rg (sv (EV.ld (v := .agg #[.slice At5_0 t5_0.length ct5_0, .int .i64 t5_1, .int .i64 t5_2]) 3 (some 3) rfl rfl rfl) rfl (so rfl (op_st (cs' := [.slice At5_0 t5_0.length ct5_0, .int .i64 t5_1, .int .i64 t5_2]) 0 rfl rfl rfl rfl rfl rfl (re (ge (wk [1, 2, 4, 5] [0, 1, 2] [⟨3, 0, 0, false⟩, ⟨1, 2, 1, true⟩, ⟨4, 2, 2, true⟩, ⟨2, 0, 0, false⟩] (ih0 _ (by omega) _ ⟨t5_0, At5_0, ct5_0, t5_1, t5_2, x4_4_0, Ax4_4_0, cx4_4_0, x4_4_1, x4_4_2, x4_4_3, x4_5_0 ++ t5_3, A40_8, c40_8, wrap64 (x4_5_1 + 1), mx x4_5_2 t5_4, x4_5_3, H, rfl⟩))))))))))))))))))))))))))
   ·
    obtain rfl := bF c6
    refine gt rfl rfl (gs (rg (sv (EV.ld (v := .agg #[.slice Ax4_5_0 x4_5_0.length cx4_5_0, .int .i64 x4_5_1, .int .i64 x4_5_2, .int .i64 x4_5_3]) 2 (some 4) rfl rfl rfl) rfl (so rfl (op_st (cs' := [.slice Ax4_5_0 x4_5_0.length cx4_5_0, .int .i64 x4_5_1, .int .i64 x4_5_2, .int .i64 x4_5_3]) 1 rfl rfl rfl rfl rfl rfl (re (pr [4] [1] [2] rfl rfl rfl rfl ?_)))))))
    cases H
    exact rt Try.func58 rfl (.cell 0 (some 4) rfl rfl rfl .nil) rfl [] [⟨0, 2, 1, true⟩] rfl rfl rfl rfl rfl ⟨_, _, rfl, rfl, rfl⟩
  ·
   refine op_alloc (cs := [.slice none 0 0, .int .i64 0, .int .i64 0]) (by kernel_rfl) rfl fun b6 => (xs [0, 1, 2] [0, 1, 2, 3] rfl rfl rfl (one1 9 rfl rfl ?_))
   revert H; refine bdI ?_; rintro ⟨t9_0, t9_1, t9_2, t9_3, t9_4, t9_5⟩ A9 H
   refine op_call (spec_StepJoiner.ok n0 x4_2_0 Ax4_2_0 cx4_2_0 x4_2_1 x4_2_2 (rdOf 0 l1 (Int.tmod x4_5_1 (l1.length : Int))) _ _ _ _ _ _ A9) [⟨0, 0, 0, false⟩] 3 rfl rfl rfl rfl rfl ?_
   rintro _ _ _ ⟨At9_0, ct9_0, At9_3, ct9_3, rfl, rfl, rfl⟩
   refine xs [0, 1, 2] [0, 1, 2, 3] rfl rfl rfl (xv 10 [0, 1, 2] [0, 1, 2, 3] rfl (EV.mv rfl) rfl rfl rfl rfl (xv 11 [0, 1, 2] [0, 1, 2, 3] rfl (EV.ex rfl rfl) rfl rfl rfl rfl (xv 12 [0, 1, 2] [0, 1, 2, 3] rfl (EV.ex rfl rfl) rfl rfl rfl rfl (xv 13 [0, 1, 2] [0, 1, 2, 3] rfl (EV.ex rfl rfl) rfl rfl rfl rfl (xv 14 [0, 1, 2] [0, 1, 2, 3] rfl (EV.ex rfl rfl) rfl rfl rfl rfl (one1 16 rfl rfl (op_st (cs' := [.slice At9_0 t9_0.length ct9_0, .int .i64 t9_1, .int .i64 t9_2]) 3 rfl rfl rfl rfl rfl rfl (xs [0, 1, 2] [0, 1, 2, 3] rfl rfl rfl (one1 17 rfl rfl (ov (EV.as rfl) rfl (xs [0, 1, 2] [0, 1, 2, 3] rfl rfl rfl (one1 18 rfl rfl (ov (EV.as rfl) rfl (xs [0, 1, 2] [0, 1, 2, 3] rfl rfl rfl (one1 19 rfl rfl (ov (EV.as rfl) rfl (xn rfl (xd (pr [1, 2, 4, 5, 6, 7, 8, 9] [0, 1, 2, 3] [0, 1, 2, 3, 4, 5] rfl rfl rfl rfl (gs (gs (rg (sv (EV.mv rfl) rfl (sv (EV.nt rfl) rfl (re ?_)))))))))))))))))))))))))
   revert H; refine ifsI ?_ ?_ <;> intro c10 H
   ·
    subst c10
    refine gf rfl rfl (gk (gs (rg (sv (EV.fa 1 rfl) rfl (sv (EV.ld 2 none rfl rfl rfl) rfl (sv (EV.add rfl rfl) rfl (sv (EV.fa 1 rfl) rfl (so rfl (op_st (cs' := [.slice Ax4_5_0 x4_5_0.length cx4_5_0, .int .i64 (wrap64 (x4_5_1 + 1)), .int .i64 x4_5_2, .int .i64 x4_5_3]) 2 rfl rfl rfl rfl rfl rfl (re (pr [1, 2, 4, 5, 6, 7, 8] [0, 1, 2, 3] [0, 1, 2, 3, 4, 5] rfl rfl rfl rfl (gs (rg (sv (EV.fa 0 rfl) rfl (sv (EV.ld 2 none rfl rfl rfl) rfl (sv (EV.mv rfl) rfl ?_))))))))))))))))
    revert H; refine ggI ?_; intro g11 H
    exact so rfl (op_app (k := k99) (s := 7) (by_ := 56) 2 5 rfl rfl rfl rfl (ap2 g11 dq) (ap2n g11 dq) (.inl rfl) true (fun _ => .inl rfl) rfl rfl fun A40_12 c40_12 => (nmE (en := [.sl 0 k68 Ax4_2_0 cx4_2_0 x4_2_0 0 false, .sl 2 k99 Ax4_4_0 cx4_4_0 x4_4_0 1 true, .sl 0 (.int .i64) Al1 cl1 l1 0 false, .sl 1 k68 At9_0 ct9_0 t9_0 4 true, .sl 2 k99 At9_3 ct9_3 t9_3 5 true, .sl 2 k99 A40_12 c40_12 (x4_5_0 ++ t9_3) 2 true]) (by kernel_rfl) (sv (EV.fa 0 rfl) rfl (so rfl (op_st (cs' := [.slice A40_12 (x4_5_0 ++ t9_3).length c40_12, .int .i64 (wrap64 (x4_5_1 + 1)), .int .i64 x4_5_2, .int .i64 x4_5_3]) 2 rfl rfl rfl rfl rfl rfl (re (pr [1, 2, 4, 5, 6, 8] [0, 1, 2, 3] [0, 1, 2, 3, 5] rfl rfl rfl rfl (gs (rg (sv (EV.fa 2 rfl) rfl (sv (EV.ld 2 none rfl rfl rfl) rfl (sv (EV.mv rfl) rfl (sv (EV.mx rfl rfl) rfl (sv (EV.fa 2 rfl) rfl (so rfl (op_st (cs' := [.slice A40_12 (x4_5_0 ++ t9_3).length c40_12, .int .i64 (wrap64 (x4_5_1 + 1)), .int .i64 (mx x4_5_2 t9_4), .int .i64 x4_5_3]) 2 rfl rfl rfl rfl rfl rfl (re (pr [1, 2, 4, 5, 6] [0, 1, 2, 3] [0, 1, 2, 3, 4] rfl rfl rfl rfl (rg (sv (EV.ld (v := .agg #[.slice At9_0 t9_0.length ct9_0, .int .i64 t9_1, .int .i64 t9_2]) 3 (some 3) rfl rfl rfl) rfl (so rfl (op_st (cs' := [.slice At9_0 t9_0.length ct9_0, .int .i64 t9_1, .int .i64 t9_2]) 0 rfl rfl rfl rfl rfl rfl (re (ge (wk [1, 2, 4, 5] [0, 1, 2] [⟨3, 0, 0, false⟩, ⟨1, 2, 1, true⟩, ⟨4, 2, 2, true⟩, ⟨2, 0, 0, false⟩] (ih0 _ (by omega) _ ⟨t9_0, At9_0, ct9_0, t9_1, t9_2, x4_4_0, Ax4_4_0, cx4_4_0, x4_4_1, x4_4_2, x4_4_3, x4_5_0 ++ t9_3, A40_12, c40_12, wrap64 (x4_5_1 + 1), mx x4_5_2 t9_4, x4_5_3, H, rfl⟩))))))))))))))))))))))))))
   ·
    obtain rfl := bF c10
    refine gt rfl rfl (gs (rg (sv (EV.ld (v := .agg #[.slice Ax4_5_0 x4_5_0.length cx4_5_0, .int .i64 x4_5_1, .int .i64 x4_5_2, .int .i64 x4_5_3]) 2 (some 4) rfl rfl rfl) rfl (so rfl (op_st (cs' := [.slice Ax4_5_0 x4_5_0.length cx4_5_0, .int .i64 x4_5_1, .int .i64 x4_5_2, .int .i64 x4_5_3]) 1 rfl rfl rfl rfl rfl rfl (re (pr [4] [1] [2] rfl rfl rfl rfl ?_)))))))
    cases H
    exact rt Try.func58 rfl (.cell 0 (some 4) rfl rfl rfl .nil) rfl [] [⟨0, 2, 1, true⟩] rfl rfl rfl rfl rfl ⟨_, _, rfl, rfl, rfl⟩
 ·
  refine gf rfl (dF c1) (gx rfl (gs (rg (sv (EV.fa 1 rfl) rfl (sv (EV.ld 0 none rfl rfl rfl) rfl (sv (EV.fa 3 rfl) rfl (so rfl (op_st (cs' := [.slice Ax4_5_0 x4_5_0.length cx4_5_0, .int .i64 x4_5_1, .int .i64 x4_5_2, .int .i64 x4_2_1]) 2 rfl rfl rfl rfl rfl rfl (re (pr [4, 5] [1, 2] [1, 2] rfl rfl rfl rfl (gs (rg (sv (EV.ld (v := .agg #[.slice Ax4_5_0 x4_5_0.length cx4_5_0, .int .i64 x4_5_1, .int .i64 x4_5_2, .int .i64 x4_2_1]) 1 (some 4) rfl rfl rfl) rfl (so rfl (op_st (cs' := [.slice Ax4_5_0 x4_5_0.length cx4_5_0, .int .i64 x4_5_1, .int .i64 x4_5_2, .int .i64 x4_2_1]) 0 rfl rfl rfl rfl rfl rfl (re ?_))))))))))))))))
  cases H
  exact rt Try.func58 rfl (.cell 0 (some 4) rfl rfl rfl .nil) rfl [] [⟨1, 2, 1, true⟩] rfl rfl rfl rfl rfl ⟨_, _, rfl, rfl, rfl⟩
end Go.Proofs.Ytfcebaplphpajaa.K
namespace Go.Proofs.Ytfcebaplphpajaa.K
open Go Go.RowKit
set_option linter.unusedVariables false
set_option linter.unusedSimpArgs false
def spec_RunJoin.f (k : Nat) (a0 : Int) (l1 : List S77) (l2 : List S77) (l3 : List Int) : Option ((List S99) × Int × Int × Int × Bool) := (spec_NewJoiner.f k a0 l1 l2).bind fun bt1 => (if bt1.2.2.2 = true then ((spec_l14Grants.f k l3).bind fun t3 => (if t3 = true then ((spec_l20Go.f k bt1.1 bt1.2.1 bt1.2.2.1 l3).bind fun bt5 => (some (bt5.1, bt5.2.1, bt5.2.2.1, bt5.2.2.2, true))) else (some ([], 0, 0, 0, false)))) else (some ([], 0, 0, 0, false)))
set_option maxHeartbeats 4000000 in
set_option maxRecDepth 100000 in
theorem spec_RunJoin.ok (k : Nat) (a0 : Int) (l1 : List S77) (Al1 : Option Addr) (cl1 : Nat) (l2 : List S77) (Al2 : Option Addr) (cl2 : Nat) (l3 : List Int) (Al3 : Option Addr) (cl3 : Nat) (r0 : List S99) (r1 : Int) (r2 : Int) (r3 : Int) (r4 : Bool) (H : spec_RunJoin.f k a0 l1 l2 l3 = some (r0, r1, r2, r3, r4)) : Fn Try.prog 31 [.int .i64 a0, .slice Al1 l1.length cl1, .slice Al2 l2.length cl2, .slice Al3 l3.length cl3] [] [.sl 0 k77 Al1 cl1 l1 0 false, .sl 0 k77 Al2 cl2 l2 0 false, .sl 0 (.int .i64) Al3 cl3 l3 0 false] (fun v bx en => ∃ A0 c0, v = .tuple #[.agg #[.slice A0 r0.length c0, .int .i64 r1, .int .i64 r2, .int .i64 r3], .bool r4] ∧ bx = [] ∧ en = [.sl 2 k99 A0 c0 r0 1 true]) := by
 refine fn_ 30 Try.func31 rfl rfl rfl (fun base T w0 => ?_)
 rw [spec_RunJoin.f] at H
 refine gs (rg (so rfl (op_alloc (cs := [.slice none 0 0, .int .i64 0, .int .i64 0, .int .i64 0]) (by kernel_rfl) rfl fun b8 => (sv (EV.as rfl) rfl (re (gs (rg (sv (EV.mv rfl) rfl (sv (EV.mv rfl) rfl (sv (EV.mv rfl) rfl ?_))))))))))
 revert H; refine bdI ?_; rintro ⟨t1_0, t1_1, t1_2, t1_3⟩ A1 H
 refine so rfl (op_call (spec_NewJoiner.ok k a0 l1 Al1 cl1 l2 Al2 cl2 _ _ _ _ A1) [⟨0, 0, 0, false⟩, ⟨1, 0, 0, false⟩] 1 rfl rfl rfl rfl rfl ?_)
 rintro _ _ _ ⟨At1_0, ct1_0, rfl, rfl, rfl⟩
 refine sv (EV.mv rfl) rfl (sv (EV.ex rfl rfl) rfl (sv (EV.ex rfl rfl) rfl (so rfl (op_alloc (cs := [.slice none 0 0, .int .i64 0, .int .i64 0]) (by kernel_rfl) rfl fun b10 => (so rfl (op_st (cs' := [.slice At1_0 t1_0.length ct1_0, .int .i64 t1_1, .int .i64 t1_2]) 1 rfl rfl rfl rfl rfl rfl (sv (EV.as rfl) rfl (re (pr [3, 8, 10, 11] [0, 1] [2, 3] rfl rfl rfl rfl (gs (gs (rg (sv (EV.mv rfl) rfl (sv (EV.nt rfl) rfl (sv (EV.mv rfl) rfl ?_)))))))))))))))
 revert H; refine ifsI ?_ ?_ <;> intro c2 H
 ·
  subst c2
  refine ts 21 rfl rfl (sv (EV.mv rfl) rfl ?_)
  revert H; refine bdI ?_; rintro t3 A3 H
  refine so rfl (op_call (spec_l14Grants.ok k l3 Al3 cl3 _ A3) [⟨0, 0, 0, false⟩] 3 rfl rfl rfl rfl rfl ?_)
  rintro _ _ _ ⟨rfl, rfl, rfl⟩
  refine sv (EV.nt rfl) rfl (sv (EV.pf rfl rfl rfl) rfl (re (pr [3, 8, 10, 25] [0, 1] [0, 1] rfl rfl rfl rfl ?_)))
  revert H; refine ifsI ?_ ?_ <;> intro c4 H
  ·
   subst c4
   refine gf rfl rfl (gk (gs (rg (sv (EV.ld (v := .agg #[.slice At1_0 t1_0.length ct1_0, .int .i64 t1_1, .int .i64 t1_2]) 1 (some 3) rfl rfl rfl) rfl (sv (EV.mv rfl) rfl ?_)))))
   revert H; refine bdI ?_; rintro ⟨t5_0, t5_1, t5_2, t5_3⟩ A5 H
   refine so rfl (op_call (spec_l20Go.ok k t1_0 At1_0 ct1_0 t1_1 t1_2 l3 Al3 cl3 _ _ _ _ A5) [⟨1, 0, 0, false⟩, ⟨0, 0, 0, false⟩] 3 rfl rfl rfl rfl rfl ?_)
   rintro _ _ _ ⟨At5_0, ct5_0, rfl, rfl, rfl⟩
   refine so rfl (op_st (cs' := [.slice At5_0 t5_0.length ct5_0, .int .i64 t5_1, .int .i64 t5_2, .int .i64 t5_3]) 0 rfl rfl rfl rfl rfl rfl (sv (EV.as rfl) rfl (re (pr [8, 9] [0] [2] rfl rfl rfl rfl ?_))))
   cases H
   exact rt Try.func31 rfl (.cell 0 (some 4) rfl rfl rfl (.tmp rfl .nil)) rfl [] [⟨0, 2, 1, true⟩] rfl rfl rfl rfl rfl ⟨_, _, rfl, rfl, rfl⟩
  ·
   obtain rfl := bF c4
   refine gt rfl rfl (gs (rg (sv (EV.bd (v := .agg #[.slice none 0 0, .int .i64 0, .int .i64 0, .int .i64 0]) rfl (by kernel_rfl)) rfl (so rfl (op_st (cs' := [.slice none 0 0, .int .i64 0, .int .i64 0, .int .i64 0]) 0 rfl rfl rfl rfl rfl rfl (sv (EV.as rfl) rfl (re (nil_ k99 3 dq ?_))))))))
   cases H
   exact rt Try.func31 rfl (.cell 0 (some 4) rfl rfl rfl (.tmp rfl .nil)) rfl [] [⟨2, 2, 1, true⟩] rfl rfl rfl rfl rfl ⟨_, _, rfl, rfl, rfl⟩
 ·
  obtain rfl := bF c2
  refine ts 21 rfl rfl (sk rfl (sk rfl (sk rfl (sv (EV.pt rfl rfl rfl) rfl (re (pr [3, 8, 10, 25] [0, 1] [0, 1] rfl rfl rfl rfl (gt rfl rfl (gs (rg (sv (EV.bd (v := .agg #[.slice none 0 0, .int .i64 0, .int .i64 0, .int .i64 0]) rfl (by kernel_rfl)) rfl (so rfl (op_st (cs' := [.slice none 0 0, .int .i64 0, .int .i64 0, .int .i64 0]) 0 rfl rfl rfl rfl rfl rfl (sv (EV.as rfl) rfl (re (nil_ k99 3 dq ?_)))))))))))))))
  cases H
  exact rt Try.func31 rfl (.cell 0 (some 4) rfl rfl rfl (.tmp rfl .nil)) rfl [] [⟨2, 2, 1, true⟩] rfl rfl rfl rfl rfl ⟨_, _, rfl, rfl, rfl⟩
end Go.Proofs.Ytfcebaplphpajaa.K
namespace Go.Proofs.Ytfcebaplphpajaa.K
open Go Go.RowKit
set_option linter.unusedVariables false
set_option linter.unusedSimpArgs false
def impl_within.f (a0 : Int) (a1 : Int) (a2 : Int) : Option (Bool) := if a0 ≥ a1 then (some (decide (a0 ≤ a2))) else (some false)
set_option maxHeartbeats 4000000 in
set_option maxRecDepth 100000 in
theorem impl_within.ok (a0 : Int) (a1 : Int) (a2 : Int) (r0 : Bool) (H : impl_within.f a0 a1 a2 = some r0) : Fn Try.prog 47 [.int .i64 a0, .int .i64 a1, .int .i64 a2] [] [] (fun v bx en => v = .bool r0 ∧ bx = [] ∧ en = []) := by
 refine fn_ 15 Try.func47 rfl rfl rfl (fun base T w0 => ?_)
 rw [impl_within.f] at H
 refine gs (rg (sv (EV.as rfl) rfl (re (gs (rg (sv (EV.mv rfl) rfl (sv (EV.mv rfl) rfl (sv (EV.geq rfl rfl) rfl (sv (EV.mv rfl) rfl ?_)))))))))
 revert H; refine ifsI ?_ ?_ <;> intro c1 H
 ·
  refine ts 10 rfl (dT c1) (sv (EV.mv rfl) rfl (sv (EV.mv rfl) rfl (sv (EV.leq rfl rfl) rfl (sv (EV.pt rfl rfl rfl) rfl (sv (EV.as rfl) rfl (re (pr [6] [] [] rfl rfl rfl rfl ?_)))))))
  cases H
  exact rt Try.func47 rfl (.tmp rfl .nil) rfl [] [] rfl rfl rfl rfl rfl ⟨rfl, rfl, rfl⟩
 ·
  refine ts 10 rfl (dF c1) (sk rfl (sk rfl (sk rfl (sv (EV.pf rfl rfl rfl) rfl (sv (EV.as rfl) rfl (re (pr [6] [] [] rfl rfl rfl rfl ?_)))))))
  cases H
  exact rt Try.func47 rfl (.tmp rfl .nil) rfl [] [] rfl rfl rfl rfl rfl ⟨rfl, rfl, rfl⟩
end Go.Proofs.Ytfcebaplphpajaa.K
namespace Go.Proofs.Ytfcebaplphpajaa.K
open Go Go.RowKit
set_option linter.unusedVariables false
set_option linter.unusedSimpArgs false
def impl_IsValidJoinKind.f (a0 : Int) : Option (Bool) := (impl_within.f a0 1 4).bind fun t1 => (some t1)
set_option maxHeartbeats 4000000 in
set_option maxRecDepth 100000 in
theorem impl_IsValidJoinKind.ok (a0 : Int) (r0 : Bool) (H : impl_IsValidJoinKind.f a0 = some r0) : Fn Try.prog 86 [.int .i64 a0] [] [] (fun v bx en => v = .bool r0 ∧ bx = [] ∧ en = []) := by
 refine fn_ 5 Try.func86 rfl rfl rfl (fun base T w0 => ?_)
 rw [impl_IsValidJoinKind.f] at H
 refine gs (rg (sv (EV.as rfl) rfl (re (gs (rg (sv (EV.mv rfl) rfl ?_))))))
 revert H; refine bdI ?_; rintro t1 A1 H
 refine so rfl (op_call (impl_within.ok a0 1 4 _ A1) [] 1 rfl rfl rfl rfl rfl ?_)
 rintro _ _ _ ⟨rfl, rfl, rfl⟩
 refine sv (EV.as rfl) rfl (re ?_)
 cases H
 exact rt Try.func86 rfl (.tmp rfl .nil) rfl [] [] rfl rfl rfl rfl rfl ⟨rfl, rfl, rfl⟩
end Go.Proofs.Ytfcebaplphpajaa.K
namespace Go.Proofs.Ytfcebaplphpajaa.K
open Go Go.RowKit
set_option linter.unusedVariables false
set_option linter.unusedSimpArgs false
def impl_IsValidRow.f (a0_0 : Int) (a0_1 : Int) (a0_2 : Int) : Option (Bool) := (impl_within.f a0_0 0 9).bind fun t1 => (if t1 = true then ((impl_within.f a0_1 0 99).bind fun t3 => (if t3 = true then ((impl_within.f a0_2 0 3).bind fun t5 => (some t5)) else (some false))) else (some false))
set_option maxHeartbeats 4000000 in
set_option maxRecDepth 100000 in
theorem impl_IsValidRow.ok (a0_0 : Int) (a0_1 : Int) (a0_2 : Int) (r0 : Bool) (H : impl_IsValidRow.f a0_0 a0_1 a0_2 = some r0) : Fn Try.prog 114 [.agg #[.int .i64 a0_0, .int .i64 a0_1, .int .i64 a0_2]] [] [] (fun v bx en => v = .bool r0 ∧ bx = [] ∧ en = []) := by
 refine fn_ 16 Try.func114 rfl rfl rfl (fun base T w0 => ?_)
 rw [impl_IsValidRow.f] at H
 refine gs (rg (so rfl (op_box (cs := [.int .i64 a0_0, .int .i64 a0_1, .int .i64 a0_2]) rfl rfl rfl fun b1 => (sv (EV.as rfl) rfl (re (gs (rg (sv (EV.fa 0 rfl) rfl (sv (EV.ld 0 none rfl rfl rfl) rfl ?_)))))))))
 revert H; refine bdI ?_; rintro t1 A1 H
 refine so rfl (op_call (impl_within.ok a0_0 0 9 _ A1) [] 1 rfl rfl rfl rfl rfl ?_)
 rintro _ _ _ ⟨rfl, rfl, rfl⟩
 refine sv (EV.mv rfl) rfl ?_
 revert H; refine ifsI ?_ ?_ <;> intro c2 H
 ·
  subst c2
  refine ts 6 rfl rfl (sv (EV.fa 1 rfl) rfl (sv (EV.ld 0 none rfl rfl rfl) rfl ?_))
  revert H; refine bdI ?_; rintro t3 A3 H
  refine so rfl (op_call (impl_within.ok a0_1 0 99 _ A3) [] 1 rfl rfl rfl rfl rfl ?_)
  rintro _ _ _ ⟨rfl, rfl, rfl⟩
  refine sv (EV.pt rfl rfl rfl) rfl (sv (EV.mv rfl) rfl ?_)
  revert H; refine ifsI ?_ ?_ <;> intro c4 H
  ·
   subst c4
   refine ts 11 rfl rfl (sv (EV.fa 2 rfl) rfl (sv (EV.ld 0 none rfl rfl rfl) rfl ?_))
   revert H; refine bdI ?_; rintro t5 A5 H
   refine so rfl (op_call (impl_within.ok a0_2 0 3 _ A5) [] 1 rfl rfl rfl rfl rfl ?_)
   rintro _ _ _ ⟨rfl, rfl, rfl⟩
   refine sv (EV.pt rfl rfl rfl) rfl (sv (EV.as rfl) rfl (re (pr [2] [] [] rfl rfl rfl rfl ?_)))
   cases H
   exact rt Try.func114 rfl (.tmp rfl .nil) rfl [] [] rfl rfl rfl rfl rfl ⟨rfl, rfl, rfl⟩
  ·
   obtain rfl := bF c4
   refine ts 11 rfl rfl (sk rfl (sk rfl (sk rfl (sv (EV.pf rfl rfl rfl) rfl (sv (EV.as rfl) rfl (re (pr [2] [] [] rfl rfl rfl rfl ?_)))))))
   cases H
   exact rt Try.func114 rfl (.tmp rfl .nil) rfl [] [] rfl rfl rfl rfl rfl ⟨rfl, rfl, rfl⟩
 ·
  obtain rfl := bF c2
  refine ts 6 rfl rfl (sk rfl (sk rfl (sk rfl (sv (EV.pf rfl rfl rfl) rfl (sv (EV.mv rfl) rfl (sk rfl (sk rfl (sk rfl (sv (EV.pf rfl rfl rfl) rfl (sv (EV.as rfl) rfl (re (pr [2] [] [] rfl rfl rfl rfl ?_))))))))))))
  cases H
  exact rt Try.func114 rfl (.tmp rfl .nil) rfl [] [] rfl rfl rfl rfl rfl ⟨rfl, rfl, rfl⟩
end Go.Proofs.Ytfcebaplphpajaa.K
namespace Go.Proofs.Ytfcebaplphpajaa.K
open Go Go.RowKit
set_option linter.unusedVariables false
set_option linter.unusedSimpArgs false
def impl_allValid.l0 : Nat → Int → Int → (List S77) → Option (Bool)
 | 0, _, _, _ => none
 | k + 1, x2_6, x2_7, l0 => if x2_7 < x2_6 then (if 0 ≤ x2_7 then (if x2_7 < (l0.length : Int) then ((impl_IsValidRow.f ((rd_T77 l0 x2_7).f0) ((rd_T77 l0 x2_7).f1) ((rd_T77 l0 x2_7).f2)).bind fun t4 => (if t4 = true then (impl_allValid.l0 k x2_6 (wrap64 (x2_7 + 1)) l0) else (some false))) else none) else none) else (some true)
def impl_allValid.f (k : Nat) (l0 : List S77) : Option (Bool) := impl_allValid.l0 k (l0.length : Int) 0 l0
set_option maxHeartbeats 4000000 in
set_option maxRecDepth 100000 in
theorem impl_allValid.ok (k : Nat) (l0 : List S77) (Al0 : Option Addr) (cl0 : Nat) (r0 : Bool) (H : impl_allValid.f k l0 = some r0) : Fn Try.prog 113 [.slice Al0 l0.length cl0] [] [.sl 0 k77 Al0 cl0 l0 0 false] (fun v bx en => v = .bool r0 ∧ bx = [] ∧ en = []) := by
 refine fn_ 15 Try.func113 rfl rfl rfl (fun base T w0 => ?_)
 rw [impl_allValid.f] at H
 refine gs (rg (sv (EV.as rfl) rfl (re (gs (gs (rg (sv (EV.mv rfl) rfl (sv (EV.ln rfl) rfl (sv (EV.mv rfl) rfl (re (gb ?_)))))))))))
 refine lo (fun kk S => ∃ (x2_6 : Int) (x2_7 : Int), impl_allValid.l0 kk x2_6 x2_7 l0 = some r0 ∧ S = ⟨[(5, .slice Al0 l0.length cl0), (6, .int .i64 x2_6), (7, .int .i64 x2_7)], [], [.sl 0 k77 Al0 cl0 l0 0 false]⟩) (fun S hS => ?_) (fun n0 ih0 S hS => ?_) ⟨(l0.length : Int), 0, H, rfl⟩ (fun h => wk [5, 6, 7] [] [⟨0, 0, 0, false⟩] h)
 · clear H; obtain ⟨_, _, H, _⟩ := hS; rw [impl_allValid.l0] at H; cases H
 clear H
 obtain ⟨x2_6, x2_7, H, rfl⟩ := hS
 rw [impl_allValid.l0] at H
 refine gs (rg (sv (EV.lss rfl rfl) rfl (re (gs ?_))))
 revert H; refine ifsI ?_ ?_ <;> intro c1 H
 ·
  refine gt rfl (dT c1) (gk (gs (gb (gs (rg ?_)))))
  revert H; refine ggI ?_; intro g2 H
  revert H; refine ggI ?_; intro g3 H
  refine sv (EV.ix 0 rfl rfl rfl g2 g3 rfl) rfl (sv (EV.le (v := .agg #[.int .i64 ((rd_T77 l0 x2_7).f0), .int .i64 ((rd_T77 l0 x2_7).f1), .int .i64 ((rd_T77 l0 x2_7).f2)]) x2_7 0 (some 3) 0 z77 rfl rfl rfl g2 g3 rfl rfl rfl) rfl (so rfl (op_alloc (cs := [.int .i64 0, .int .i64 0, .int .i64 0]) (by kernel_rfl) rfl fun b4 => (so rfl (op_st (cs' := [.int .i64 ((rd_T77 l0 x2_7).f0), .int .i64 ((rd_T77 l0 x2_7).f1), .int .i64 ((rd_T77 l0 x2_7).f2)]) 0 rfl rfl rfl rfl rfl rfl (re (gs (rg (sv (EV.ld (v := .agg #[.int .i64 ((rd_T77 l0 x2_7).f0), .int .i64 ((rd_T77 l0 x2_7).f1), .int .i64 ((rd_T77 l0 x2_7).f2)]) 0 (some 3) rfl rfl rfl) rfl ?_)))))))))
  revert H; refine bdI ?_; rintro t4 A4 H
  refine so rfl (op_call (impl_IsValidRow.ok ((rd_T77 l0 x2_7).f0) ((rd_T77 l0 x2_7).f1) ((rd_T77 l0 x2_7).f2) _ A4) [] 1 rfl rfl rfl rfl rfl ?_)
  rintro _ _ _ ⟨rfl, rfl, rfl⟩
  refine sv (EV.nt rfl) rfl (re (pr [5, 6, 7, 13] [] [0] rfl rfl rfl rfl ?_))
  revert H; refine ifsI ?_ ?_ <;> intro c5 H
  ·
   subst c5
   exact gf rfl rfl (gk (ge (rg (sv (EV.add rfl rfl) rfl (sv (EV.mv rfl) rfl (re (wk [5, 6, 7] [] [⟨0, 0, 0, false⟩] (ih0 _ (by omega) _ ⟨x2_6, wrap64 (x2_7 + 1), H, rfl⟩))))))))
  ·
   obtain rfl := bF c5
   refine gt rfl rfl (gs (rg (sv (EV.as rfl) rfl (re ?_))))
   cases H
   exact rt Try.func113 rfl (.tmp rfl .nil) rfl [] [] rfl rfl rfl rfl rfl ⟨rfl, rfl, rfl⟩
 ·
  refine gf rfl (dF c1) (gx rfl (gs (rg (sv (EV.as rfl) rfl (re ?_)))))
  cases H
  exact rt Try.func113 rfl (.tmp rfl .nil) rfl [] [] rfl rfl rfl rfl rfl ⟨rfl, rfl, rfl⟩
end Go.Proofs.Ytfcebaplphpajaa.K
namespace Go.Proofs.Ytfcebaplphpajaa.K
open Go Go.RowKit
set_option linter.unusedVariables false
set_option linter.unusedSimpArgs false
def impl_AreValidRows.f (k : Nat) (l0 : List S77) : Option (Bool) := if (l0.length : Int) ≤ 24 then ((impl_allValid.f k l0).bind fun t2 => (some t2)) else (some false)
set_option maxHeartbeats 4000000 in
set_option maxRecDepth 100000 in
theorem impl_AreValidRows.ok (k : Nat) (l0 : List S77) (Al0 : Option Addr) (cl0 : Nat) (r0 : Bool) (H : impl_AreValidRows.f k l0 = some r0) : Fn Try.prog 87 [.slice Al0 l0.length cl0] [] [.sl 0 k77 Al0 cl0 l0 0 false] (fun v bx en => v = .bool r0 ∧ bx = [] ∧ en = []) := by
 refine fn_ 10 Try.func87 rfl rfl rfl (fun base T w0 => ?_)
 rw [impl_AreValidRows.f] at H
 refine gs (rg (sv (EV.as rfl) rfl (re (gs (rg (sv (EV.mv rfl) rfl (sv (EV.ln rfl) rfl (sv (EV.leq rfl rfl) rfl (sv (EV.mv rfl) rfl ?_)))))))))
 revert H; refine ifsI ?_ ?_ <;> intro c1 H
 ·
  refine ts 6 rfl (dT c1) (sv (EV.mv rfl) rfl ?_)
  revert H; refine bdI ?_; rintro t2 A2 H
  refine so rfl (op_call (impl_allValid.ok k l0 Al0 cl0 _ A2) [⟨0, 0, 0, false⟩] 1 rfl rfl rfl rfl rfl ?_)
  rintro _ _ _ ⟨rfl, rfl, rfl⟩
  refine sv (EV.pt rfl rfl rfl) rfl (sv (EV.as rfl) rfl (re (pr [2] [] [] rfl rfl rfl rfl ?_)))
  cases H
  exact rt Try.func87 rfl (.tmp rfl .nil) rfl [] [] rfl rfl rfl rfl rfl ⟨rfl, rfl, rfl⟩
 ·
  refine ts 6 rfl (dF c1) (sk rfl (sk rfl (sv (EV.pf rfl rfl rfl) rfl (sv (EV.as rfl) rfl (re (pr [2] [] [] rfl rfl rfl rfl ?_))))))
  cases H
  exact rt Try.func87 rfl (.tmp rfl .nil) rfl [] [] rfl rfl rfl rfl rfl ⟨rfl, rfl, rfl⟩
end Go.Proofs.Ytfcebaplphpajaa.K
namespace Go.Proofs.Ytfcebaplphpajaa.K
open Go Go.RowKit
set_option linter.unusedVariables false
set_option linter.unusedSimpArgs false
def impl_clone.f (l0 : List S77) : Option ((List S77)) := if l0.length ≤ 5864062014805 then (some l0) else none
set_option maxHeartbeats 4000000 in
set_option maxRecDepth 100000 in
theorem impl_clone.ok (l0 : List S77) (Al0 : Option Addr) (cl0 : Nat) (r0 : List S77) (H : impl_clone.f l0 = some r0) : Fn Try.prog 91 [.slice Al0 l0.length cl0] [] [.sl 0 k77 Al0 cl0 l0 0 false] (fun v bx en => ∃ A0 c0, v = .slice A0 r0.length c0 ∧ bx = [] ∧ en = [.sl 2 k77 A0 c0 r0 1 true]) := by
 refine fn_ 5 Try.func91 rfl rfl rfl (fun base T w0 => ?_)
 rw [impl_clone.f] at H
 refine gs (rg (sv (EV.as rfl) rfl (re (gs (rg (sv (EV.mv rfl) rfl (nil_ k77 1 dq ?_)))))))
 revert H; refine ggI ?_; intro g1 H
 refine so rfl (op_app (k := k77) (s := 3) (by_ := 24) 1 0 rfl rfl rfl rfl (ap0 g1 dq) (ap0n g1 dq) (.inl rfl) true (fun _ => .inl rfl) rfl rfl fun A4_2 c4_2 => (nmE (en := [.sl 0 k77 Al0 cl0 l0 0 false, .sl 2 k77 A4_2 c4_2 l0 1 true]) (by kernel_rfl) (sv (EV.as rfl) rfl (re ?_))))
 cases H
 exact rt Try.func91 rfl (.tmp rfl .nil) rfl [] [⟨1, 2, 1, true⟩] rfl rfl rfl rfl rfl ⟨_, _, rfl, rfl, rfl⟩
end Go.Proofs.Ytfcebaplphpajaa.K
namespace Go.Proofs.Ytfcebaplphpajaa.K
open Go Go.RowKit
set_option linter.unusedVariables false
set_option linter.unusedSimpArgs false
def impl_NewTask.f (k : Nat) (a0 : Int) (l1 : List S77) (l2 : List S77) : Option (Int × (List S77) × (List S77) × (List Bool) × Int × Bool) := (impl_IsValidJoinKind.f a0).bind fun t1 => (if t1 = true then ((impl_AreValidRows.f k l1).bind fun t3 => (if t3 = true then ((impl_AreValidRows.f k l2).bind fun t5 => (if t5 = true then (if 0 ≤ (l1.length : Int) then (if (l1.length : Int).toNat ≤ 140737488355328 then ((impl_clone.f l1).bind fun t9 => ((impl_clone.f l2).bind fun t10 => (some (a0, t9, t10, List.replicate (l1.length : Int).toNat false, 0, true)))) else none) else none) else (some (0, [], [], [], 0, false)))) else (some (0, [], [], [], 0, false)))) else (some (0, [], [], [], 0, false)))
set_option maxHeartbeats 4000000 in
set_option maxRecDepth 100000 in
theorem impl_NewTask.ok (k : Nat) (a0 : Int) (l1 : List S77) (Al1 : Option Addr) (cl1 : Nat) (l2 : List S77) (Al2 : Option Addr) (cl2 : Nat) (r0 : Int) (r1 : List S77) (r2 : List S77) (r3 : List Bool) (r4 : Int) (r5 : Bool) (H : impl_NewTask.f k a0 l1 l2 = some (r0, r1, r2, r3, r4, r5)) : Fn Try.prog 53 [.int .i64 a0, .slice Al1 l1.length cl1, .slice Al2 l2.length cl2] [] [.sl 0 k77 Al1 cl1 l1 0 false, .sl 0 k77 Al2 cl2 l2 0 false] (fun v bx en => ∃ A1 c1 A2 c2 A3 c3, v = .tuple #[.agg #[.int .i64 r0, .slice A1 r1.length c1, .slice A2 r2.length c2, .slice A3 r3.length c3, .int .i64 r4], .bool r5] ∧ bx = [] ∧ en = [.sl 2 k77 A1 c1 r1 1 true, .sl 2 k77 A2 c2 r2 2 true, .sl 2 .bool A3 c3 r3 3 true]) := by
 refine fn_ 31 Try.func53 rfl rfl rfl (fun base T w0 => ?_)
 rw [impl_NewTask.f] at H
 refine gs (rg (so rfl (op_alloc (cs := [.int .i64 0, .slice none 0 0, .slice none 0 0, .slice none 0 0, .int .i64 0]) (by kernel_rfl) rfl fun b6 => (sv (EV.as rfl) rfl (re (gs (gs (rg (sv (EV.mv rfl) rfl ?_)))))))))
 revert H; refine bdI ?_; rintro t1 A1 H
 refine so rfl (op_call (impl_IsValidJoinKind.ok a0 _ A1) [] 1 rfl rfl rfl rfl rfl ?_)
 rintro _ _ _ ⟨rfl, rfl, rfl⟩
 refine sv (EV.nt rfl) rfl (sv (EV.mv rfl) rfl ?_)
 revert H; refine ifsI ?_ ?_ <;> intro c2 H
 ·
  subst c2
  refine ts 11 rfl rfl (sv (EV.mv rfl) rfl ?_)
  revert H; refine bdI ?_; rintro t3 A3 H
  refine so rfl (op_call (impl_AreValidRows.ok k l1 Al1 cl1 _ A3) [⟨0, 0, 0, false⟩] 1 rfl rfl rfl rfl rfl ?_)
  rintro _ _ _ ⟨rfl, rfl, rfl⟩
  refine sv (EV.nt rfl) rfl (sv (EV.pf rfl rfl rfl) rfl (sv (EV.mv rfl) rfl ?_))
  revert H; refine ifsI ?_ ?_ <;> intro c4 H
  ·
   subst c4
   refine ts 16 rfl rfl (sv (EV.mv rfl) rfl ?_)
   revert H; refine bdI ?_; rintro t5 A5 H
   refine so rfl (op_call (impl_AreValidRows.ok k l2 Al2 cl2 _ A5) [⟨1, 0, 0, false⟩] 1 rfl rfl rfl rfl rfl ?_)
   rintro _ _ _ ⟨rfl, rfl, rfl⟩
   refine sv (EV.nt rfl) rfl (sv (EV.pf rfl rfl rfl) rfl (re (pr [0, 1, 2, 6, 20] [0] [0, 1] rfl rfl rfl rfl ?_)))
   revert H; refine ifsI ?_ ?_ <;> intro c6 H
   ·
    subst c6
    refine gf rfl rfl (gk (gs ?_))
    revert H; refine ggI ?_; intro g7 H
    revert H; refine ggI ?_; intro g8 H
    refine dr [0] [0, 1] [9, 10] 11 rfl rfl rfl rfl (xv 0 [0] [0, 1] rfl (EV.mv rfl) rfl rfl rfl rfl (xv 1 [0] [0, 1] rfl (EV.mv rfl) rfl rfl rfl rfl (xv 3 [0] [0, 1] rfl (EV.mv rfl) rfl rfl rfl rfl (xv 5 [0] [0, 1] rfl (EV.mv rfl) rfl rfl rfl rfl (xv 6 [0] [0, 1] rfl (EV.ln rfl) rfl rfl rfl rfl ?_)))))
    refine one2 2 7 rfl rfl rfl rfl ?_ ?_
    ·
     revert H; refine bdI ?_; rintro t9 A9 H
     refine op_call (impl_clone.ok l1 Al1 cl1 _ A9) [⟨0, 0, 0, false⟩] 1 rfl rfl rfl rfl rfl ?_
     rintro _ _ _ ⟨At9, ct9, rfl, rfl, rfl⟩
     refine xs [0] [0, 1] rfl rfl rfl ?_
     refine one2 4 7 rfl rfl rfl rfl ?_ ?_
     ·
      revert H; refine bdI ?_; rintro t10 A10 H
      refine op_call (impl_clone.ok l2 Al2 cl2 _ A10) [⟨1, 0, 0, false⟩] 3 rfl rfl rfl rfl rfl ?_
      rintro _ _ _ ⟨At10, ct10, rfl, rfl, rfl⟩
      refine xs [0] [0, 1] rfl rfl rfl (one1 7 rfl rfl (op_mk (s := 1) (by_ := 1) .bool false 5 rfl rfl g7 (mk1 g8 dq) (mk2 g8 dq) mk66 rfl rfl dq rfl fun A29_11 c29_11 => (xs [0] [0, 1] rfl rfl rfl (xv 8 [0] [0, 1] rfl (EV.bd (v := .agg #[.int .i64 a0, .slice At9 t9.length ct9, .slice At10 t10.length ct10, .slice A29_11 (List.replicate (l1.length : Int).toNat false).length c29_11, .int .i64 0]) rfl (by kernel_rfl)) rfl rfl rfl rfl (one1 9 rfl rfl (op_st (cs' := [.int .i64 a0, .slice At9 t9.length ct9, .slice At10 t10.length ct10, .slice A29_11 (List.replicate (l1.length : Int).toNat false).length c29_11, .int .i64 0]) 0 rfl rfl rfl rfl rfl rfl (xn rfl (one1 10 rfl rfl (ov (EV.as rfl) rfl (xn rfl (xd (pr [6, 7] [0] [2, 3, 4] rfl rfl rfl rfl ?_))))))))))))
      cases H
      exact rt Try.func53 rfl (.cell 0 (some 5) rfl rfl rfl (.tmp rfl .nil)) rfl [] [⟨0, 2, 1, true⟩, ⟨1, 2, 2, true⟩, ⟨2, 2, 3, true⟩] rfl rfl rfl rfl rfl ⟨_, _, _, _, _, _, rfl, rfl, rfl⟩
     ·
      refine op_mk (s := 1) (by_ := 1) .bool false 3 rfl rfl g7 (mk1 g8 dq) (mk2 g8 dq) mk66 rfl rfl dq rfl fun A29_12 c29_12 => (xs [0] [0, 1] rfl rfl rfl (one1 4 rfl rfl ?_))
      revert H; refine bdI ?_; rintro t13 A13 H
      refine op_call (impl_clone.ok l2 Al2 cl2 _ A13) [⟨1, 0, 0, false⟩] 4 rfl rfl rfl rfl rfl ?_
      rintro _ _ _ ⟨At13, ct13, rfl, rfl, rfl⟩
      refine xs [0] [0, 1] rfl rfl rfl (xv 8 [0] [0, 1] rfl (EV.bd (v := .agg #[.int .i64 a0, .slice At9 t9.length ct9, .slice At13 t13.length ct13, .slice A29_12 (List.replicate (l1.length : Int).toNat false).length c29_12, .int .i64 0]) rfl (by kernel_rfl)) rfl rfl rfl rfl (one1 9 rfl rfl (op_st (cs' := [.int .i64 a0, .slice At9 t9.length ct9, .slice At13 t13.length ct13, .slice A29_12 (List.replicate (l1.length : Int).toNat false).length c29_12, .int .i64 0]) 0 rfl rfl rfl rfl rfl rfl (xn rfl (one1 10 rfl rfl (ov (EV.as rfl) rfl (xn rfl (xd (pr [6, 7] [0] [2, 3, 4] rfl rfl rfl rfl ?_)))))))))
      cases H
      exact rt Try.func53 rfl (.cell 0 (some 5) rfl rfl rfl (.tmp rfl .nil)) rfl [] [⟨0, 2, 1, true⟩, ⟨2, 2, 2, true⟩, ⟨1, 2, 3, true⟩] rfl rfl rfl rfl rfl ⟨_, _, _, _, _, _, rfl, rfl, rfl⟩
    ·
     refine op_mk (s := 1) (by_ := 1) .bool false 1 rfl rfl g7 (mk1 g8 dq) (mk2 g8 dq) mk66 rfl rfl dq rfl fun A29_14 c29_14 => (xs [0] [0, 1] rfl rfl rfl (one1 2 rfl rfl ?_))
     revert H; refine bdI ?_; rintro t15 A15 H
     refine op_call (impl_clone.ok l1 Al1 cl1 _ A15) [⟨0, 0, 0, false⟩] 2 rfl rfl rfl rfl rfl ?_
     rintro _ _ _ ⟨At15, ct15, rfl, rfl, rfl⟩
     refine xs [0] [0, 1] rfl rfl rfl (one1 4 rfl rfl ?_)
     revert H; refine bdI ?_; rintro t16 A16 H
     refine op_call (impl_clone.ok l2 Al2 cl2 _ A16) [⟨1, 0, 0, false⟩] 4 rfl rfl rfl rfl rfl ?_
     rintro _ _ _ ⟨At16, ct16, rfl, rfl, rfl⟩
     refine xs [0] [0, 1] rfl rfl rfl (xv 8 [0] [0, 1] rfl (EV.bd (v := .agg #[.int .i64 a0, .slice At15 t15.length ct15, .slice At16 t16.length ct16, .slice A29_14 (List.replicate (l1.length : Int).toNat false).length c29_14, .int .i64 0]) rfl (by kernel_rfl)) rfl rfl rfl rfl (one1 9 rfl rfl (op_st (cs' := [.int .i64 a0, .slice At15 t15.length ct15, .slice At16 t16.length ct16, .slice A29_14 (List.replicate (l1.length : Int).toNat false).length c29_14, .int .i64 0]) 0 rfl rfl rfl rfl rfl rfl (xn rfl (one1 10 rfl rfl (ov (EV.as rfl) rfl (xn rfl (xd (pr [6, 7] [0] [2, 3, 4] rfl rfl rfl rfl ?_)))))))))
     cases H
     exact rt Try.func53 rfl (.cell 0 (some 5) rfl rfl rfl (.tmp rfl .nil)) rfl [] [⟨1, 2, 1, true⟩, ⟨2, 2, 2, true⟩, ⟨0, 2, 3, true⟩] rfl rfl rfl rfl rfl ⟨_, _, _, _, _, _, rfl, rfl, rfl⟩
   ·
    obtain rfl := bF c6
    refine gt rfl rfl (gs (rg (sv (EV.bd (v := .agg #[.int .i64 0, .slice none 0 0, .slice none 0 0, .slice none 0 0, .int .i64 0]) rfl (by kernel_rfl)) rfl (so rfl (op_st (cs' := [.int .i64 0, .slice none 0 0, .slice none 0 0, .slice none 0 0, .int .i64 0]) 0 rfl rfl rfl rfl rfl rfl (sv (EV.as rfl) rfl (re (nil_ k77 1 dq (nil_ k77 2 dq (nil_ .bool 3 dq ?_))))))))))
    cases H
    exact rt Try.func53 rfl (.cell 0 (some 5) rfl rfl rfl (.tmp rfl .nil)) rfl [] [⟨2, 2, 1, true⟩, ⟨3, 2, 2, true⟩, ⟨4, 2, 3, true⟩] rfl rfl rfl rfl rfl ⟨_, _, _, _, _, _, rfl, rfl, rfl⟩
  ·
   obtain rfl := bF c4
   refine ts 16 rfl rfl (sk rfl (sk rfl (sk rfl (sv (EV.pt rfl rfl rfl) rfl (re (pr [0, 1, 2, 6, 20] [0] [0, 1] rfl rfl rfl rfl (gt rfl rfl (gs (rg (sv (EV.bd (v := .agg #[.int .i64 0, .slice none 0 0, .slice none 0 0, .slice none 0 0, .int .i64 0]) rfl (by kernel_rfl)) rfl (so rfl (op_st (cs' := [.int .i64 0, .slice none 0 0, .slice none 0 0, .slice none 0 0, .int .i64 0]) 0 rfl rfl rfl rfl rfl rfl (sv (EV.as rfl) rfl (re (nil_ k77 1 dq (nil_ k77 2 dq (nil_ .bool 3 dq ?_)))))))))))))))))
   cases H
   exact rt Try.func53 rfl (.cell 0 (some 5) rfl rfl rfl (.tmp rfl .nil)) rfl [] [⟨2, 2, 1, true⟩, ⟨3, 2, 2, true⟩, ⟨4, 2, 3, true⟩] rfl rfl rfl rfl rfl ⟨_, _, _, _, _, _, rfl, rfl, rfl⟩
 ·
  obtain rfl := bF c2
  refine ts 11 rfl rfl (sk rfl (sk rfl (sk rfl (sv (EV.pt rfl rfl rfl) rfl (sv (EV.mv rfl) rfl (sk rfl (sk rfl (sk rfl (sv (EV.pt rfl rfl rfl) rfl (re (pr [0, 1, 2, 6, 20] [0] [0, 1] rfl rfl rfl rfl (gt rfl rfl (gs (rg (sv (EV.bd (v := .agg #[.int .i64 0, .slice none 0 0, .slice none 0 0, .slice none 0 0, .int .i64 0]) rfl (by kernel_rfl)) rfl (so rfl (op_st (cs' := [.int .i64 0, .slice none 0 0, .slice none 0 0, .slice none 0 0, .int .i64 0]) 0 rfl rfl rfl rfl rfl rfl (sv (EV.as rfl) rfl (re (nil_ k77 1 dq (nil_ k77 2 dq (nil_ .bool 3 dq ?_))))))))))))))))))))))
  cases H
  exact rt Try.func53 rfl (.cell 0 (some 5) rfl rfl rfl (.tmp rfl .nil)) rfl [] [⟨2, 2, 1, true⟩, ⟨3, 2, 2, true⟩, ⟨4, 2, 3, true⟩] rfl rfl rfl rfl rfl ⟨_, _, _, _, _, _, rfl, rfl, rfl⟩
end Go.Proofs.Ytfcebaplphpajaa.K
namespace Go.Proofs.Ytfcebaplphpajaa.K
open Go Go.RowKit
set_option linter.unusedVariables false
set_option linter.unusedSimpArgs false
def impl_NewJoiner.f (k : Nat) (a0 : Int) (l1 : List S77) (l2 : List S77) : Option ((List S68) × Int × Int × Bool) := (impl_NewTask.f k a0 l1 l2).bind fun bt1 => (if bt1.2.2.2.2.2 = true then (some (([(⟨bt1.1, bt1.2.1, bt1.2.2.1, bt1.2.2.2.1, bt1.2.2.2.2.1⟩ : S68)] : List S68), 0, 0, true)) else (some ([], 0, 0, false)))
set_option maxHeartbeats 4000000 in
set_option maxRecDepth 100000 in
theorem impl_NewJoiner.ok (k : Nat) (a0 : Int) (l1 : List S77) (Al1 : Option Addr) (cl1 : Nat) (l2 : List S77) (Al2 : Option Addr) (cl2 : Nat) (r0 : List S68) (r1 : Int) (r2 : Int) (r3 : Bool) (H : impl_NewJoiner.f k a0 l1 l2 = some (r0, r1, r2, r3)) : Fn Try.prog 22 [.int .i64 a0, .slice Al1 l1.length cl1, .slice Al2 l2.length cl2] [] [.sl 0 k77 Al1 cl1 l1 0 false, .sl 0 k77 Al2 cl2 l2 0 false] (fun v bx en => ∃ A0 c0, v = .tuple #[.agg #[.slice A0 r0.length c0, .int .i64 r1, .int .i64 r2], .bool r3] ∧ bx = [] ∧ en = [.sl 2 k68 A0 c0 r0 1 true]) := by
 refine fn_ 23 Try.func22 rfl rfl rfl (fun base T w0 => ?_)
 rw [impl_NewJoiner.f] at H
 refine gs (rg (so rfl (op_alloc (cs := [.slice none 0 0, .int .i64 0, .int .i64 0]) (by kernel_rfl) rfl fun b6 => (sv (EV.as rfl) rfl (re (gs (rg (sv (EV.mv rfl) rfl (sv (EV.mv rfl) rfl (sv (EV.mv rfl) rfl ?_))))))))))
 revert H; refine bdI ?_; rintro ⟨t1_0, t1_1, t1_2, t1_3, t1_4, t1_5⟩ A1 H
 refine so rfl (op_call (impl_NewTask.ok k a0 l1 Al1 cl1 l2 Al2 cl2 _ _ _ _ _ _ A1) [⟨0, 0, 0, false⟩, ⟨1, 0, 0, false⟩] 1 rfl rfl rfl rfl rfl ?_)
 rintro _ _ _ ⟨At1_1, ct1_1, At1_2, ct1_2, At1_3, ct1_3, rfl, rfl, rfl⟩
 refine sv (EV.mv rfl) rfl (sv (EV.ex rfl rfl) rfl (sv (EV.ex rfl rfl) rfl (so rfl (op_alloc (cs := [.int .i64 0, .slice none 0 0, .slice none 0 0, .slice none 0 0, .int .i64 0]) (by kernel_rfl) rfl fun b8 => (so rfl (op_st (cs' := [.int .i64 t1_0, .slice At1_1 t1_1.length ct1_1, .slice At1_2 t1_2.length ct1_2, .slice At1_3 t1_3.length ct1_3, .int .i64 t1_4]) 1 rfl rfl rfl rfl rfl rfl (sv (EV.as rfl) rfl (re (pr [6, 8, 9] [0, 1] [2, 3, 4] rfl rfl rfl rfl (gs (gs (rg (sv (EV.mv rfl) rfl (sv (EV.nt rfl) rfl (re ?_)))))))))))))))
 revert H; refine ifsI ?_ ?_ <;> intro c2 H
 ·
  subst c2
  refine gf rfl rfl (gk (gs (rg (sv (EV.ld (v := .agg #[.int .i64 t1_0, .slice At1_1 t1_1.length ct1_1, .slice At1_2 t1_2.length ct1_2, .slice At1_3 t1_3.length ct1_3, .int .i64 t1_4]) 1 (some 5) rfl rfl rfl) rfl (so rfl (op_lit (s := 5) (by_ := 88) k68 ([(⟨t1_0, t1_1, t1_2, t1_3, t1_4⟩ : S68)] : List S68) [[(At1_1, ct1_1), (At1_2, ct1_2), (At1_3, ct1_3)]] [0, 1, 2] 5 [.tmp 20] rfl rfl rfl rfl rfl rfl rfl rfl rfl rfl rfl rfl rfl dq rfl fun A21_3 c21_3 => (nmE (en := [.sl 2 k77 At1_1 ct1_1 t1_1 5 true, .sl 2 k77 At1_2 ct1_2 t1_2 5 true, .sl 2 .bool At1_3 ct1_3 t1_3 5 true, .sl 2 k68 A21_3 c21_3 ([(⟨t1_0, t1_1, t1_2, t1_3, t1_4⟩ : S68)] : List S68) 5 true]) (by kernel_rfl) (sv (EV.bd (v := .agg #[.slice A21_3 ([(⟨t1_0, t1_1, t1_2, t1_3, t1_4⟩ : S68)] : List S68).length c21_3, .int .i64 0, .int .i64 0]) rfl (by kernel_rfl)) rfl (so rfl (op_st (cs' := [.slice A21_3 ([(⟨t1_0, t1_1, t1_2, t1_3, t1_4⟩ : S68)] : List S68).length c21_3, .int .i64 0, .int .i64 0]) 0 rfl rfl rfl rfl rfl rfl (sv (EV.as rfl) rfl (re (pr [6, 7] [0] [3] rfl rfl rfl rfl ?_)))))))))))))
  cases H
  exact rt Try.func22 rfl (.cell 0 (some 3) rfl rfl rfl (.tmp rfl .nil)) rfl [] [⟨0, 2, 1, true⟩] rfl rfl rfl rfl rfl ⟨_, _, rfl, rfl, rfl⟩
 ·
  obtain rfl := bF c2
  refine gt rfl rfl (gs (rg (sv (EV.bd (v := .agg #[.slice none 0 0, .int .i64 0, .int .i64 0]) rfl (by kernel_rfl)) rfl (so rfl (op_st (cs' := [.slice none 0 0, .int .i64 0, .int .i64 0]) 0 rfl rfl rfl rfl rfl rfl (sv (EV.as rfl) rfl (re (nil_ k68 5 dq ?_))))))))
  cases H
  exact rt Try.func22 rfl (.cell 0 (some 3) rfl rfl rfl (.tmp rfl .nil)) rfl [] [⟨3, 2, 1, true⟩] rfl rfl rfl rfl rfl ⟨_, _, rfl, rfl, rfl⟩
end Go.Proofs.Ytfcebaplphpajaa.K
namespace Go.Proofs.Ytfcebaplphpajaa.K
open Go Go.RowKit
set_option linter.unusedVariables false
set_option linter.unusedSimpArgs false
def impl_isGrant.f (a0 : Int) : Option (Bool) := (impl_within.f a0 8 60).bind fun t1 => (some t1)
set_option maxHeartbeats 4000000 in
set_option maxRecDepth 100000 in
theorem impl_isGrant.ok (a0 : Int) (r0 : Bool) (H : impl_isGrant.f a0 = some r0) : Fn Try.prog 71 [.int .i64 a0] [] [] (fun v bx en => v = .bool r0 ∧ bx = [] ∧ en = []) := by
 refine fn_ 5 Try.func71 rfl rfl rfl (fun base T w0 => ?_)
 rw [impl_isGrant.f] at H
 refine gs (rg (sv (EV.as rfl) rfl (re (gs (rg (sv (EV.mv rfl) rfl ?_))))))
 revert H; refine bdI ?_; rintro t1 A1 H
 refine so rfl (op_call (impl_within.ok a0 8 60 _ A1) [] 1 rfl rfl rfl rfl rfl ?_)
 rintro _ _ _ ⟨rfl, rfl, rfl⟩
 refine sv (EV.as rfl) rfl (re ?_)
 cases H
 exact rt Try.func71 rfl (.tmp rfl .nil) rfl [] [] rfl rfl rfl rfl rfl ⟨rfl, rfl, rfl⟩
end Go.Proofs.Ytfcebaplphpajaa.K
namespace Go.Proofs.Ytfcebaplphpajaa.K
open Go Go.RowKit
set_option linter.unusedVariables false
set_option linter.unusedSimpArgs false
def impl_areGrants.l0 : Nat → Int → Int → (List Int) → Option (Bool)
 | 0, _, _, _ => none
 | k + 1, x2_6, x2_7, l0 => if x2_7 < x2_6 then (if 0 ≤ x2_7 then (if x2_7 < (l0.length : Int) then ((impl_isGrant.f (rdOf 0 l0 x2_7)).bind fun t4 => (if t4 = true then (impl_areGrants.l0 k x2_6 (wrap64 (x2_7 + 1)) l0) else (some false))) else none) else none) else (some (decide ((l0.length : Int) > 0)))
def impl_areGrants.f (k : Nat) (l0 : List Int) : Option (Bool) := impl_areGrants.l0 k (l0.length : Int) 0 l0
set_option maxHeartbeats 4000000 in
set_option maxRecDepth 100000 in
theorem impl_areGrants.ok (k : Nat) (l0 : List Int) (Al0 : Option Addr) (cl0 : Nat) (r0 : Bool) (H : impl_areGrants.f k l0 = some r0) : Fn Try.prog 59 [.slice Al0 l0.length cl0] [] [.sl 0 (.int .i64) Al0 cl0 l0 0 false] (fun v bx en => v = .bool r0 ∧ bx = [] ∧ en = []) := by
 refine fn_ 18 Try.func59 rfl rfl rfl (fun base T w0 => ?_)
 rw [impl_areGrants.f] at H
 refine gs (rg (sv (EV.as rfl) rfl (re (gs (gs (rg (sv (EV.mv rfl) rfl (sv (EV.ln rfl) rfl (sv (EV.mv rfl) rfl (re (gb ?_)))))))))))
 refine lo (fun kk S => ∃ (x2_6 : Int) (x2_7 : Int), impl_areGrants.l0 kk x2_6 x2_7 l0 = some r0 ∧ S = ⟨[(0, .slice Al0 l0.length cl0), (5, .slice Al0 l0.length cl0), (6, .int .i64 x2_6), (7, .int .i64 x2_7)], [], [.sl 0 (.int .i64) Al0 cl0 l0 0 false]⟩) (fun S hS => ?_) (fun n0 ih0 S hS => ?_) ⟨(l0.length : Int), 0, H, rfl⟩ (fun h => wk [0, 5, 6, 7] [] [⟨0, 0, 0, false⟩] h)
 · clear H; obtain ⟨_, _, H, _⟩ := hS; rw [impl_areGrants.l0] at H; cases H
 clear H
 obtain ⟨x2_6, x2_7, H, rfl⟩ := hS
 rw [impl_areGrants.l0] at H
 refine gs (rg (sv (EV.lss rfl rfl) rfl (re (gs ?_))))
 revert H; refine ifsI ?_ ?_ <;> intro c1 H
 ·
  refine gt rfl (dT c1) (gk (gs (gb (gs (rg ?_)))))
  revert H; refine ggI ?_; intro g2 H
  revert H; refine ggI ?_; intro g3 H
  refine sv (EV.ix 0 rfl rfl rfl g2 g3 rfl) rfl (sv (EV.le (v := .int .i64 (rdOf 0 l0 x2_7)) x2_7 0 none 0 0 rfl rfl rfl g2 g3 rfl rfl rfl) rfl (sv (EV.as rfl) rfl (re (gs (rg (sv (EV.mv rfl) rfl ?_))))))
  revert H; refine bdI ?_; rintro t4 A4 H
  refine so rfl (op_call (impl_isGrant.ok (rdOf 0 l0 x2_7) _ A4) [] 1 rfl rfl rfl rfl rfl ?_)
  rintro _ _ _ ⟨rfl, rfl, rfl⟩
  refine sv (EV.nt rfl) rfl (re (pr [0, 5, 6, 7, 13] [] [0] rfl rfl rfl rfl ?_))
  revert H; refine ifsI ?_ ?_ <;> intro c5 H
  ·
   subst c5
   exact gf rfl rfl (gk (ge (rg (sv (EV.add rfl rfl) rfl (sv (EV.mv rfl) rfl (re (wk [0, 5, 6, 7] [] [⟨0, 0, 0, false⟩] (ih0 _ (by omega) _ ⟨x2_6, wrap64 (x2_7 + 1), H, rfl⟩))))))))
  ·
   obtain rfl := bF c5
   refine gt rfl rfl (gs (rg (sv (EV.as rfl) rfl (re ?_))))
   cases H
   exact rt Try.func59 rfl (.tmp rfl .nil) rfl [] [] rfl rfl rfl rfl rfl ⟨rfl, rfl, rfl⟩
 ·
  refine gf rfl (dF c1) (gx rfl (gs (rg (sv (EV.mv rfl) rfl (sv (EV.ln rfl) rfl (sv (EV.gtr rfl rfl) rfl (sv (EV.as rfl) rfl (re (pr [2] [] [] rfl rfl rfl rfl ?_)))))))))
  cases H
  exact rt Try.func59 rfl (.tmp rfl .nil) rfl [] [] rfl rfl rfl rfl rfl ⟨rfl, rfl, rfl⟩
end Go.Proofs.Ytfcebaplphpajaa.K
namespace Go.Proofs.Ytfcebaplphpajaa.K
open Go Go.RowKit
set_option linter.unusedVariables false
set_option linter.unusedSimpArgs false
def impl_IsValidTask.f (k : Nat) (a0_0 : Int) (l0_1 : List S77) (l0_2 : List S77) (l0_3 : List Bool) (a0_4 : Int) : Option (Bool) := (impl_IsValidJoinKind.f a0_0).bind fun t1 => (if t1 = true then ((impl_AreValidRows.f k l0_1).bind fun t3 => (if t3 = true then ((impl_AreValidRows.f k l0_2).bind fun t5 => (if t5 = true then (if (l0_3.length : Int) = (l0_1.length : Int) then ((impl_within.f a0_4 0 4).bind fun t8 => (some t8)) else (some false)) else (some false))) else (some false))) else (some false))
set_option maxHeartbeats 4000000 in
set_option maxRecDepth 100000 in
theorem impl_IsValidTask.ok (k : Nat) (a0_0 : Int) (l0_1 : List S77) (Al0_1 : Option Addr) (cl0_1 : Nat) (l0_2 : List S77) (Al0_2 : Option Addr) (cl0_2 : Nat) (l0_3 : List Bool) (Al0_3 : Option Addr) (cl0_3 : Nat) (a0_4 : Int) (r0 : Bool) (H : impl_IsValidTask.f k a0_0 l0_1 l0_2 l0_3 a0_4 = some r0) : Fn Try.prog 48 [.agg #[.int .i64 a0_0, .slice Al0_1 l0_1.length cl0_1, .slice Al0_2 l0_2.length cl0_2, .slice Al0_3 l0_3.length cl0_3, .int .i64 a0_4]] [] [.sl 0 k77 Al0_1 cl0_1 l0_1 0 false, .sl 0 k77 Al0_2 cl0_2 l0_2 0 false, .sl 0 .bool Al0_3 cl0_3 l0_3 0 false] (fun v bx en => v = .bool r0 ∧ bx = [] ∧ en = []) := by
 refine fn_ 30 Try.func48 rfl rfl rfl (fun base T w0 => ?_)
 rw [impl_IsValidTask.f] at H
 refine gs (rg (so rfl (op_box (cs := [.int .i64 a0_0, .slice Al0_1 l0_1.length cl0_1, .slice Al0_2 l0_2.length cl0_2, .slice Al0_3 l0_3.length cl0_3, .int .i64 a0_4]) rfl rfl rfl fun b1 => (sv (EV.as rfl) rfl (re (gs (rg (sv (EV.fa 0 rfl) rfl (sv (EV.ld 0 none rfl rfl rfl) rfl ?_)))))))))
 revert H; refine bdI ?_; rintro t1 A1 H
 refine so rfl (op_call (impl_IsValidJoinKind.ok a0_0 _ A1) [] 1 rfl rfl rfl rfl rfl ?_)
 rintro _ _ _ ⟨rfl, rfl, rfl⟩
 refine sv (EV.mv rfl) rfl ?_
 revert H; refine ifsI ?_ ?_ <;> intro c2 H
 ·
  subst c2
  refine ts 6 rfl rfl (sv (EV.fa 1 rfl) rfl (sv (EV.ld 0 none rfl rfl rfl) rfl ?_))
  revert H; refine bdI ?_; rintro t3 A3 H
  refine so rfl (op_call (impl_AreValidRows.ok k l0_1 Al0_1 cl0_1 _ A3) [⟨0, 0, 0, false⟩] 1 rfl rfl rfl rfl rfl ?_)
  rintro _ _ _ ⟨rfl, rfl, rfl⟩
  refine sv (EV.pt rfl rfl rfl) rfl (sv (EV.mv rfl) rfl ?_)
  revert H; refine ifsI ?_ ?_ <;> intro c4 H
  ·
   subst c4
   refine ts 11 rfl rfl (sv (EV.fa 2 rfl) rfl (sv (EV.ld 0 none rfl rfl rfl) rfl ?_))
   revert H; refine bdI ?_; rintro t5 A5 H
   refine so rfl (op_call (impl_AreValidRows.ok k l0_2 Al0_2 cl0_2 _ A5) [⟨1, 0, 0, false⟩] 1 rfl rfl rfl rfl rfl ?_)
   rintro _ _ _ ⟨rfl, rfl, rfl⟩
   refine sv (EV.pt rfl rfl rfl) rfl (sv (EV.mv rfl) rfl ?_)
   revert H; refine ifsI ?_ ?_ <;> intro c6 H
   ·
    subst c6
    refine ts 16 rfl rfl (sv (EV.fa 3 rfl) rfl (sv (EV.ld 0 none rfl rfl rfl) rfl (sv (EV.ln rfl) rfl (sv (EV.fa 1 rfl) rfl (sv (EV.ld 0 none rfl rfl rfl) rfl (sv (EV.ln rfl) rfl (sv (EV.eql rfl rfl) rfl (sv (EV.pt rfl rfl rfl) rfl (sv (EV.mv rfl) rfl ?_)))))))))
    revert H; refine ifsI ?_ ?_ <;> intro c7 H
    ·
     refine ts 25 rfl (dT c7) (sv (EV.fa 4 rfl) rfl (sv (EV.ld 0 none rfl rfl rfl) rfl ?_))
     revert H; refine bdI ?_; rintro t8 A8 H
     refine so rfl (op_call (impl_within.ok a0_4 0 4 _ A8) [] 1 rfl rfl rfl rfl rfl ?_)
     rintro _ _ _ ⟨rfl, rfl, rfl⟩
     refine sv (EV.pt rfl rfl rfl) rfl (sv (EV.as rfl) rfl (re (pr [2] [] [] rfl rfl rfl rfl ?_)))
     cases H
     exact rt Try.func48 rfl (.tmp rfl .nil) rfl [] [] rfl rfl rfl rfl rfl ⟨rfl, rfl, rfl⟩
    ·
     refine ts 25 rfl (dF c7) (sk rfl (sk rfl (sk rfl (sv (EV.pf rfl rfl rfl) rfl (sv (EV.as rfl) rfl (re (pr [2] [] [] rfl rfl rfl rfl ?_)))))))
     cases H
     exact rt Try.func48 rfl (.tmp rfl .nil) rfl [] [] rfl rfl rfl rfl rfl ⟨rfl, rfl, rfl⟩
   ·
    obtain rfl := bF c6
    refine ts 16 rfl rfl (sk rfl (sk rfl (sk rfl (sk rfl (sk rfl (sk rfl (sk rfl (sv (EV.pf rfl rfl rfl) rfl (sv (EV.mv rfl) rfl (sk rfl (sk rfl (sk rfl (sv (EV.pf rfl rfl rfl) rfl (sv (EV.as rfl) rfl (re (pr [2] [] [] rfl rfl rfl rfl ?_))))))))))))))))
    cases H
    exact rt Try.func48 rfl (.tmp rfl .nil) rfl [] [] rfl rfl rfl rfl rfl ⟨rfl, rfl, rfl⟩
  ·
   obtain rfl := bF c4
   refine ts 11 rfl rfl (sk rfl (sk rfl (sk rfl (sv (EV.pf rfl rfl rfl) rfl (sv (EV.mv rfl) rfl (sk rfl (sk rfl (sk rfl (sk rfl (sk rfl (sk rfl (sk rfl (sv (EV.pf rfl rfl rfl) rfl (sv (EV.mv rfl) rfl (sk rfl (sk rfl (sk rfl (sv (EV.pf rfl rfl rfl) rfl (sv (EV.as rfl) rfl (re (pr [2] [] [] rfl rfl rfl rfl ?_)))))))))))))))))))))
   cases H
   exact rt Try.func48 rfl (.tmp rfl .nil) rfl [] [] rfl rfl rfl rfl rfl ⟨rfl, rfl, rfl⟩
 ·
  obtain rfl := bF c2
  refine ts 6 rfl rfl (sk rfl (sk rfl (sk rfl (sv (EV.pf rfl rfl rfl) rfl (sv (EV.mv rfl) rfl (sk rfl (sk rfl (sk rfl (sv (EV.pf rfl rfl rfl) rfl (sv (EV.mv rfl) rfl (sk rfl (sk rfl (sk rfl (sk rfl (sk rfl (sk rfl (sk rfl (sv (EV.pf rfl rfl rfl) rfl (sv (EV.mv rfl) rfl (sk rfl (sk rfl (sk rfl (sv (EV.pf rfl rfl rfl) rfl (sv (EV.as rfl) rfl (re (pr [2] [] [] rfl rfl rfl rfl ?_))))))))))))))))))))))))))
  cases H
  exact rt Try.func48 rfl (.tmp rfl .nil) rfl [] [] rfl rfl rfl rfl rfl ⟨rfl, rfl, rfl⟩
end Go.Proofs.Ytfcebaplphpajaa.K
namespace Go.Proofs.Ytfcebaplphpajaa.K
open Go Go.RowKit
set_option linter.unusedVariables false
set_option linter.unusedSimpArgs false
def impl_IsValidJoiner.l0 : Nat → Int → Int → Int → Int → Int → Int → (List S68) → Option (Bool)
 | 0, _, _, _, _, _, _, _ => none
 | k + 1, x2_3, x2_4, x2_25, x2_26, x2_1_1, x2_1_2, l0_0 => if x2_26 < x2_25 then (if 0 ≤ x2_26 then (if x2_26 < (l0_0.length : Int) then ((impl_IsValidTask.f k ((rd_T68 l0_0 x2_26).f0) ((rd_T68 l0_0 x2_26).f1) ((rd_T68 l0_0 x2_26).f2) ((rd_T68 l0_0 x2_26).f3) ((rd_T68 l0_0 x2_26).f4)).bind fun t12 => (if t12 = true then (if 0 < (l0_0.length : Int) then (if ((rd_T68 l0_0 x2_26).f0) = ((rd_T68 l0_0 0).f0) then (impl_IsValidJoiner.l0 k (wrap64 (x2_3 + (((rd_T68 l0_0 x2_26).f1).length : Int))) (wrap64 (x2_4 + (((rd_T68 l0_0 x2_26).f2).length : Int))) x2_25 (wrap64 (x2_26 + 1)) x2_1_1 x2_1_2 l0_0) else (some false)) else none) else (some false))) else none) else none) else (if x2_3 ≤ 24 then (some (decide (x2_4 ≤ 24))) else (some false))
def impl_IsValidJoiner.f (k : Nat) (l0_0 : List S68) (a0_1 : Int) (a0_2 : Int) : Option (Bool) := if (l0_0.length : Int) > 40 then (some false) else ((impl_within.f a0_1 0 100000).bind fun t2 => (if t2 = true then ((impl_within.f a0_2 0 1000).bind fun t4 => (if t4 = true then (impl_IsValidJoiner.l0 k 0 0 (l0_0.length : Int) 0 a0_1 a0_2 l0_0) else (some false))) else (some false)))
set_option maxHeartbeats 4000000 in
set_option maxRecDepth 100000 in
theorem impl_IsValidJoiner.ok (k : Nat) (l0_0 : List S68) (Al0_0 : Option Addr) (cl0_0 : Nat) (a0_1 : Int) (a0_2 : Int) (r0 : Bool) (H : impl_IsValidJoiner.f k l0_0 a0_1 a0_2 = some r0) : Fn Try.prog 16 [.agg #[.slice Al0_0 l0_0.length cl0_0, .int .i64 a0_1, .int .i64 a0_2]] [] [.sl 0 k68 Al0_0 cl0_0 l0_0 0 false] (fun v bx en => v = .bool r0 ∧ bx = [] ∧ en = []) := by
 refine fn_ 60 Try.func16 rfl rfl rfl (fun base T w0 => ?_)
 rw [impl_IsValidJoiner.f] at H
 refine gs (rg (so rfl (op_box (cs := [.slice Al0_0 l0_0.length cl0_0, .int .i64 a0_1, .int .i64 a0_2]) rfl rfl rfl fun b1 => (sv (EV.as rfl) rfl (re (gs (gs (rg (sv (EV.fa 0 rfl) rfl (sv (EV.ld 0 none rfl rfl rfl) rfl (sv (EV.ln rfl) rfl (sv (EV.gtr rfl rfl) rfl (sv (EV.mv rfl) rfl ?_)))))))))))))
 revert H; refine ifsI ?_ ?_ <;> intro c1 H
 ·
  refine ts 11 rfl (dT c1) (sk rfl (sk rfl (sk rfl (sk rfl (sv (EV.pt rfl rfl rfl) rfl (sv (EV.mv rfl) rfl (sk rfl (sk rfl (sk rfl (sk rfl (sv (EV.pt rfl rfl rfl) rfl (re (pr [1, 22] [0] [0] rfl rfl rfl rfl (gt rfl rfl (gs (rg (sv (EV.as rfl) rfl (re ?_))))))))))))))))))
  cases H
  exact rt Try.func16 rfl (.tmp rfl .nil) rfl [] [] rfl rfl rfl rfl rfl ⟨rfl, rfl, rfl⟩
 ·
  refine ts 11 rfl (dF c1) (sv (EV.fa 1 rfl) rfl (sv (EV.ld 0 none rfl rfl rfl) rfl ?_))
  revert H; refine bdI ?_; rintro t2 A2 H
  refine so rfl (op_call (impl_within.ok a0_1 0 100000 _ A2) [] 1 rfl rfl rfl rfl rfl ?_)
  rintro _ _ _ ⟨rfl, rfl, rfl⟩
  refine sv (EV.nt rfl) rfl (sv (EV.pf rfl rfl rfl) rfl (sv (EV.mv rfl) rfl ?_))
  revert H; refine ifsI ?_ ?_ <;> intro c3 H
  ·
   subst c3
   refine ts 17 rfl rfl (sv (EV.fa 2 rfl) rfl (sv (EV.ld 0 none rfl rfl rfl) rfl ?_))
   revert H; refine bdI ?_; rintro t4 A4 H
   refine so rfl (op_call (impl_within.ok a0_2 0 1000 _ A4) [] 1 rfl rfl rfl rfl rfl ?_)
   rintro _ _ _ ⟨rfl, rfl, rfl⟩
   refine sv (EV.nt rfl) rfl (sv (EV.pf rfl rfl rfl) rfl (re (pr [1, 22] [0] [0] rfl rfl rfl rfl ?_)))
   revert H; refine ifsI ?_ ?_ <;> intro c5 H
   ·
    subst c5
    refine gf rfl rfl (gk (gs (rg (sv (EV.as rfl) rfl (sv (EV.as rfl) rfl (re (gs (gs (rg (sv (EV.fa 0 rfl) rfl (sv (EV.ld 0 none rfl rfl rfl) rfl (sv (EV.ln rfl) rfl (sv (EV.mv rfl) rfl (re (gb ?_)))))))))))))))
    refine lo (fun kk S => ∃ (x2_3 : Int) (x2_4 : Int) (x2_25 : Int) (x2_26 : Int) (x2_1_1 : Int) (x2_1_2 : Int), impl_IsValidJoiner.l0 kk x2_3 x2_4 x2_25 x2_26 x2_1_1 x2_1_2 l0_0 = some r0 ∧ S = ⟨[(1, .pointer (some ⟨b1, 0, none⟩)), (3, .int .i64 x2_3), (4, .int .i64 x2_4), (24, .slice Al0_0 l0_0.length cl0_0), (25, .int .i64 x2_25), (26, .int .i64 x2_26)], [⟨b1, 29, [.slice Al0_0 l0_0.length cl0_0, .int .i64 x2_1_1, .int .i64 x2_1_2]⟩], [.sl 0 k68 Al0_0 cl0_0 l0_0 0 false]⟩) (fun S hS => ?_) (fun n0 ih0 S hS => ?_) ⟨0, 0, (l0_0.length : Int), 0, a0_1, a0_2, H, rfl⟩ (fun h => wk [1, 3, 4, 24, 25, 26] [0] [⟨0, 0, 0, false⟩] h)
    · clear H; obtain ⟨_, _, _, _, _, _, H, _⟩ := hS; rw [impl_IsValidJoiner.l0] at H; cases H
    clear H
    obtain ⟨x2_3, x2_4, x2_25, x2_26, x2_1_1, x2_1_2, H, rfl⟩ := hS
    rw [impl_IsValidJoiner.l0] at H
    refine gs (rg (sv (EV.lss rfl rfl) rfl (re (gs ?_))))
    revert H; refine ifsI ?_ ?_ <;> intro c6 H
    ·
     refine gt rfl (dT c6) (gk (gs (gb (gs (rg ?_)))))
     revert H; refine ggI ?_; intro g7 H
     revert H; refine ggI ?_; intro g8 H
     refine sv (EV.ix 0 rfl rfl rfl g7 g8 rfl) rfl (opn (i := x2_26) 0 z68 rfl g7 g8 fun A_9 c_9 A_10 c_10 A_11 c_11 => (sv (EV.lc (v := .agg #[.int .i64 ((rd_T68 l0_0 x2_26).f0), .slice A_9 ((rd_T68 l0_0 x2_26).f1).length c_9, .slice A_10 ((rd_T68 l0_0 x2_26).f2).length c_10, .slice A_11 ((rd_T68 l0_0 x2_26).f3).length c_11, .int .i64 ((rd_T68 l0_0 x2_26).f4)]) 0 (some 5) 1 rfl rfl rfl rfl) rfl (so rfl (op_alloc (cs := [.int .i64 0, .slice none 0 0, .slice none 0 0, .slice none 0 0, .int .i64 0]) (by kernel_rfl) rfl fun b6 => (so rfl (op_st (cs' := [.int .i64 ((rd_T68 l0_0 x2_26).f0), .slice A_9 ((rd_T68 l0_0 x2_26).f1).length c_9, .slice A_10 ((rd_T68 l0_0 x2_26).f2).length c_10, .slice A_11 ((rd_T68 l0_0 x2_26).f3).length c_11, .int .i64 ((rd_T68 l0_0 x2_26).f4)]) 1 rfl rfl rfl rfl rfl rfl (re (gs (gs (dr [0, 1] [0, 1, 2, 3, 4] [1] 13 rfl rfl rfl rfl (xv 0 [0, 1] [0, 1, 2, 3, 4] rfl (EV.ld (v := .agg #[.int .i64 ((rd_T68 l0_0 x2_26).f0), .slice A_9 ((rd_T68 l0_0 x2_26).f1).length c_9, .slice A_10 ((rd_T68 l0_0 x2_26).f2).length c_10, .slice A_11 ((rd_T68 l0_0 x2_26).f3).length c_11, .int .i64 ((rd_T68 l0_0 x2_26).f4)]) 1 (some 5) rfl rfl rfl) rfl rfl rfl rfl (one1 1 rfl rfl ?_))))))))))))
     revert H; refine bdI ?_; rintro t12 A12 H
     refine op_call (impl_IsValidTask.ok n0 ((rd_T68 l0_0 x2_26).f0) ((rd_T68 l0_0 x2_26).f1) A_9 c_9 ((rd_T68 l0_0 x2_26).f2) A_10 c_10 ((rd_T68 l0_0 x2_26).f3) A_11 c_11 ((rd_T68 l0_0 x2_26).f4) _ A12) [⟨2, 0, 0, false⟩, ⟨3, 0, 0, false⟩, ⟨4, 0, 0, false⟩] 1 rfl rfl rfl rfl rfl ?_
     rintro _ _ _ ⟨rfl, rfl, rfl⟩
     refine xn rfl (xv 2 [0, 1] [0, 1, 2, 3, 4] rfl (EV.nt rfl) rfl rfl rfl rfl (xv 3 [0, 1] [0, 1, 2, 3, 4] rfl (EV.mv rfl) rfl rfl rfl rfl ?_))
     revert H; refine ifsI ?_ ?_ <;> intro c13 H
     ·
      subst c13
      refine ts 33 rfl rfl (xv 4 [0, 1] [0, 1, 2, 3, 4] rfl (EV.fa 0 rfl) rfl rfl rfl rfl (xv 5 [0, 1] [0, 1, 2, 3, 4] rfl (EV.ld 1 none rfl rfl rfl) rfl rfl rfl rfl (xv 6 [0, 1] [0, 1, 2, 3, 4] rfl (EV.fa 0 rfl) rfl rfl rfl rfl (xv 7 [0, 1] [0, 1, 2, 3, 4] rfl (EV.ld 0 none rfl rfl rfl) rfl rfl rfl rfl ?_))))
      revert H; refine ggI ?_; intro g14 H
      refine xv 8 [0, 1] [0, 1, 2, 3, 4] rfl (EV.ix 0 rfl rfl rfl dq g14 rfl) rfl rfl rfl rfl (xv 9 [0, 1] [0, 1, 2, 3, 4] rfl (EV.fa 0 rfl) rfl rfl rfl rfl (xv 10 [0, 1] [0, 1, 2, 3, 4] rfl (EV.lf (v := .int .i64 ((rd_T68 l0_0 0).f0)) 0 0 none 0 z68 rfl rfl rfl dq g14 rfl (fun _ _ _ _ _ _ => rfl)) rfl rfl rfl rfl (xv 11 [0, 1] [0, 1, 2, 3, 4] rfl (EV.neq rfl rfl) rfl rfl rfl rfl (xv 12 [0, 1] [0, 1, 2, 3, 4] rfl (EV.pf rfl rfl rfl) rfl rfl rfl rfl (xd (pr [1, 3, 4, 6, 24, 25, 26, 34, 35, 36, 37, 38, 39, 40, 41, 42] [0, 1] [0, 1, 2, 3, 4] rfl rfl rfl rfl ?_))))))
      revert H; refine ifsI ?_ ?_ <;> intro c15 H
      ·
       exact gf rfl (nF c15) (gk (gs (rg (sv (EV.mv rfl) rfl (sv (EV.fa 1 rfl) rfl (sv (EV.ld 1 none rfl rfl rfl) rfl (sv (EV.ln rfl) rfl (sv (EV.add rfl rfl) rfl (sv (EV.as rfl) rfl (re (pr [1, 3, 4, 6, 24, 25, 26, 34, 35, 36, 37, 38, 39, 40, 41] [0, 1] [0, 1, 2, 3, 4] rfl rfl rfl rfl (rg (sv (EV.mv rfl) rfl (sv (EV.fa 2 rfl) rfl (sv (EV.ld 1 none rfl rfl rfl) rfl (sv (EV.ln rfl) rfl (sv (EV.add rfl rfl) rfl (sv (EV.as rfl) rfl (re (pr [1, 3, 4, 24, 25, 26, 34, 35, 36, 37, 38, 39, 40, 41] [0, 1] [0, 1, 2, 3, 4] rfl rfl rfl rfl (ge (rg (sv (EV.add rfl rfl) rfl (sv (EV.mv rfl) rfl (re (wk [1, 3, 4, 24, 25, 26] [0] [⟨0, 0, 0, false⟩] (ih0 _ (by omega) _ ⟨wrap64 (x2_3 + (((rd_T68 l0_0 x2_26).f1).length : Int)), wrap64 (x2_4 + (((rd_T68 l0_0 x2_26).f2).length : Int)), x2_25, wrap64 (x2_26 + 1), x2_1_1, x2_1_2, H, rfl⟩)))))))))))))))))))))))))))
      ·
       refine gt rfl (nT c15) (gs (rg (sv (EV.as rfl) rfl (re (pr [2] [] [] rfl rfl rfl rfl ?_)))))
       cases H
       exact rt Try.func16 rfl (.tmp rfl .nil) rfl [] [] rfl rfl rfl rfl rfl ⟨rfl, rfl, rfl⟩
     ·
      obtain rfl := bF c13
      refine ts 33 rfl rfl (xk 4 [0, 1] [0, 1, 2, 3, 4] rfl rfl rfl rfl rfl (xk 5 [0, 1] [0, 1, 2, 3, 4] rfl rfl rfl rfl rfl (xk 6 [0, 1] [0, 1, 2, 3, 4] rfl rfl rfl rfl rfl (xk 7 [0, 1] [0, 1, 2, 3, 4] rfl rfl rfl rfl rfl (xk 8 [0, 1] [0, 1, 2, 3, 4] rfl rfl rfl rfl rfl (xk 9 [0, 1] [0, 1, 2, 3, 4] rfl rfl rfl rfl rfl (xk 10 [0, 1] [0, 1, 2, 3, 4] rfl rfl rfl rfl rfl (xk 11 [0, 1] [0, 1, 2, 3, 4] rfl rfl rfl rfl rfl (xv 12 [0, 1] [0, 1, 2, 3, 4] rfl (EV.pt rfl rfl rfl) rfl rfl rfl rfl (xd (pr [1, 3, 4, 6, 24, 25, 26, 42] [0, 1] [0, 1, 2, 3, 4] rfl rfl rfl rfl (gt rfl rfl (gs (rg (sv (EV.as rfl) rfl (re (pr [2] [] [] rfl rfl rfl rfl ?_)))))))))))))))))
      cases H
      exact rt Try.func16 rfl (.tmp rfl .nil) rfl [] [] rfl rfl rfl rfl rfl ⟨rfl, rfl, rfl⟩
    ·
     refine gf rfl (dF c6) (gx rfl (gs (rg (sv (EV.mv rfl) rfl (sv (EV.leq rfl rfl) rfl (sv (EV.mv rfl) rfl ?_))))))
     revert H; refine ifsI ?_ ?_ <;> intro c16 H
     ·
      refine ts 56 rfl (dT c16) (sv (EV.mv rfl) rfl (sv (EV.leq rfl rfl) rfl (sv (EV.pt rfl rfl rfl) rfl (sv (EV.as rfl) rfl (re (pr [2] [] [] rfl rfl rfl rfl ?_))))))
      cases H
      exact rt Try.func16 rfl (.tmp rfl .nil) rfl [] [] rfl rfl rfl rfl rfl ⟨rfl, rfl, rfl⟩
     ·
      refine ts 56 rfl (dF c16) (sk rfl (sk rfl (sv (EV.pf rfl rfl rfl) rfl (sv (EV.as rfl) rfl (re (pr [2] [] [] rfl rfl rfl rfl ?_))))))
      cases H
      exact rt Try.func16 rfl (.tmp rfl .nil) rfl [] [] rfl rfl rfl rfl rfl ⟨rfl, rfl, rfl⟩
   ·
    obtain rfl := bF c5
    refine gt rfl rfl (gs (rg (sv (EV.as rfl) rfl (re ?_))))
    cases H
    exact rt Try.func16 rfl (.tmp rfl .nil) rfl [] [] rfl rfl rfl rfl rfl ⟨rfl, rfl, rfl⟩
  ·
   obtain rfl := bF c3
   refine ts 17 rfl rfl (sk rfl (sk rfl (sk rfl (sk rfl (sv (EV.pt rfl rfl rfl) rfl (re (pr [1, 22] [0] [0] rfl rfl rfl rfl (gt rfl rfl (gs (rg (sv (EV.as rfl) rfl (re ?_))))))))))))
   cases H
   exact rt Try.func16 rfl (.tmp rfl .nil) rfl [] [] rfl rfl rfl rfl rfl ⟨rfl, rfl, rfl⟩
end Go.Proofs.Ytfcebaplphpajaa.K
namespace Go.Proofs.Ytfcebaplphpajaa.K
open Go Go.RowKit
set_option linter.unusedVariables false
set_option linter.unusedSimpArgs false
def impl_cloneTask.f (a0_0 : Int) (l0_1 : List S77) (l0_2 : List S77) (l0_3 : List Bool) (a0_4 : Int) : Option (Int × (List S77) × (List S77) × (List Bool) × Int) := if l0_3.length ≤ 140737488355328 then ((impl_clone.f l0_1).bind fun t2 => ((impl_clone.f l0_2).bind fun t3 => (some (a0_0, t2, t3, l0_3, a0_4)))) else none
set_option maxHeartbeats 4000000 in
set_option maxRecDepth 100000 in
theorem impl_cloneTask.ok (a0_0 : Int) (l0_1 : List S77) (Al0_1 : Option Addr) (cl0_1 : Nat) (l0_2 : List S77) (Al0_2 : Option Addr) (cl0_2 : Nat) (l0_3 : List Bool) (Al0_3 : Option Addr) (cl0_3 : Nat) (a0_4 : Int) (r0 : Int) (r1 : List S77) (r2 : List S77) (r3 : List Bool) (r4 : Int) (H : impl_cloneTask.f a0_0 l0_1 l0_2 l0_3 a0_4 = some (r0, r1, r2, r3, r4)) : Fn Try.prog 103 [.agg #[.int .i64 a0_0, .slice Al0_1 l0_1.length cl0_1, .slice Al0_2 l0_2.length cl0_2, .slice Al0_3 l0_3.length cl0_3, .int .i64 a0_4]] [] [.sl 0 k77 Al0_1 cl0_1 l0_1 0 false, .sl 0 k77 Al0_2 cl0_2 l0_2 0 false, .sl 0 .bool Al0_3 cl0_3 l0_3 0 false] (fun v bx en => ∃ A1 c1 A2 c2 A3 c3, v = .agg #[.int .i64 r0, .slice A1 r1.length c1, .slice A2 r2.length c2, .slice A3 r3.length c3, .int .i64 r4] ∧ bx = [] ∧ en = [.sl 2 k77 A1 c1 r1 1 true, .sl 2 k77 A2 c2 r2 2 true, .sl 2 .bool A3 c3 r3 3 true]) := by
 refine fn_ 16 Try.func103 rfl rfl rfl (fun base T w0 => ?_)
 rw [impl_cloneTask.f] at H
 refine gs (rg (so rfl (op_box (cs := [.int .i64 a0_0, .slice Al0_1 l0_1.length cl0_1, .slice Al0_2 l0_2.length cl0_2, .slice Al0_3 l0_3.length cl0_3, .int .i64 a0_4]) rfl rfl rfl fun b1 => (so rfl (op_alloc (cs := [.int .i64 0, .slice none 0 0, .slice none 0 0, .slice none 0 0, .int .i64 0]) (by kernel_rfl) rfl fun b2 => (re (gs ?_)))))))
 revert H; refine ggI ?_; intro g1 H
 refine nil_ .bool 1 dq (dr [0, 1] [0, 1, 2] [10, 11, 12, 13, 14] 15 rfl rfl rfl rfl (xv 0 [0, 1] [0, 1, 2] rfl (EV.fa 1 rfl) rfl rfl rfl rfl (xv 1 [0, 1] [0, 1, 2] rfl (EV.ld 0 none rfl rfl rfl) rfl rfl rfl rfl (xv 3 [0, 1] [0, 1, 2] rfl (EV.fa 2 rfl) rfl rfl rfl rfl (xv 4 [0, 1] [0, 1, 2] rfl (EV.ld 0 none rfl rfl rfl) rfl rfl rfl rfl (xv 6 [0, 1] [0, 1, 2] rfl (EV.fa 3 rfl) rfl rfl rfl rfl (xv 7 [0, 1] [0, 1, 2] rfl (EV.ld 0 none rfl rfl rfl) rfl rfl rfl rfl (one1 2 rfl rfl ?_))))))))
 revert H; refine bdI ?_; rintro t2 A2 H
 refine op_call (impl_clone.ok l0_1 Al0_1 cl0_1 _ A2) [⟨0, 0, 0, false⟩] 2 rfl rfl rfl rfl rfl ?_
 rintro _ _ _ ⟨At2, ct2, rfl, rfl, rfl⟩
 refine xs [0, 1] [0, 1, 2] rfl rfl rfl (xv 9 [0, 1] [0, 1, 2] rfl (EV.fa 1 rfl) rfl rfl rfl rfl (one1 5 rfl rfl ?_))
 revert H; refine bdI ?_; rintro t3 A3 H
 refine op_call (impl_clone.ok l0_2 Al0_2 cl0_2 _ A3) [⟨1, 0, 0, false⟩] 4 rfl rfl rfl rfl rfl ?_
 rintro _ _ _ ⟨At3, ct3, rfl, rfl, rfl⟩
 refine xs [0, 1] [0, 1, 2] rfl rfl rfl (one1 8 rfl rfl (op_app (k := .bool) (s := 1) (by_ := 1) 3 2 rfl rfl rfl rfl (ap0 g1 dq) (ap0n g1 dq) (.inl rfl) true (fun _ => .inl rfl) rfl rfl fun A11_4 c11_4 => (nmE (en := [.sl 0 k77 Al0_1 cl0_1 l0_1 0 false, .sl 0 k77 Al0_2 cl0_2 l0_2 0 false, .sl 0 .bool Al0_3 cl0_3 l0_3 0 false, .sl 2 k77 At2 ct2 t2 3 true, .sl 2 k77 At3 ct3 t3 5 true, .sl 2 .bool A11_4 c11_4 l0_3 1 true]) (by kernel_rfl) (xs [0, 1] [0, 1, 2] rfl rfl rfl (one1 10 rfl rfl (op_st (cs' := [.int .i64 a0_0, .slice At2 t2.length ct2, .slice Al0_2 l0_2.length cl0_2, .slice Al0_3 l0_3.length cl0_3, .int .i64 a0_4]) 0 rfl rfl rfl rfl rfl rfl (xn rfl (one1 11 rfl rfl (ov (EV.fa 2 rfl) rfl (xn rfl (one1 12 rfl rfl (op_st (cs' := [.int .i64 a0_0, .slice At2 t2.length ct2, .slice At3 t3.length ct3, .slice Al0_3 l0_3.length cl0_3, .int .i64 a0_4]) 0 rfl rfl rfl rfl rfl rfl (xn rfl (one1 13 rfl rfl (ov (EV.fa 3 rfl) rfl (xn rfl (one1 14 rfl rfl (op_st (cs' := [.int .i64 a0_0, .slice At2 t2.length ct2, .slice At3 t3.length ct3, .slice A11_4 l0_3.length c11_4, .int .i64 a0_4]) 0 rfl rfl rfl rfl rfl rfl (xn rfl (xd (pr [1, 2] [0, 1] [3, 4, 5] rfl rfl rfl rfl (gs (rg (sv (EV.ld (v := .agg #[.int .i64 a0_0, .slice At2 t2.length ct2, .slice At3 t3.length ct3, .slice A11_4 l0_3.length c11_4, .int .i64 a0_4]) 0 (some 5) rfl rfl rfl) rfl (so rfl (op_st (cs' := [.int .i64 a0_0, .slice At2 t2.length ct2, .slice At3 t3.length ct3, .slice A11_4 l0_3.length c11_4, .int .i64 a0_4]) 1 rfl rfl rfl rfl rfl rfl (re ?_)))))))))))))))))))))))))))
 cases H
 exact rt Try.func103 rfl (.cell 1 (some 5) rfl rfl rfl .nil) rfl [] [⟨0, 2, 1, true⟩, ⟨1, 2, 2, true⟩, ⟨2, 2, 3, true⟩] rfl rfl rfl rfl rfl ⟨_, _, _, _, _, _, rfl, rfl, rfl⟩
end Go.Proofs.Ytfcebaplphpajaa.K
namespace Go.Proofs.Ytfcebaplphpajaa.K
open Go Go.RowKit
set_option linter.unusedVariables false
set_option linter.unusedSimpArgs false
def impl_cloneTasks.l0 : Nat → (List S68) → Int → Int → (List S68) → Option ((List S68))
 | 0, _, _, _, _ => none
 | k + 1, x2_3, x2_7, x2_8, l0 => if x2_8 < x2_7 then (if 0 ≤ x2_8 then (if x2_8 < (l0.length : Int) then ((impl_cloneTask.f ((rd_T68 l0 x2_8).f0) ((rd_T68 l0 x2_8).f1) ((rd_T68 l0 x2_8).f2) ((rd_T68 l0 x2_8).f3) ((rd_T68 l0 x2_8).f4)).bind fun bt7 => (if x2_3.length < 1599289640401 then (impl_cloneTasks.l0 k (x2_3 ++ ([(⟨bt7.1, bt7.2.1, bt7.2.2.1, bt7.2.2.2.1, bt7.2.2.2.2⟩ : S68)] : List S68)) x2_7 (wrap64 (x2_8 + 1)) l0) else none)) else none) else none) else (some x2_3)
def impl_cloneTasks.f (k : Nat) (l0 : List S68) : Option ((List S68)) := impl_cloneTasks.l0 k [] (l0.length : Int) 0 l0
set_option maxHeartbeats 4000000 in
set_option maxRecDepth 100000 in
theorem impl_cloneTasks.ok (k : Nat) (l0 : List S68) (Al0 : Option Addr) (cl0 : Nat) (r0 : List S68) (H : impl_cloneTasks.f k l0 = some r0) : Fn Try.prog 95 [.slice Al0 l0.length cl0] [] [.sl 0 k68 Al0 cl0 l0 0 false] (fun v bx en => ∃ A0 c0, v = .slice A0 r0.length c0 ∧ bx = [] ∧ en = [.sl 2 k68 A0 c0 r0 1 true]) := by
 refine fn_ 19 Try.func95 rfl rfl rfl (fun base T w0 => ?_)
 rw [impl_cloneTasks.f] at H
 refine gs (rg (sv (EV.as rfl) rfl (re (gs (rg (sv (EV.as rfl) rfl (re (gs (gs (rg (sv (EV.mv rfl) rfl (sv (EV.ln rfl) rfl (sv (EV.mv rfl) rfl (re (gb (nil_ k68 1 dq ?_))))))))))))))))
 refine lo (fun kk S => ∃ (x2_3 : List S68) (Ax2_3 : Option Addr) (cx2_3 : Nat) (x2_7 : Int) (x2_8 : Int), impl_cloneTasks.l0 kk x2_3 x2_7 x2_8 l0 = some r0 ∧ S = ⟨[(3, .slice Ax2_3 x2_3.length cx2_3), (6, .slice Al0 l0.length cl0), (7, .int .i64 x2_7), (8, .int .i64 x2_8)], [], [.sl 2 k68 Ax2_3 cx2_3 x2_3 1 true, .sl 0 k68 Al0 cl0 l0 0 false]⟩) (fun S hS => ?_) (fun n0 ih0 S hS => ?_) ⟨[], none, 0, (l0.length : Int), 0, H, rfl⟩ (fun h => wk [3, 6, 7, 8] [] [⟨1, 2, 1, true⟩, ⟨0, 0, 0, false⟩] h)
 · clear H; obtain ⟨_, _, _, _, _, H, _⟩ := hS; rw [impl_cloneTasks.l0] at H; cases H
 clear H
 obtain ⟨x2_3, Ax2_3, cx2_3, x2_7, x2_8, H, rfl⟩ := hS
 rw [impl_cloneTasks.l0] at H
 refine gs (rg (sv (EV.lss rfl rfl) rfl (re (gs ?_))))
 revert H; refine ifsI ?_ ?_ <;> intro c1 H
 ·
  refine gt rfl (dT c1) (gk (gs (gb (gs (rg ?_)))))
  revert H; refine ggI ?_; intro g2 H
  revert H; refine ggI ?_; intro g3 H
  refine sv (EV.ix 1 rfl rfl rfl g2 g3 rfl) rfl (opn (i := x2_8) 1 z68 rfl g2 g3 fun A_4 c_4 A_5 c_5 A_6 c_6 => (sv (EV.lc (v := .agg #[.int .i64 ((rd_T68 l0 x2_8).f0), .slice A_4 ((rd_T68 l0 x2_8).f1).length c_4, .slice A_5 ((rd_T68 l0 x2_8).f2).length c_5, .slice A_6 ((rd_T68 l0 x2_8).f3).length c_6, .int .i64 ((rd_T68 l0 x2_8).f4)]) 0 (some 5) 2 rfl rfl rfl rfl) rfl (so rfl (op_alloc (cs := [.int .i64 0, .slice none 0 0, .slice none 0 0, .slice none 0 0, .int .i64 0]) (by kernel_rfl) rfl fun b5 => (so rfl (op_st (cs' := [.int .i64 ((rd_T68 l0 x2_8).f0), .slice A_4 ((rd_T68 l0 x2_8).f1).length c_4, .slice A_5 ((rd_T68 l0 x2_8).f2).length c_5, .slice A_6 ((rd_T68 l0 x2_8).f3).length c_6, .int .i64 ((rd_T68 l0 x2_8).f4)]) 0 rfl rfl rfl rfl rfl rfl (re (rg (sv (EV.mv rfl) rfl (sv (EV.ld (v := .agg #[.int .i64 ((rd_T68 l0 x2_8).f0), .slice A_4 ((rd_T68 l0 x2_8).f1).length c_4, .slice A_5 ((rd_T68 l0 x2_8).f2).length c_5, .slice A_6 ((rd_T68 l0 x2_8).f3).length c_6, .int .i64 ((rd_T68 l0 x2_8).f4)]) 0 (some 5) rfl rfl rfl) rfl ?_))))))))))
  revert H; refine bdI ?_; rintro ⟨t7_0, t7_1, t7_2, t7_3, t7_4⟩ A7 H
  refine so rfl (op_call (impl_cloneTask.ok ((rd_T68 l0 x2_8).f0) ((rd_T68 l0 x2_8).f1) A_4 c_4 ((rd_T68 l0 x2_8).f2) A_5 c_5 ((rd_T68 l0 x2_8).f3) A_6 c_6 ((rd_T68 l0 x2_8).f4) _ _ _ _ _ A7) [⟨3, 0, 0, false⟩, ⟨4, 0, 0, false⟩, ⟨5, 0, 0, false⟩] 2 rfl rfl rfl rfl rfl ?_)
  rintro _ _ _ ⟨At7_1, ct7_1, At7_2, ct7_2, At7_3, ct7_3, rfl, rfl, rfl⟩
  refine so rfl (op_lit (s := 5) (by_ := 88) k68 ([(⟨t7_0, t7_1, t7_2, t7_3, t7_4⟩ : S68)] : List S68) [[(At7_1, ct7_1), (At7_2, ct7_2), (At7_3, ct7_3)]] [6, 7, 8] 6 [.tmp 14] rfl rfl rfl rfl rfl rfl rfl rfl rfl rfl rfl rfl rfl dq rfl fun A15_8 c15_8 => (nmE (en := [.sl 2 k68 Ax2_3 cx2_3 x2_3 1 true, .sl 0 k68 Al0 cl0 l0 0 false, celE Al0 (x2_8.toNat * 5) [.int .i64 ((rd_T68 l0 x2_8).f0), .slice A_4 ((rd_T68 l0 x2_8).f1).length c_4, .slice A_5 ((rd_T68 l0 x2_8).f2).length c_5, .slice A_6 ((rd_T68 l0 x2_8).f3).length c_6, .int .i64 ((rd_T68 l0 x2_8).f4)] 0, .sl 0 k77 A_4 c_4 ((rd_T68 l0 x2_8).f1) 0 false, .sl 0 k77 A_5 c_5 ((rd_T68 l0 x2_8).f2) 0 false, .sl 0 .bool A_6 c_6 ((rd_T68 l0 x2_8).f3) 0 false, .sl 2 k77 At7_1 ct7_1 t7_1 6 true, .sl 2 k77 At7_2 ct7_2 t7_2 6 true, .sl 2 .bool At7_3 ct7_3 t7_3 6 true, .sl 2 k68 A15_8 c15_8 ([(⟨t7_0, t7_1, t7_2, t7_3, t7_4⟩ : S68)] : List S68) 6 true]) (by kernel_rfl) ?_))
  revert H; refine ggI ?_; intro g9 H
  exact so rfl (op_app (k := k68) (s := 5) (by_ := 88) 0 9 rfl rfl rfl rfl (ap1 g9 dq) (ap1n g9 dq) (.inr ⟨dq, dq, rfl, dq⟩) true (fun _ => .inr ⟨rfl, rfl, dq⟩) rfl rfl fun A16_10 c16_10 => (nmE (en := [.sl 0 k68 Al0 cl0 l0 0 false, celE Al0 (x2_8.toNat * 5) [.int .i64 ((rd_T68 l0 x2_8).f0), .slice A_4 ((rd_T68 l0 x2_8).f1).length c_4, .slice A_5 ((rd_T68 l0 x2_8).f2).length c_5, .slice A_6 ((rd_T68 l0 x2_8).f3).length c_6, .int .i64 ((rd_T68 l0 x2_8).f4)] 0, .sl 0 k77 A_4 c_4 ((rd_T68 l0 x2_8).f1) 0 false, .sl 0 k77 A_5 c_5 ((rd_T68 l0 x2_8).f2) 0 false, .sl 0 .bool A_6 c_6 ((rd_T68 l0 x2_8).f3) 0 false, .sl 2 k77 At7_1 ct7_1 t7_1 1 true, .sl 2 k77 At7_2 ct7_2 t7_2 1 true, .sl 2 .bool At7_3 ct7_3 t7_3 1 true, .sl 2 k68 A15_8 c15_8 ([(⟨t7_0, t7_1, t7_2, t7_3, t7_4⟩ : S68)] : List S68) 1 true, .sl 2 k68 A16_10 c16_10 (x2_3 ++ ([(⟨t7_0, t7_1, t7_2, t7_3, t7_4⟩ : S68)] : List S68)) 1 true]) (by kernel_rfl) (sv (EV.as rfl) rfl (re (pr [3, 6, 7, 8] [] [0, 9] rfl rfl rfl rfl (ge (rg (sv (EV.add rfl rfl) rfl (sv (EV.mv rfl) rfl (re (wk [3, 6, 7, 8] [] [⟨1, 2, 1, true⟩, ⟨0, 0, 0, false⟩] (ih0 _ (by omega) _ ⟨x2_3 ++ ([(⟨t7_0, t7_1, t7_2, t7_3, t7_4⟩ : S68)] : List S68), A16_10, c16_10, x2_7, wrap64 (x2_8 + 1), H, rfl⟩))))))))))))
 ·
  refine gf rfl (dF c1) (gx rfl (gs (rg (sv (EV.mv rfl) rfl (sv (EV.as rfl) rfl (re (pr [2] [] [0] rfl rfl rfl rfl ?_)))))))
  cases H
  exact rt Try.func95 rfl (.tmp rfl .nil) rfl [] [⟨0, 2, 1, true⟩] rfl rfl rfl rfl rfl ⟨_, _, rfl, rfl, rfl⟩
end Go.Proofs.Ytfcebaplphpajaa.K
namespace Go.Proofs.Ytfcebaplphpajaa.K
open Go Go.RowKit
set_option linter.unusedVariables false
set_option linter.unusedSimpArgs false
def impl_cloneJoiner.f (k : Nat) (l0_0 : List S68) (a0_1 : Int) (a0_2 : Int) : Option ((List S68) × Int × Int) := (impl_cloneTasks.f k l0_0).bind fun t1 => (some (t1, a0_1, a0_2))
set_option maxHeartbeats 4000000 in
set_option maxRecDepth 100000 in
theorem impl_cloneJoiner.ok (k : Nat) (l0_0 : List S68) (Al0_0 : Option Addr) (cl0_0 : Nat) (a0_1 : Int) (a0_2 : Int) (r0 : List S68) (r1 : Int) (r2 : Int) (H : impl_cloneJoiner.f k l0_0 a0_1 a0_2 = some (r0, r1, r2)) : Fn Try.prog 61 [.agg #[.slice Al0_0 l0_0.length cl0_0, .int .i64 a0_1, .int .i64 a0_2]] [] [.sl 0 k68 Al0_0 cl0_0 l0_0 0 false] (fun v bx en => ∃ A0 c0, v = .agg #[.slice A0 r0.length c0, .int .i64 r1, .int .i64 r2] ∧ bx = [] ∧ en = [.sl 2 k68 A0 c0 r0 1 true]) := by
 refine fn_ 8 Try.func61 rfl rfl rfl (fun base T w0 => ?_)
 rw [impl_cloneJoiner.f] at H
 refine gs (rg (so rfl (op_box (cs := [.slice Al0_0 l0_0.length cl0_0, .int .i64 a0_1, .int .i64 a0_2]) rfl rfl rfl fun b1 => (so rfl (op_alloc (cs := [.slice none 0 0, .int .i64 0, .int .i64 0]) (by kernel_rfl) rfl fun b2 => (re (gs (rg (sv (EV.fa 0 rfl) rfl (sv (EV.ld 0 none rfl rfl rfl) rfl ?_))))))))))
 revert H; refine bdI ?_; rintro t1 A1 H
 refine so rfl (op_call (impl_cloneTasks.ok k l0_0 Al0_0 cl0_0 _ A1) [⟨0, 0, 0, false⟩] 1 rfl rfl rfl rfl rfl ?_)
 rintro _ _ _ ⟨At1, ct1, rfl, rfl, rfl⟩
 refine sv (EV.fa 0 rfl) rfl (so rfl (op_st (cs' := [.slice At1 t1.length ct1, .int .i64 a0_1, .int .i64 a0_2]) 0 rfl rfl rfl rfl rfl rfl (re (gs (rg (sv (EV.ld (v := .agg #[.slice At1 t1.length ct1, .int .i64 a0_1, .int .i64 a0_2]) 0 (some 3) rfl rfl rfl) rfl (so rfl (op_st (cs' := [.slice At1 t1.length ct1, .int .i64 a0_1, .int .i64 a0_2]) 1 rfl rfl rfl rfl rfl rfl (re (pr [2] [1] [1] rfl rfl rfl rfl ?_))))))))))
 cases H
 exact rt Try.func61 rfl (.cell 0 (some 3) rfl rfl rfl .nil) rfl [] [⟨0, 2, 1, true⟩] rfl rfl rfl rfl rfl ⟨_, _, rfl, rfl, rfl⟩
end Go.Proofs.Ytfcebaplphpajaa.K
namespace Go.Proofs.Ytfcebaplphpajaa.K
open Go Go.RowKit
set_option linter.unusedVariables false
set_option linter.unusedSimpArgs false
def impl_RowCost.f (a0_0 : Int) (a0_1 : Int) (a0_2 : Int) : Option (Int) := (impl_IsValidRow.f a0_0 a0_1 a0_2).bind fun t1 => (if t1 = true then (some (wrap64 (1 + a0_2))) else (some 0))
set_option maxHeartbeats 4000000 in
set_option maxRecDepth 100000 in
theorem impl_RowCost.ok (a0_0 : Int) (a0_1 : Int) (a0_2 : Int) (r0 : Int) (H : impl_RowCost.f a0_0 a0_1 a0_2 = some r0) : Fn Try.prog 105 [.agg #[.int .i64 a0_0, .int .i64 a0_1, .int .i64 a0_2]] [] [] (fun v bx en => v = .int .i64 r0 ∧ bx = [] ∧ en = []) := by
 refine fn_ 9 Try.func105 rfl rfl rfl (fun base T w0 => ?_)
 rw [impl_RowCost.f] at H
 refine gs (rg (so rfl (op_box (cs := [.int .i64 a0_0, .int .i64 a0_1, .int .i64 a0_2]) rfl rfl rfl fun b1 => (sv (EV.as rfl) rfl (re (gs (gs (rg (sv (EV.ld (v := .agg #[.int .i64 a0_0, .int .i64 a0_1, .int .i64 a0_2]) 0 (some 3) rfl rfl rfl) rfl ?_)))))))))
 revert H; refine bdI ?_; rintro t1 A1 H
 refine so rfl (op_call (impl_IsValidRow.ok a0_0 a0_1 a0_2 _ A1) [] 1 rfl rfl rfl rfl rfl ?_)
 rintro _ _ _ ⟨rfl, rfl, rfl⟩
 refine sv (EV.nt rfl) rfl (re ?_)
 revert H; refine ifsI ?_ ?_ <;> intro c2 H
 ·
  subst c2
  refine gf rfl rfl (gk (gs (rg (sv (EV.fa 2 rfl) rfl (sv (EV.ld 0 none rfl rfl rfl) rfl (sv (EV.add rfl rfl) rfl (sv (EV.as rfl) rfl (re (pr [2] [] [] rfl rfl rfl rfl ?_)))))))))
  cases H
  exact rt Try.func105 rfl (.tmp rfl .nil) rfl [] [] rfl rfl rfl rfl rfl ⟨rfl, rfl, rfl⟩
 ·
  obtain rfl := bF c2
  refine gt rfl rfl (gs (rg (sv (EV.as rfl) rfl (re ?_))))
  cases H
  exact rt Try.func105 rfl (.tmp rfl .nil) rfl [] [] rfl rfl rfl rfl rfl ⟨rfl, rfl, rfl⟩
end Go.Proofs.Ytfcebaplphpajaa.K
namespace Go.Proofs.Ytfcebaplphpajaa.K
open Go Go.RowKit
set_option linter.unusedVariables false
set_option linter.unusedSimpArgs false
def impl_TotalCost.l0 : Nat → Int → Int → Int → (List S77) → Option (Int)
 | 0, _, _, _, _ => none
 | k + 1, x2_3, x2_7, x2_8, l0 => if x2_8 < x2_7 then (if 0 ≤ x2_8 then (if x2_8 < (l0.length : Int) then ((impl_RowCost.f ((rd_T77 l0 x2_8).f0) ((rd_T77 l0 x2_8).f1) ((rd_T77 l0 x2_8).f2)).bind fun t4 => (impl_TotalCost.l0 k (wrap64 (x2_3 + t4)) x2_7 (wrap64 (x2_8 + 1)) l0)) else none) else none) else (some x2_3)
def impl_TotalCost.f (k : Nat) (l0 : List S77) : Option (Int) := impl_TotalCost.l0 k 0 (l0.length : Int) 0 l0
set_option maxHeartbeats 4000000 in
set_option maxRecDepth 100000 in
theorem impl_TotalCost.ok (k : Nat) (l0 : List S77) (Al0 : Option Addr) (cl0 : Nat) (r0 : Int) (H : impl_TotalCost.f k l0 = some r0) : Fn Try.prog 75 [.slice Al0 l0.length cl0] [] [.sl 0 k77 Al0 cl0 l0 0 false] (fun v bx en => v = .int .i64 r0 ∧ bx = [] ∧ en = []) := by
 refine fn_ 18 Try.func75 rfl rfl rfl (fun base T w0 => ?_)
 rw [impl_TotalCost.f] at H
 refine gs (rg (sv (EV.as rfl) rfl (re (gs (rg (sv (EV.as rfl) rfl (re (gs (gs (rg (sv (EV.mv rfl) rfl (sv (EV.ln rfl) rfl (sv (EV.mv rfl) rfl (re (gb ?_)))))))))))))))
 refine lo (fun kk S => ∃ (x2_3 : Int) (x2_7 : Int) (x2_8 : Int), impl_TotalCost.l0 kk x2_3 x2_7 x2_8 l0 = some r0 ∧ S = ⟨[(3, .int .i64 x2_3), (6, .slice Al0 l0.length cl0), (7, .int .i64 x2_7), (8, .int .i64 x2_8)], [], [.sl 0 k77 Al0 cl0 l0 0 false]⟩) (fun S hS => ?_) (fun n0 ih0 S hS => ?_) ⟨0, (l0.length : Int), 0, H, rfl⟩ (fun h => wk [3, 6, 7, 8] [] [⟨0, 0, 0, false⟩] h)
 · clear H; obtain ⟨_, _, _, H, _⟩ := hS; rw [impl_TotalCost.l0] at H; cases H
 clear H
 obtain ⟨x2_3, x2_7, x2_8, H, rfl⟩ := hS
 rw [impl_TotalCost.l0] at H
 refine gs (rg (sv (EV.lss rfl rfl) rfl (re (gs ?_))))
 revert H; refine ifsI ?_ ?_ <;> intro c1 H
 ·
  refine gt rfl (dT c1) (gk (gs (gb (gs (rg ?_)))))
  revert H; refine ggI ?_; intro g2 H
  revert H; refine ggI ?_; intro g3 H
  refine sv (EV.ix 0 rfl rfl rfl g2 g3 rfl) rfl (sv (EV.le (v := .agg #[.int .i64 ((rd_T77 l0 x2_8).f0), .int .i64 ((rd_T77 l0 x2_8).f1), .int .i64 ((rd_T77 l0 x2_8).f2)]) x2_8 0 (some 3) 0 z77 rfl rfl rfl g2 g3 rfl rfl rfl) rfl (so rfl (op_alloc (cs := [.int .i64 0, .int .i64 0, .int .i64 0]) (by kernel_rfl) rfl fun b5 => (so rfl (op_st (cs' := [.int .i64 ((rd_T77 l0 x2_8).f0), .int .i64 ((rd_T77 l0 x2_8).f1), .int .i64 ((rd_T77 l0 x2_8).f2)]) 0 rfl rfl rfl rfl rfl rfl (re (rg (sv (EV.mv rfl) rfl (sv (EV.ld (v := .agg #[.int .i64 ((rd_T77 l0 x2_8).f0), .int .i64 ((rd_T77 l0 x2_8).f1), .int .i64 ((rd_T77 l0 x2_8).f2)]) 0 (some 3) rfl rfl rfl) rfl ?_)))))))))
  revert H; refine bdI ?_; rintro t4 A4 H
  refine so rfl (op_call (impl_RowCost.ok ((rd_T77 l0 x2_8).f0) ((rd_T77 l0 x2_8).f1) ((rd_T77 l0 x2_8).f2) _ A4) [] 1 rfl rfl rfl rfl rfl ?_)
  rintro _ _ _ ⟨rfl, rfl, rfl⟩
  exact sv (EV.add rfl rfl) rfl (sv (EV.as rfl) rfl (re (pr [3, 6, 7, 8] [] [0] rfl rfl rfl rfl (ge (rg (sv (EV.add rfl rfl) rfl (sv (EV.mv rfl) rfl (re (wk [3, 6, 7, 8] [] [⟨0, 0, 0, false⟩] (ih0 _ (by omega) _ ⟨wrap64 (x2_3 + t4), x2_7, wrap64 (x2_8 + 1), H, rfl⟩))))))))))
 ·
  refine gf rfl (dF c1) (gx rfl (gs (rg (sv (EV.mv rfl) rfl (sv (EV.as rfl) rfl (re (pr [2] [] [] rfl rfl rfl rfl ?_)))))))
  cases H
  exact rt Try.func75 rfl (.tmp rfl .nil) rfl [] [] rfl rfl rfl rfl rfl ⟨rfl, rfl, rfl⟩
end Go.Proofs.Ytfcebaplphpajaa.K
namespace Go.Proofs.Ytfcebaplphpajaa.K
open Go Go.RowKit
set_option linter.unusedVariables false
set_option linter.unusedSimpArgs false
def impl_BuildSide.f (k : Nat) (a0_0 : Int) (l0_1 : List S77) (l0_2 : List S77) (l0_3 : List Bool) (a0_4 : Int) (a1 : Int) : Option (Int) := (impl_IsValidTask.f k a0_0 l0_1 l0_2 l0_3 a0_4).bind fun t1 => (if t1 = true then ((impl_TotalCost.f k l0_1).bind fun t3 => ((impl_TotalCost.f k l0_2).bind fun t4 => (if a0_0 = 1 then (if t3 < t4 then (if t3 ≤ a1 then (some 1) else (if t4 ≤ a1 then (some 2) else (some 0))) else (if t4 ≤ a1 then (some 2) else (some 0))) else (if t4 ≤ a1 then (some 2) else (some 0))))) else (some 0))
set_option maxHeartbeats 4000000 in
set_option maxRecDepth 100000 in
theorem impl_BuildSide.ok (k : Nat) (a0_0 : Int) (l0_1 : List S77) (Al0_1 : Option Addr) (cl0_1 : Nat) (l0_2 : List S77) (Al0_2 : Option Addr) (cl0_2 : Nat) (l0_3 : List Bool) (Al0_3 : Option Addr) (cl0_3 : Nat) (a0_4 : Int) (a1 : Int) (r0 : Int) (H : impl_BuildSide.f k a0_0 l0_1 l0_2 l0_3 a0_4 a1 = some r0) : Fn Try.prog 72 [.agg #[.int .i64 a0_0, .slice Al0_1 l0_1.length cl0_1, .slice Al0_2 l0_2.length cl0_2, .slice Al0_3 l0_3.length cl0_3, .int .i64 a0_4], .int .i64 a1] [] [.sl 0 k77 Al0_1 cl0_1 l0_1 0 false, .sl 0 k77 Al0_2 cl0_2 l0_2 0 false, .sl 0 .bool Al0_3 cl0_3 l0_3 0 false] (fun v bx en => v = .int .i64 r0 ∧ bx = [] ∧ en = []) := by
 refine fn_ 34 Try.func72 rfl rfl rfl (fun base T w0 => ?_)
 rw [impl_BuildSide.f] at H
 refine gs (rg (so rfl (op_box (cs := [.int .i64 a0_0, .slice Al0_1 l0_1.length cl0_1, .slice Al0_2 l0_2.length cl0_2, .slice Al0_3 l0_3.length cl0_3, .int .i64 a0_4]) rfl rfl rfl fun b2 => (sv (EV.as rfl) rfl (re (gs (gs (rg (sv (EV.ld (v := .agg #[.int .i64 a0_0, .slice Al0_1 l0_1.length cl0_1, .slice Al0_2 l0_2.length cl0_2, .slice Al0_3 l0_3.length cl0_3, .int .i64 a0_4]) 0 (some 5) rfl rfl rfl) rfl ?_)))))))))
 revert H; refine bdI ?_; rintro t1 A1 H
 refine so rfl (op_call (impl_IsValidTask.ok k a0_0 l0_1 Al0_1 cl0_1 l0_2 Al0_2 cl0_2 l0_3 Al0_3 cl0_3 a0_4 _ A1) [⟨0, 0, 0, false⟩, ⟨1, 0, 0, false⟩, ⟨2, 0, 0, false⟩] 1 rfl rfl rfl rfl rfl ?_)
 rintro _ _ _ ⟨rfl, rfl, rfl⟩
 refine sv (EV.nt rfl) rfl (re ?_)
 revert H; refine ifsI ?_ ?_ <;> intro c2 H
 ·
  subst c2
  refine gf rfl rfl (gk (gs (dr [0] [0, 1, 2] [] 8 rfl rfl rfl rfl (xv 0 [0] [0, 1, 2] rfl (EV.fa 1 rfl) rfl rfl rfl rfl (xv 1 [0] [0, 1, 2] rfl (EV.ld 0 none rfl rfl rfl) rfl rfl rfl rfl (xv 3 [0] [0, 1, 2] rfl (EV.fa 2 rfl) rfl rfl rfl rfl (xv 4 [0] [0, 1, 2] rfl (EV.ld 0 none rfl rfl rfl) rfl rfl rfl rfl (one1 2 rfl rfl ?_))))))))
  revert H; refine bdI ?_; rintro t3 A3 H
  refine op_call (impl_TotalCost.ok k l0_1 Al0_1 cl0_1 _ A3) [⟨0, 0, 0, false⟩] 1 rfl rfl rfl rfl rfl ?_
  rintro _ _ _ ⟨rfl, rfl, rfl⟩
  refine xs [0] [0, 1, 2] rfl rfl rfl (one1 5 rfl rfl ?_)
  revert H; refine bdI ?_; rintro t4 A4 H
  refine op_call (impl_TotalCost.ok k l0_2 Al0_2 cl0_2 _ A4) [⟨1, 0, 0, false⟩] 1 rfl rfl rfl rfl rfl ?_
  rintro _ _ _ ⟨rfl, rfl, rfl⟩
  refine xs [0] [0, 1, 2] rfl rfl rfl (xv 6 [0] [0, 1, 2] rfl (EV.as rfl) rfl rfl rfl rfl (xv 7 [0] [0, 1, 2] rfl (EV.as rfl) rfl rfl rfl rfl (xd (pr [1, 2, 5, 6] [0] [0, 1, 2] rfl rfl rfl rfl (gs (gb (gs (rg (sv (EV.fa 0 rfl) rfl (sv (EV.ld 0 none rfl rfl rfl) rfl (sv (EV.eql rfl rfl) rfl (sv (EV.mv rfl) rfl ?_))))))))))))
  revert H; refine ifsI ?_ ?_ <;> intro c5 H
  ·
   refine ts 20 rfl (dT c5) (sv (EV.mv rfl) rfl (sv (EV.mv rfl) rfl (sv (EV.lss rfl rfl) rfl (sv (EV.pt rfl rfl rfl) rfl (sv (EV.mv rfl) rfl ?_)))))
   revert H; refine ifsI ?_ ?_ <;> intro c6 H
   ·
    refine ts 25 rfl (dT c6) (sv (EV.mv rfl) rfl (sv (EV.mv rfl) rfl (sv (EV.leq rfl rfl) rfl (sv (EV.pt rfl rfl rfl) rfl (sv (EV.as rfl) rfl (re (pr [1, 6, 16] [] [] rfl rfl rfl rfl ?_)))))))
    revert H; refine ifsI ?_ ?_ <;> intro c7 H
    ·
     refine gt rfl (dT c7) (gs (rg (sv (EV.as rfl) rfl (re ?_))))
     cases H
     exact rt Try.func72 rfl (.tmp rfl .nil) rfl [] [] rfl rfl rfl rfl rfl ⟨rfl, rfl, rfl⟩
    ·
     refine gf rfl (dF c7) (gs (rg (sv (EV.mv rfl) rfl (sv (EV.mv rfl) rfl (sv (EV.leq rfl rfl) rfl (sv (EV.as rfl) rfl (re (pr [30] [] [] rfl rfl rfl rfl ?_))))))))
     revert H; refine ifsI ?_ ?_ <;> intro c8 H
     ·
      refine gt rfl (dT c8) (gs (rg (sv (EV.as rfl) rfl (re ?_))))
      cases H
      exact rt Try.func72 rfl (.tmp rfl .nil) rfl [] [] rfl rfl rfl rfl rfl ⟨rfl, rfl, rfl⟩
     ·
      refine gf rfl (dF c8) (gk (ge (gs (rg (sv (EV.as rfl) rfl (re ?_))))))
      cases H
      exact rt Try.func72 rfl (.tmp rfl .nil) rfl [] [] rfl rfl rfl rfl rfl ⟨rfl, rfl, rfl⟩
   ·
    refine ts 25 rfl (dF c6) (sk rfl (sk rfl (sk rfl (sv (EV.pf rfl rfl rfl) rfl (sv (EV.as rfl) rfl (re (pr [1, 6, 16] [] [] rfl rfl rfl rfl (gf rfl rfl (gs (rg (sv (EV.mv rfl) rfl (sv (EV.mv rfl) rfl (sv (EV.leq rfl rfl) rfl (sv (EV.as rfl) rfl (re (pr [30] [] [] rfl rfl rfl rfl ?_))))))))))))))))
    revert H; refine ifsI ?_ ?_ <;> intro c9 H
    ·
     refine gt rfl (dT c9) (gs (rg (sv (EV.as rfl) rfl (re ?_))))
     cases H
     exact rt Try.func72 rfl (.tmp rfl .nil) rfl [] [] rfl rfl rfl rfl rfl ⟨rfl, rfl, rfl⟩
    ·
     refine gf rfl (dF c9) (gk (ge (gs (rg (sv (EV.as rfl) rfl (re ?_))))))
     cases H
     exact rt Try.func72 rfl (.tmp rfl .nil) rfl [] [] rfl rfl rfl rfl rfl ⟨rfl, rfl, rfl⟩
  ·
   refine ts 20 rfl (dF c5) (sk rfl (sk rfl (sk rfl (sv (EV.pf rfl rfl rfl) rfl (sv (EV.mv rfl) rfl (sk rfl (sk rfl (sk rfl (sv (EV.pf rfl rfl rfl) rfl (sv (EV.as rfl) rfl (re (pr [1, 6, 16] [] [] rfl rfl rfl rfl (gf rfl rfl (gs (rg (sv (EV.mv rfl) rfl (sv (EV.mv rfl) rfl (sv (EV.leq rfl rfl) rfl (sv (EV.as rfl) rfl (re (pr [30] [] [] rfl rfl rfl rfl ?_)))))))))))))))))))))
   revert H; refine ifsI ?_ ?_ <;> intro c10 H
   ·
    refine gt rfl (dT c10) (gs (rg (sv (EV.as rfl) rfl (re ?_))))
    cases H
    exact rt Try.func72 rfl (.tmp rfl .nil) rfl [] [] rfl rfl rfl rfl rfl ⟨rfl, rfl, rfl⟩
   ·
    refine gf rfl (dF c10) (gk (ge (gs (rg (sv (EV.as rfl) rfl (re ?_))))))
    cases H
    exact rt Try.func72 rfl (.tmp rfl .nil) rfl [] [] rfl rfl rfl rfl rfl ⟨rfl, rfl, rfl⟩
 ·
  obtain rfl := bF c2
  refine gt rfl rfl (gs (rg (sv (EV.as rfl) rfl (re (pr [4] [] [] rfl rfl rfl rfl ?_)))))
  cases H
  exact rt Try.func72 rfl (.tmp rfl .nil) rfl [] [] rfl rfl rfl rfl rfl ⟨rfl, rfl, rfl⟩
end Go.Proofs.Ytfcebaplphpajaa.K
namespace Go.Proofs.Ytfcebaplphpajaa.K
open Go Go.RowKit
set_option linter.unusedVariables false
set_option linter.unusedSimpArgs false
mutual
def impl_UnmatchedRows.l0 : Nat → (List S99) → Int → Int → Int → Int → (List S77) → (List S77) → (List Bool) → Option ((List S99))
 | 0, _, _, _, _, _, _, _, _ => none
 | k + 1, x3_3, x3_22, x3_23, x3_1_0, x3_1_4, l0_1, l0_2, l0_3 => if x3_23 < x3_22 then (if 0 ≤ x3_23 then (if x3_23 < (l0_1.length : Int) then (if x3_23 < (l0_3.length : Int) then (if (rdOf false l0_3 x3_23) = true then (impl_UnmatchedRows.l0 k x3_3 x3_22 (wrap64 (x3_23 + 1)) x3_1_0 x3_1_4 l0_1 l0_2 l0_3) else (if x3_3.length < 2513169434916 then (impl_UnmatchedRows.l0 k (x3_3 ++ ([(⟨(⟨(rd_T77 l0_1 x3_23).f0, (rd_T77 l0_1 x3_23).f1, (rd_T77 l0_1 x3_23).f2⟩ : S77), (⟨0, 0, 0⟩ : S77), false⟩ : S99)] : List S99)) x3_22 (wrap64 (x3_23 + 1)) x3_1_0 x3_1_4 l0_1 l0_2 l0_3) else none)) else none) else none) else none) else (some x3_3)
def impl_UnmatchedRows.j0 : Nat → Int → Int → (List S77) → (List S77) → (List Bool) → Option ((List S99))
 | 0, _, _, _, _, _ => none
 | k + 1, x1_1_0, x1_1_4, l0_1, l0_2, l0_3 => impl_UnmatchedRows.l0 k [] (l0_1.length : Int) 0 x1_1_0 x1_1_4 l0_1 l0_2 l0_3
end
def impl_UnmatchedRows.f (k : Nat) (a0_0 : Int) (l0_1 : List S77) (l0_2 : List S77) (l0_3 : List Bool) (a0_4 : Int) : Option ((List S99)) := (impl_IsValidTask.f k a0_0 l0_1 l0_2 l0_3 a0_4).bind fun t11 => (if t11 = true then (if a0_0 = 3 then (impl_UnmatchedRows.j0 k a0_0 a0_4 l0_1 l0_2 l0_3) else (if a0_0 = 4 then (impl_UnmatchedRows.j0 k a0_0 a0_4 l0_1 l0_2 l0_3) else (some []))) else (some []))
set_option maxHeartbeats 4000000 in
set_option maxRecDepth 100000 in
theorem impl_UnmatchedRows.ok (k : Nat) (a0_0 : Int) (l0_1 : List S77) (Al0_1 : Option Addr) (cl0_1 : Nat) (l0_2 : List S77) (Al0_2 : Option Addr) (cl0_2 : Nat) (l0_3 : List Bool) (Al0_3 : Option Addr) (cl0_3 : Nat) (a0_4 : Int) (r0 : List S99) (H : impl_UnmatchedRows.f k a0_0 l0_1 l0_2 l0_3 a0_4 = some r0) : Fn Try.prog 73 [.agg #[.int .i64 a0_0, .slice Al0_1 l0_1.length cl0_1, .slice Al0_2 l0_2.length cl0_2, .slice Al0_3 l0_3.length cl0_3, .int .i64 a0_4]] [] [.sl 0 k77 Al0_1 cl0_1 l0_1 0 false, .sl 0 k77 Al0_2 cl0_2 l0_2 0 false, .sl 0 .bool Al0_3 cl0_3 l0_3 0 false] (fun v bx en => ∃ A0 c0, v = .slice A0 r0.length c0 ∧ bx = [] ∧ en = [.sl 2 k99 A0 c0 r0 1 true]) := by
 refine fn_ 41 Try.func73 rfl rfl rfl (fun base T w0 => ?_)
 rw [impl_UnmatchedRows.f] at H
 refine gs (rg (so rfl (op_box (cs := [.int .i64 a0_0, .slice Al0_1 l0_1.length cl0_1, .slice Al0_2 l0_2.length cl0_2, .slice Al0_3 l0_3.length cl0_3, .int .i64 a0_4]) rfl rfl rfl fun b1 => (sv (EV.as rfl) rfl (re ?_)))))
 refine jo (fun S => ∃ (m : Nat) (x1_1_0 : Int) (x1_1_4 : Int), impl_UnmatchedRows.j0 m x1_1_0 x1_1_4 l0_1 l0_2 l0_3 = some r0 ∧ S = ⟨[(1, .pointer (some ⟨b1, 0, none⟩))], [⟨b1, 68, [.int .i64 x1_1_0, .slice Al0_1 l0_1.length cl0_1, .slice Al0_2 l0_2.length cl0_2, .slice Al0_3 l0_3.length cl0_3, .int .i64 x1_1_4]⟩], [.sl 0 k77 Al0_1 cl0_1 l0_1 0 false, .sl 0 k77 Al0_2 cl0_2 l0_2 0 false, .sl 0 .bool Al0_3 cl0_3 l0_3 0 false]⟩) (fun S hS => ?_) (fun jh0 => ?_)
 ·
  clear H
  obtain ⟨m1, x1_1_0, x1_1_4, H, rfl⟩ := hS
  rcases m1 with _ | m1
  · rw [impl_UnmatchedRows.j0] at H; cases H
  rw [impl_UnmatchedRows.j0] at H
  refine gs (rg (so rfl (op_lit (s := 7) (by_ := 56) k99 ([] : List S99) [] [] 1 [] rfl rfl rfl rfl rfl rfl rfl rfl rfl rfl rfl rfl rfl dq rfl fun A19_2 c19_2 => (sv (EV.as rfl) rfl (re (gs (gs (rg (sv (EV.fa 1 rfl) rfl (sv (EV.ld 0 none rfl rfl rfl) rfl (sv (EV.ln rfl) rfl (sv (EV.mv rfl) rfl (re (gb ?_))))))))))))))
  refine lo (fun kk S => ∃ (x3_3 : List S99) (Ax3_3 : Option Addr) (cx3_3 : Nat) (x3_22 : Int) (x3_23 : Int) (x3_1_0 : Int) (x3_1_4 : Int), kk ≤ m1 ∧ impl_UnmatchedRows.l0 kk x3_3 x3_22 x3_23 x3_1_0 x3_1_4 l0_1 l0_2 l0_3 = some r0 ∧ S = ⟨[(1, .pointer (some ⟨b1, 0, none⟩)), (3, .slice Ax3_3 x3_3.length cx3_3), (21, .slice Al0_1 l0_1.length cl0_1), (22, .int .i64 x3_22), (23, .int .i64 x3_23)], [⟨b1, 68, [.int .i64 x3_1_0, .slice Al0_1 l0_1.length cl0_1, .slice Al0_2 l0_2.length cl0_2, .slice Al0_3 l0_3.length cl0_3, .int .i64 x3_1_4]⟩], [.sl 2 k99 Ax3_3 cx3_3 x3_3 1 true, .sl 0 k77 Al0_1 cl0_1 l0_1 0 false, .sl 0 k77 Al0_2 cl0_2 l0_2 0 false, .sl 0 .bool Al0_3 cl0_3 l0_3 0 false]⟩) (fun S hS => ?_) (fun n0 ih0 S hS => ?_) ⟨[], A19_2, c19_2, (l0_1.length : Int), 0, x1_1_0, x1_1_4, by omega, H, rfl⟩ (fun h => wk [1, 3, 21, 22, 23] [0] [⟨3, 2, 1, true⟩, ⟨0, 0, 0, false⟩, ⟨1, 0, 0, false⟩, ⟨2, 0, 0, false⟩] h)
  · clear H; obtain ⟨_, _, _, _, _, _, _, _, H, _⟩ := hS; rw [impl_UnmatchedRows.l0] at H; cases H
  clear H
  obtain ⟨x3_3, Ax3_3, cx3_3, x3_22, x3_23, x3_1_0, x3_1_4, lk0, H, rfl⟩ := hS
  rw [impl_UnmatchedRows.l0] at H
  refine gs (rg (sv (EV.lss rfl rfl) rfl (re (gs ?_))))
  revert H; refine ifsI ?_ ?_ <;> intro c3 H
  ·
   refine gt rfl (dT c3) (gk (gs (gb (gs (rg (sv (EV.mv rfl) rfl ?_))))))
   revert H; refine ggI ?_; intro g4 H
   revert H; refine ggI ?_; intro g5 H
   refine sv (EV.ix 1 rfl rfl rfl g4 g5 rfl) rfl (sv (EV.le (v := .agg #[.int .i64 ((rd_T77 l0_1 x3_23).f0), .int .i64 ((rd_T77 l0_1 x3_23).f1), .int .i64 ((rd_T77 l0_1 x3_23).f2)]) x3_23 0 (some 3) 1 z77 rfl rfl rfl g4 g5 rfl rfl rfl) rfl (so rfl (op_alloc (cs := [.int .i64 0, .int .i64 0, .int .i64 0]) (by kernel_rfl) rfl fun b5 => (sv (EV.as rfl) rfl (so rfl (op_st (cs' := [.int .i64 ((rd_T77 l0_1 x3_23).f0), .int .i64 ((rd_T77 l0_1 x3_23).f1), .int .i64 ((rd_T77 l0_1 x3_23).f2)]) 1 rfl rfl rfl rfl rfl rfl (re (gs (rg (sv (EV.fa 3 rfl) rfl (sv (EV.ld 0 none rfl rfl rfl) rfl (sv (EV.mv rfl) rfl ?_))))))))))))
   revert H; refine ggI ?_; intro g6 H
   refine sv (EV.ix 3 rfl rfl rfl g4 g6 rfl) rfl (sv (EV.le (v := .bool (rdOf false l0_3 x3_23)) x3_23 0 none 3 false rfl rfl rfl g4 g6 rfl rfl rfl) rfl (sv (EV.nt rfl) rfl (re (pr [1, 3, 5, 21, 22, 23, 33] [0, 1] [0, 1, 2, 3] rfl rfl rfl rfl ?_))))
   revert H; refine ifsI ?_ ?_ <;> intro c7 H
   ·
    exact gf rfl (bN c7) (gk (ge (rg (sv (EV.add rfl rfl) rfl (sv (EV.mv rfl) rfl (re (wk [1, 3, 21, 22, 23] [0] [⟨0, 2, 1, true⟩, ⟨1, 0, 0, false⟩, ⟨2, 0, 0, false⟩, ⟨3, 0, 0, false⟩] (ih0 _ (by omega) _ ⟨x3_3, Ax3_3, cx3_3, x3_22, wrap64 (x3_23 + 1), x3_1_0, x3_1_4, by omega, H, rfl⟩))))))))
   ·
    refine gt rfl (bM c7) (rg (sv (EV.mv rfl) rfl (sv (EV.ld (v := .agg #[.int .i64 ((rd_T77 l0_1 x3_23).f0), .int .i64 ((rd_T77 l0_1 x3_23).f1), .int .i64 ((rd_T77 l0_1 x3_23).f2)]) 1 (some 3) rfl rfl rfl) rfl (sv (EV.bd (v := .agg #[.int .i64 ((rd_T77 l0_1 x3_23).f0), .int .i64 ((rd_T77 l0_1 x3_23).f1), .int .i64 ((rd_T77 l0_1 x3_23).f2), .int .i64 0, .int .i64 0, .int .i64 0, .bool false]) rfl (by kernel_rfl)) rfl (so rfl (op_lit (s := 7) (by_ := 56) k99 ([(⟨(⟨(rd_T77 l0_1 x3_23).f0, (rd_T77 l0_1 x3_23).f1, (rd_T77 l0_1 x3_23).f2⟩ : S77), (⟨0, 0, 0⟩ : S77), false⟩ : S99)] : List S99) [[]] [] 2 [.tmp 36] rfl rfl rfl rfl rfl rfl rfl rfl rfl rfl rfl rfl rfl dq rfl fun A37_8 c37_8 => ?_))))))
    revert H; refine ggI ?_; intro g9 H
    exact so rfl (op_app (k := k99) (s := 7) (by_ := 56) 0 4 rfl rfl rfl rfl (ap1 g9 dq) (ap1n g9 dq) (.inl rfl) true (fun _ => .inl rfl) rfl rfl fun A38_10 c38_10 => (nmE (en := [.sl 0 k77 Al0_1 cl0_1 l0_1 0 false, .sl 0 k77 Al0_2 cl0_2 l0_2 0 false, .sl 0 .bool Al0_3 cl0_3 l0_3 0 false, .sl 2 k99 A37_8 c37_8 ([(⟨(⟨(rd_T77 l0_1 x3_23).f0, (rd_T77 l0_1 x3_23).f1, (rd_T77 l0_1 x3_23).f2⟩ : S77), (⟨0, 0, 0⟩ : S77), false⟩ : S99)] : List S99) 2 true, .sl 2 k99 A38_10 c38_10 (x3_3 ++ ([(⟨(⟨(rd_T77 l0_1 x3_23).f0, (rd_T77 l0_1 x3_23).f1, (rd_T77 l0_1 x3_23).f2⟩ : S77), (⟨0, 0, 0⟩ : S77), false⟩ : S99)] : List S99)) 1 true]) (by kernel_rfl) (sv (EV.as rfl) rfl (re (pr [1, 3, 21, 22, 23] [0] [0, 1, 2, 4] rfl rfl rfl rfl (ge (rg (sv (EV.add rfl rfl) rfl (sv (EV.mv rfl) rfl (re (wk [1, 3, 21, 22, 23] [0] [⟨3, 2, 1, true⟩, ⟨0, 0, 0, false⟩, ⟨1, 0, 0, false⟩, ⟨2, 0, 0, false⟩] (ih0 _ (by omega) _ ⟨x3_3 ++ ([(⟨(⟨(rd_T77 l0_1 x3_23).f0, (rd_T77 l0_1 x3_23).f1, (rd_T77 l0_1 x3_23).f2⟩ : S77), (⟨0, 0, 0⟩ : S77), false⟩ : S99)] : List S99), A38_10, c38_10, x3_22, wrap64 (x3_23 + 1), x3_1_0, x3_1_4, by omega, H, rfl⟩))))))))))))
  ·
   refine gf rfl (dF c3) (gx rfl (gs (rg (sv (EV.mv rfl) rfl (sv (EV.as rfl) rfl (re (pr [2] [] [0] rfl rfl rfl rfl ?_)))))))
   cases H
   exact rt Try.func73 rfl (.tmp rfl .nil) rfl [] [⟨0, 2, 1, true⟩] rfl rfl rfl rfl rfl ⟨_, _, rfl, rfl, rfl⟩
 ·
  refine gs (rg (sv (EV.ld (v := .agg #[.int .i64 a0_0, .slice Al0_1 l0_1.length cl0_1, .slice Al0_2 l0_2.length cl0_2, .slice Al0_3 l0_3.length cl0_3, .int .i64 a0_4]) 0 (some 5) rfl rfl rfl) rfl ?_))
  revert H; refine bdI ?_; rintro t11 A11 H
  refine so rfl (op_call (impl_IsValidTask.ok k a0_0 l0_1 Al0_1 cl0_1 l0_2 Al0_2 cl0_2 l0_3 Al0_3 cl0_3 a0_4 _ A11) [⟨0, 0, 0, false⟩, ⟨1, 0, 0, false⟩, ⟨2, 0, 0, false⟩] 1 rfl rfl rfl rfl rfl ?_)
  rintro _ _ _ ⟨rfl, rfl, rfl⟩
  refine sv (EV.nt rfl) rfl (sv (EV.mv rfl) rfl ?_)
  revert H; refine ifsI ?_ ?_ <;> intro c12 H
  ·
   subst c12
   refine ts 9 rfl rfl (sv (EV.fa 0 rfl) rfl (sv (EV.ld 0 none rfl rfl rfl) rfl (sv (EV.neq rfl rfl) rfl (sv (EV.mv rfl) rfl ?_))))
   revert H; refine ifsI ?_ ?_ <;> intro c13 H
   ·
    exact ts 13 rfl (nF c13) (sk rfl (sk rfl (sk rfl (sv (EV.pf rfl rfl rfl) rfl (sv (EV.pf rfl rfl rfl) rfl (re (pr [1, 18] [0] [0, 1, 2] rfl rfl rfl rfl (gf rfl rfl (gk (wk [1] [0] [⟨0, 0, 0, false⟩, ⟨1, 0, 0, false⟩, ⟨2, 0, 0, false⟩] (jh0 _ ⟨_, a0_0, a0_4, H, rfl⟩)))))))))))
   ·
    refine ts 13 rfl (nT c13) (sv (EV.fa 0 rfl) rfl (sv (EV.ld 0 none rfl rfl rfl) rfl (sv (EV.neq rfl rfl) rfl (sv (EV.pt rfl rfl rfl) rfl (sv (EV.pf rfl rfl rfl) rfl (re (pr [1, 18] [0] [0, 1, 2] rfl rfl rfl rfl ?_)))))))
    revert H; refine ifsI ?_ ?_ <;> intro c14 H
    ·
     exact gf rfl (nF c14) (gk (wk [1] [0] [⟨0, 0, 0, false⟩, ⟨1, 0, 0, false⟩, ⟨2, 0, 0, false⟩] (jh0 _ ⟨_, a0_0, a0_4, H, rfl⟩)))
    ·
     refine gt rfl (nT c14) (gs (rg (sv (EV.as rfl) rfl (re (nil_ k99 1 dq ?_)))))
     cases H
     exact rt Try.func73 rfl (.tmp rfl .nil) rfl [] [⟨3, 2, 1, true⟩] rfl rfl rfl rfl rfl ⟨_, _, rfl, rfl, rfl⟩
  ·
   obtain rfl := bF c12
   refine ts 9 rfl rfl (sk rfl (sk rfl (sk rfl (sk rfl (sk rfl (sk rfl (sk rfl (sk rfl (sv (EV.pt rfl rfl rfl) rfl (re (pr [1, 18] [0] [0, 1, 2] rfl rfl rfl rfl (gt rfl rfl (gs (rg (sv (EV.as rfl) rfl (re (nil_ k99 1 dq ?_)))))))))))))))))
   cases H
   exact rt Try.func73 rfl (.tmp rfl .nil) rfl [] [⟨3, 2, 1, true⟩] rfl rfl rfl rfl rfl ⟨_, _, rfl, rfl, rfl⟩
end Go.Proofs.Ytfcebaplphpajaa.K
namespace Go.Proofs.Ytfcebaplphpajaa.K
open Go Go.RowKit
set_option linter.unusedVariables false
set_option linter.unusedSimpArgs false
def impl_CountMatches.l0 : Nat → Int → Int → Int → Int → Int → Int → (List S77) → Option (Int)
 | 0, _, _, _, _, _, _, _ => none
 | k + 1, x2_5, x2_9, x2_10, x2_2_0, x2_2_1, x2_2_2, l1 => if x2_10 < x2_9 then (if 0 ≤ x2_10 then (if x2_10 < (l1.length : Int) then (if ((rd_T77 l1 x2_10).f0) = x2_2_0 then (impl_CountMatches.l0 k (wrap64 (x2_5 + 1)) x2_9 (wrap64 (x2_10 + 1)) x2_2_0 x2_2_1 x2_2_2 l1) else (impl_CountMatches.l0 k x2_5 x2_9 (wrap64 (x2_10 + 1)) x2_2_0 x2_2_1 x2_2_2 l1)) else none) else none) else (some x2_5)
def impl_CountMatches.f (k : Nat) (a0_0 : Int) (a0_1 : Int) (a0_2 : Int) (l1 : List S77) : Option (Int) := impl_CountMatches.l0 k 0 (l1.length : Int) 0 a0_0 a0_1 a0_2 l1
set_option maxHeartbeats 4000000 in
set_option maxRecDepth 100000 in
theorem impl_CountMatches.ok (k : Nat) (a0_0 : Int) (a0_1 : Int) (a0_2 : Int) (l1 : List S77) (Al1 : Option Addr) (cl1 : Nat) (r0 : Int) (H : impl_CountMatches.f k a0_0 a0_1 a0_2 l1 = some r0) : Fn Try.prog 104 [.agg #[.int .i64 a0_0, .int .i64 a0_1, .int .i64 a0_2], .slice Al1 l1.length cl1] [] [.sl 0 k77 Al1 cl1 l1 0 false] (fun v bx en => v = .int .i64 r0 ∧ bx = [] ∧ en = []) := by
 refine fn_ 23 Try.func104 rfl rfl rfl (fun base T w0 => ?_)
 rw [impl_CountMatches.f] at H
 refine gs (rg (so rfl (op_box (cs := [.int .i64 a0_0, .int .i64 a0_1, .int .i64 a0_2]) rfl rfl rfl fun b2 => (sv (EV.as rfl) rfl (re (gs (rg (sv (EV.as rfl) rfl (re (gs (gs (rg (sv (EV.mv rfl) rfl (sv (EV.ln rfl) rfl (sv (EV.mv rfl) rfl (re (gb ?_)))))))))))))))))
 refine lo (fun kk S => ∃ (x2_5 : Int) (x2_9 : Int) (x2_10 : Int) (x2_2_0 : Int) (x2_2_1 : Int) (x2_2_2 : Int), impl_CountMatches.l0 kk x2_5 x2_9 x2_10 x2_2_0 x2_2_1 x2_2_2 l1 = some r0 ∧ S = ⟨[(2, .pointer (some ⟨b2, 0, none⟩)), (5, .int .i64 x2_5), (8, .slice Al1 l1.length cl1), (9, .int .i64 x2_9), (10, .int .i64 x2_10)], [⟨b2, 77, [.int .i64 x2_2_0, .int .i64 x2_2_1, .int .i64 x2_2_2]⟩], [.sl 0 k77 Al1 cl1 l1 0 false]⟩) (fun S hS => ?_) (fun n0 ih0 S hS => ?_) ⟨0, (l1.length : Int), 0, a0_0, a0_1, a0_2, H, rfl⟩ (fun h => wk [2, 5, 8, 9, 10] [0] [⟨0, 0, 0, false⟩] h)
 · clear H; obtain ⟨_, _, _, _, _, _, H, _⟩ := hS; rw [impl_CountMatches.l0] at H; cases H
 clear H
 obtain ⟨x2_5, x2_9, x2_10, x2_2_0, x2_2_1, x2_2_2, H, rfl⟩ := hS
 rw [impl_CountMatches.l0] at H
 refine gs (rg (sv (EV.lss rfl rfl) rfl (re (gs ?_))))
 revert H; refine ifsI ?_ ?_ <;> intro c1 H
 ·
  refine gt rfl (dT c1) (gk (gs (gb (gs (rg ?_)))))
  revert H; refine ggI ?_; intro g2 H
  revert H; refine ggI ?_; intro g3 H
  refine sv (EV.ix 0 rfl rfl rfl g2 g3 rfl) rfl (sv (EV.le (v := .agg #[.int .i64 ((rd_T77 l1 x2_10).f0), .int .i64 ((rd_T77 l1 x2_10).f1), .int .i64 ((rd_T77 l1 x2_10).f2)]) x2_10 0 (some 3) 0 z77 rfl rfl rfl g2 g3 rfl rfl rfl) rfl (so rfl (op_alloc (cs := [.int .i64 0, .int .i64 0, .int .i64 0]) (by kernel_rfl) rfl fun b7 => (so rfl (op_st (cs' := [.int .i64 ((rd_T77 l1 x2_10).f0), .int .i64 ((rd_T77 l1 x2_10).f1), .int .i64 ((rd_T77 l1 x2_10).f2)]) 1 rfl rfl rfl rfl rfl rfl (re (gs (rg (sv (EV.fa 0 rfl) rfl (sv (EV.ld 1 none rfl rfl rfl) rfl (sv (EV.fa 0 rfl) rfl (sv (EV.ld 0 none rfl rfl rfl) rfl (sv (EV.eql rfl rfl) rfl (re (pr [2, 5, 8, 9, 10, 18] [0] [0] rfl rfl rfl rfl ?_)))))))))))))))
  revert H; refine ifsI ?_ ?_ <;> intro c4 H
  ·
   exact gt rfl (dT c4) (rg (sv (EV.mv rfl) rfl (sv (EV.add rfl rfl) rfl (sv (EV.as rfl) rfl (re (ge (rg (sv (EV.add rfl rfl) rfl (sv (EV.mv rfl) rfl (re (wk [2, 5, 8, 9, 10] [0] [⟨0, 0, 0, false⟩] (ih0 _ (by omega) _ ⟨wrap64 (x2_5 + 1), x2_9, wrap64 (x2_10 + 1), x2_2_0, x2_2_1, x2_2_2, H, rfl⟩))))))))))))
  ·
   exact gf rfl (dF c4) (gk (ge (rg (sv (EV.add rfl rfl) rfl (sv (EV.mv rfl) rfl (re (wk [2, 5, 8, 9, 10] [0] [⟨0, 0, 0, false⟩] (ih0 _ (by omega) _ ⟨x2_5, x2_9, wrap64 (x2_10 + 1), x2_2_0, x2_2_1, x2_2_2, H, rfl⟩))))))))
 ·
  refine gf rfl (dF c1) (gx rfl (gs (rg (sv (EV.mv rfl) rfl (sv (EV.as rfl) rfl (re (pr [4] [] [] rfl rfl rfl rfl ?_)))))))
  cases H
  exact rt Try.func104 rfl (.tmp rfl .nil) rfl [] [] rfl rfl rfl rfl rfl ⟨rfl, rfl, rfl⟩
end Go.Proofs.Ytfcebaplphpajaa.K
namespace Go.Proofs.Ytfcebaplphpajaa.K
open Go Go.RowKit
set_option linter.unusedVariables false
set_option linter.unusedSimpArgs false
mutual
def impl_JoinChunk.j0 : Nat → (List S99) → Int → (List S77) → Int → Int → Int → (List S77) → (List S77) → (List Bool) → Int → Int → (List S77) → (List S77) → (List Bool) → Int → (List S77) → Option ((List S99) × Int × (List S77) × (List S77) × (List Bool) × Int)
 | 0, _, _, _, _, _, _, _, _, _, _, _, _, _, _, _, _ => none
 | k + 1, x40_7, x40_8, x40_20, x40_21, x40_22, x40_5_0, x40_5_1, x40_5_2, x40_5_3, x40_5_4, x40_6_0, x40_6_1, x40_6_2, x40_6_3, x40_6_4, l1 => if 0 ≤ x40_8 then (if x40_8 < (x40_6_3.length : Int) then (impl_JoinChunk.l0 k x40_7 x40_20 x40_21 (wrap64 (x40_22 + 1)) x40_5_0 x40_5_1 x40_5_2 x40_5_3 x40_5_4 x40_6_0 x40_6_1 x40_6_2 (x40_6_3.set x40_8.toNat true) x40_6_4 l1) else none) else none
def impl_JoinChunk.l1 : Nat → (List S99) → Int → (List S77) → Int → Int → Int → Int → Int → (List S77) → (List S77) → (List Bool) → Int → Int → (List S77) → (List S77) → (List Bool) → Int → Int → Int → Int → (List S77) → Option ((List S99) × Int × (List S77) × (List S77) × (List Bool) × Int)
 | 0, _, _, _, _, _, _, _, _, _, _, _, _, _, _, _, _, _, _, _, _, _ => none
 | k + 1, x42_7, x42_8, x42_20, x42_21, x42_22, x42_50, x42_51, x42_5_0, x42_5_1, x42_5_2, x42_5_3, x42_5_4, x42_6_0, x42_6_1, x42_6_2, x42_6_3, x42_6_4, x42_9_0, x42_9_1, x42_9_2, l1 => if x42_51 < x42_50 then (if 0 ≤ x42_51 then (if x42_51 < (l1.length : Int) then (if ((rd_T77 l1 x42_51).f0) = x42_9_0 then (if x42_7.length < 2513169434916 then (impl_JoinChunk.l1 k (x42_7 ++ ([(⟨(⟨x42_9_0, x42_9_1, x42_9_2⟩ : S77), (⟨(rd_T77 l1 x42_51).f0, (rd_T77 l1 x42_51).f1, (rd_T77 l1 x42_51).f2⟩ : S77), true⟩ : S99)] : List S99)) x42_8 x42_20 x42_21 x42_22 x42_50 (wrap64 (x42_51 + 1)) x42_5_0 x42_5_1 x42_5_2 x42_5_3 x42_5_4 x42_6_0 x42_6_1 x42_6_2 x42_6_3 x42_6_4 x42_9_0 x42_9_1 x42_9_2 l1) else none) else (impl_JoinChunk.l1 k x42_7 x42_8 x42_20 x42_21 x42_22 x42_50 (wrap64 (x42_51 + 1)) x42_5_0 x42_5_1 x42_5_2 x42_5_3 x42_5_4 x42_6_0 x42_6_1 x42_6_2 x42_6_3 x42_6_4 x42_9_0 x42_9_1 x42_9_2 l1)) else none) else none) else (impl_JoinChunk.j0 k x42_7 x42_8 x42_20 x42_21 x42_22 x42_5_0 x42_5_1 x42_5_2 x42_5_3 x42_5_4 x42_6_0 x42_6_1 x42_6_2 x42_6_3 x42_6_4 l1)
def impl_JoinChunk.j1 : Nat → (List S99) → Int → (List S77) → Int → Int → Bool → Int → (List S77) → (List S77) → (List Bool) → Int → Int → (List S77) → (List S77) → (List Bool) → Int → Int → Int → Int → (List S77) → Option ((List S99) × Int × (List S77) × (List S77) × (List Bool) × Int)
 | 0, _, _, _, _, _, _, _, _, _, _, _, _, _, _, _, _, _, _, _, _ => none
 | k + 1, x41_7, x41_8, x41_20, x41_21, x41_22, x41_46, x41_5_0, x41_5_1, x41_5_2, x41_5_3, x41_5_4, x41_6_0, x41_6_1, x41_6_2, x41_6_3, x41_6_4, x41_9_0, x41_9_1, x41_9_2, l1 => if x41_46 = true then (impl_JoinChunk.l1 k x41_7 x41_8 x41_20 x41_21 x41_22 (l1.length : Int) 0 x41_5_0 x41_5_1 x41_5_2 x41_5_3 x41_5_4 x41_6_0 x41_6_1 x41_6_2 x41_6_3 x41_6_4 x41_9_0 x41_9_1 x41_9_2 l1) else (impl_JoinChunk.j0 k x41_7 x41_8 x41_20 x41_21 x41_22 x41_5_0 x41_5_1 x41_5_2 x41_5_3 x41_5_4 x41_6_0 x41_6_1 x41_6_2 x41_6_3 x41_6_4 l1)
def impl_JoinChunk.l0 : Nat → (List S99) → (List S77) → Int → Int → Int → (List S77) → (List S77) → (List Bool) → Int → Int → (List S77) → (List S77) → (List Bool) → Int → (List S77) → Option ((List S99) × Int × (List S77) × (List S77) × (List Bool) × Int)
 | 0, _, _, _, _, _, _, _, _, _, _, _, _, _, _, _ => none
 | k + 1, x22_7, x22_20, x22_21, x22_22, x22_5_0, x22_5_1, x22_5_2, x22_5_3, x22_5_4, x22_6_0, x22_6_1, x22_6_2, x22_6_3, x22_6_4, l1 => if x22_22 < x22_21 then (if 0 ≤ x22_22 then (if x22_22 < (x22_20.length : Int) then ((impl_CountMatches.f k ((rd_T77 x22_20 x22_22).f0) ((rd_T77 x22_20 x22_22).f1) ((rd_T77 x22_20 x22_22).f2) l1).bind fun t8 => (if t8 = 0 then (impl_JoinChunk.l0 k x22_7 x22_20 x22_21 (wrap64 (x22_22 + 1)) x22_5_0 x22_5_1 x22_5_2 x22_5_3 x22_5_4 x22_6_0 x22_6_1 x22_6_2 x22_6_3 x22_6_4 l1) else (if x22_6_0 = 2 then (if x22_22 < (x22_6_3.length : Int) then (if (rdOf false x22_6_3 x22_22) = true then (impl_JoinChunk.j0 k x22_7 x22_22 x22_20 x22_21 x22_22 x22_5_0 x22_5_1 x22_5_2 x22_5_3 x22_5_4 x22_6_0 x22_6_1 x22_6_2 x22_6_3 x22_6_4 l1) else (if x22_7.length < 2513169434916 then (impl_JoinChunk.j0 k (x22_7 ++ ([(⟨(⟨(rd_T77 x22_20 x22_22).f0, (rd_T77 x22_20 x22_22).f1, (rd_T77 x22_20 x22_22).f2⟩ : S77), (⟨0, 0, 0⟩ : S77), false⟩ : S99)] : List S99)) x22_22 x22_20 x22_21 x22_22 x22_5_0 x22_5_1 x22_5_2 x22_5_3 x22_5_4 x22_6_0 x22_6_1 x22_6_2 x22_6_3 x22_6_4 l1) else none)) else none) else (if x22_6_0 = 1 then (impl_JoinChunk.j1 k x22_7 x22_22 x22_20 x22_21 x22_22 (decide (x22_6_0 = 1)) x22_5_0 x22_5_1 x22_5_2 x22_5_3 x22_5_4 x22_6_0 x22_6_1 x22_6_2 x22_6_3 x22_6_4 ((rd_T77 x22_20 x22_22).f0) ((rd_T77 x22_20 x22_22).f1) ((rd_T77 x22_20 x22_22).f2) l1) else (impl_JoinChunk.j1 k x22_7 x22_22 x22_20 x22_21 x22_22 (decide (x22_6_0 = 4)) x22_5_0 x22_5_1 x22_5_2 x22_5_3 x22_5_4 x22_6_0 x22_6_1 x22_6_2 x22_6_3 x22_6_4 ((rd_T77 x22_20 x22_22).f0) ((rd_T77 x22_20 x22_22).f1) ((rd_T77 x22_20 x22_22).f2) l1))))) else none) else none) else (some (x22_7, x22_6_0, x22_6_1, x22_6_2, x22_6_3, x22_6_4))
end
def impl_JoinChunk.f (k : Nat) (a0_0 : Int) (l0_1 : List S77) (l0_2 : List S77) (l0_3 : List Bool) (a0_4 : Int) (l1 : List S77) : Option ((List S99) × Int × (List S77) × (List S77) × (List Bool) × Int) := (impl_cloneTask.f a0_0 l0_1 l0_2 l0_3 a0_4).bind fun bt1 => ((impl_IsValidTask.f k a0_0 l0_1 l0_2 l0_3 a0_4).bind fun t2 => (if t2 = true then (impl_JoinChunk.l0 k [] bt1.2.1 (bt1.2.1.length : Int) 0 0 [] [] [] 0 bt1.1 bt1.2.1 bt1.2.2.1 bt1.2.2.2.1 bt1.2.2.2.2 l1) else (some ([], bt1.1, bt1.2.1, bt1.2.2.1, bt1.2.2.2.1, bt1.2.2.2.2))))
set_option maxHeartbeats 4000000 in
set_option maxRecDepth 100000 in
theorem impl_JoinChunk.ok (k : Nat) (a0_0 : Int) (l0_1 : List S77) (Al0_1 : Option Addr) (cl0_1 : Nat) (l0_2 : List S77) (Al0_2 : Option Addr) (cl0_2 : Nat) (l0_3 : List Bool) (Al0_3 : Option Addr) (cl0_3 : Nat) (a0_4 : Int) (l1 : List S77) (Al1 : Option Addr) (cl1 : Nat) (r0 : List S99) (r1 : Int) (r2 : List S77) (r3 : List S77) (r4 : List Bool) (r5 : Int) (H : impl_JoinChunk.f k a0_0 l0_1 l0_2 l0_3 a0_4 l1 = some (r0, r1, r2, r3, r4, r5)) : Fn Try.prog 74 [.agg #[.int .i64 a0_0, .slice Al0_1 l0_1.length cl0_1, .slice Al0_2 l0_2.length cl0_2, .slice Al0_3 l0_3.length cl0_3, .int .i64 a0_4], .slice Al1 l1.length cl1] [] [.sl 0 k77 Al0_1 cl0_1 l0_1 0 false, .sl 0 k77 Al0_2 cl0_2 l0_2 0 false, .sl 0 .bool Al0_3 cl0_3 l0_3 0 false, .sl 0 k77 Al1 cl1 l1 0 false] (fun v bx en => ∃ A0 c0 A2 c2 A3 c3 A4 c4, v = .tuple #[.slice A0 r0.length c0, .agg #[.int .i64 r1, .slice A2 r2.length c2, .slice A3 r3.length c3, .slice A4 r4.length c4, .int .i64 r5]] ∧ bx = [] ∧ en = [.sl 2 k99 A0 c0 r0 1 true, .sl 2 k77 A2 c2 r2 2 true, .sl 2 k77 A3 c3 r3 3 true, .sl 2 .bool A4 c4 r4 4 true]) := by
 refine fn_ 74 Try.func74 rfl rfl rfl (fun base T w0 => ?_)
 rw [impl_JoinChunk.f] at H
 refine gs (rg (so rfl (op_box (cs := [.int .i64 a0_0, .slice Al0_1 l0_1.length cl0_1, .slice Al0_2 l0_2.length cl0_2, .slice Al0_3 l0_3.length cl0_3, .int .i64 a0_4]) rfl rfl rfl fun b2 => (sv (EV.as rfl) rfl (so rfl (op_alloc (cs := [.int .i64 0, .slice none 0 0, .slice none 0 0, .slice none 0 0, .int .i64 0]) (by kernel_rfl) rfl fun b5 => (re (gs (rg (sv (EV.ld (v := .agg #[.int .i64 a0_0, .slice Al0_1 l0_1.length cl0_1, .slice Al0_2 l0_2.length cl0_2, .slice Al0_3 l0_3.length cl0_3, .int .i64 a0_4]) 0 (some 5) rfl rfl rfl) rfl ?_))))))))))
 revert H; refine bdI ?_; rintro ⟨t1_0, t1_1, t1_2, t1_3, t1_4⟩ A1 H
 refine so rfl (op_call (impl_cloneTask.ok a0_0 l0_1 Al0_1 cl0_1 l0_2 Al0_2 cl0_2 l0_3 Al0_3 cl0_3 a0_4 _ _ _ _ _ A1) [⟨0, 0, 0, false⟩, ⟨1, 0, 0, false⟩, ⟨2, 0, 0, false⟩] 1 rfl rfl rfl rfl rfl ?_)
 rintro _ _ _ ⟨At1_1, ct1_1, At1_2, ct1_2, At1_3, ct1_3, rfl, rfl, rfl⟩
 refine so rfl (op_alloc (cs := [.int .i64 0, .slice none 0 0, .slice none 0 0, .slice none 0 0, .int .i64 0]) (by kernel_rfl) rfl fun b6 => (so rfl (op_st (cs' := [.int .i64 t1_0, .slice At1_1 t1_1.length ct1_1, .slice At1_2 t1_2.length ct1_2, .slice At1_3 t1_3.length ct1_3, .int .i64 t1_4]) 2 rfl rfl rfl rfl rfl rfl (re (gs (gs (rg (sv (EV.ld (v := .agg #[.int .i64 a0_0, .slice Al0_1 l0_1.length cl0_1, .slice Al0_2 l0_2.length cl0_2, .slice Al0_3 l0_3.length cl0_3, .int .i64 a0_4]) 0 (some 5) rfl rfl rfl) rfl ?_))))))))
 revert H; refine bdI ?_; rintro t2 A2 H
 refine so rfl (op_call (impl_IsValidTask.ok k a0_0 l0_1 Al0_1 cl0_1 l0_2 Al0_2 cl0_2 l0_3 Al0_3 cl0_3 a0_4 _ A2) [⟨0, 0, 0, false⟩, ⟨1, 0, 0, false⟩, ⟨2, 0, 0, false⟩] 5 rfl rfl rfl rfl rfl ?_)
 rintro _ _ _ ⟨rfl, rfl, rfl⟩
 refine sv (EV.nt rfl) rfl (re (pr [1, 5, 6, 16] [1, 2] [3, 4, 5, 6] rfl rfl rfl rfl ?_))
 revert H; refine ifsI ?_ ?_ <;> intro c3 H
 ·
  subst c3
  refine gf rfl rfl (gk (gs (rg (so rfl (op_lit (s := 7) (by_ := 56) k99 ([] : List S99) [] [] 5 [] rfl rfl rfl rfl rfl rfl rfl rfl rfl rfl rfl rfl rfl dq rfl fun A18_4 c18_4 => (sv (EV.as rfl) rfl (re (gs (gs (rg (sv (EV.fa 1 rfl) rfl (sv (EV.ld 1 none rfl rfl rfl) rfl (sv (EV.ln rfl) rfl (sv (EV.mv rfl) rfl (re (gb (nil_ k77 6 dq (nil_ k77 7 dq (nil_ .bool 8 dq ?_)))))))))))))))))))
  refine lo (fun kk S => ∃ (x22_7 : List S99) (Ax22_7 : Option Addr) (cx22_7 : Nat) (x22_20 : List S77) (Ax22_20 : Option Addr) (cx22_20 : Nat) (x22_21 : Int) (x22_22 : Int) (x22_5_0 : Int) (x22_5_1 : List S77) (Ax22_5_1 : Option Addr) (cx22_5_1 : Nat) (x22_5_2 : List S77) (Ax22_5_2 : Option Addr) (cx22_5_2 : Nat) (x22_5_3 : List Bool) (Ax22_5_3 : Option Addr) (cx22_5_3 : Nat) (x22_5_4 : Int) (x22_6_0 : Int) (x22_6_1 : List S77) (Ax22_6_1 : Option Addr) (cx22_6_1 : Nat) (x22_6_2 : List S77) (Ax22_6_2 : Option Addr) (cx22_6_2 : Nat) (x22_6_3 : List Bool) (Ax22_6_3 : Option Addr) (cx22_6_3 : Nat) (x22_6_4 : Int), impl_JoinChunk.l0 kk x22_7 x22_20 x22_21 x22_22 x22_5_0 x22_5_1 x22_5_2 x22_5_3 x22_5_4 x22_6_0 x22_6_1 x22_6_2 x22_6_3 x22_6_4 l1 = some (r0, r1, r2, r3, r4, r5) ∧ S = ⟨[(1, .slice Al1 l1.length cl1), (5, .pointer (some ⟨b5, 0, none⟩)), (6, .pointer (some ⟨b6, 0, none⟩)), (7, .slice Ax22_7 x22_7.length cx22_7), (20, .slice Ax22_20 x22_20.length cx22_20), (21, .int .i64 x22_21), (22, .int .i64 x22_22)], [⟨b5, 68, [.int .i64 x22_5_0, .slice Ax22_5_1 x22_5_1.length cx22_5_1, .slice Ax22_5_2 x22_5_2.length cx22_5_2, .slice Ax22_5_3 x22_5_3.length cx22_5_3, .int .i64 x22_5_4]⟩, ⟨b6, 68, [.int .i64 x22_6_0, .slice Ax22_6_1 x22_6_1.length cx22_6_1, .slice Ax22_6_2 x22_6_2.length cx22_6_2, .slice Ax22_6_3 x22_6_3.length cx22_6_3, .int .i64 x22_6_4]⟩], [.sl 2 k99 Ax22_7 cx22_7 x22_7 1 true, .sl 2 k77 Ax22_20 cx22_20 x22_20 2 true, .sl 2 k77 Ax22_5_1 cx22_5_1 x22_5_1 3 true, .sl 2 k77 Ax22_5_2 cx22_5_2 x22_5_2 4 true, .sl 2 .bool Ax22_5_3 cx22_5_3 x22_5_3 5 true, .sl 2 k77 Ax22_6_1 cx22_6_1 x22_6_1 2 true, .sl 2 k77 Ax22_6_2 cx22_6_2 x22_6_2 6 true, .sl 2 .bool Ax22_6_3 cx22_6_3 x22_6_3 7 true, .sl 0 k77 Al1 cl1 l1 0 false]⟩) (fun S hS => ?_) (fun n0 ih0 S hS => ?_) ⟨[], A18_4, c18_4, t1_1, At1_1, ct1_1, (t1_1.length : Int), 0, 0, [], none, 0, [], none, 0, [], none, 0, 0, t1_0, t1_1, At1_1, ct1_1, t1_2, At1_2, ct1_2, t1_3, At1_3, ct1_3, t1_4, H, rfl⟩ (fun h => wk [1, 5, 6, 7, 20, 21, 22] [0, 1] [⟨4, 2, 1, true⟩, ⟨1, 2, 2, true⟩, ⟨5, 2, 3, true⟩, ⟨6, 2, 4, true⟩, ⟨7, 2, 5, true⟩, ⟨1, 2, 2, true⟩, ⟨2, 2, 6, true⟩, ⟨3, 2, 7, true⟩, ⟨0, 0, 0, false⟩] h)
  · clear H; obtain ⟨_, _, _, _, _, _, _, _, _, _, _, _, _, _, _, _, _, _, _, _, _, _, _, _, _, _, _, _, _, _, H, _⟩ := hS; rw [impl_JoinChunk.l0] at H; cases H
  clear H
  obtain ⟨x22_7, Ax22_7, cx22_7, x22_20, Ax22_20, cx22_20, x22_21, x22_22, x22_5_0, x22_5_1, Ax22_5_1, cx22_5_1, x22_5_2, Ax22_5_2, cx22_5_2, x22_5_3, Ax22_5_3, cx22_5_3, x22_5_4, x22_6_0, x22_6_1, Ax22_6_1, cx22_6_1, x22_6_2, Ax22_6_2, cx22_6_2, x22_6_3, Ax22_6_3, cx22_6_3, x22_6_4, H, rfl⟩ := hS
  rw [impl_JoinChunk.l0] at H
  refine gs (rg (sv (EV.lss rfl rfl) rfl (re (gs ?_))))
  revert H; refine ifsI ?_ ?_ <;> intro c5 H
  ·
   refine gt rfl (dT c5) (gk (gs (gb (gs (rg (sv (EV.mv rfl) rfl ?_))))))
   revert H; refine ggI ?_; intro g6 H
   revert H; refine ggI ?_; intro g7 H
   refine sv (EV.ix 1 rfl rfl rfl g6 g7 rfl) rfl (sv (EV.le (v := .agg #[.int .i64 ((rd_T77 x22_20 x22_22).f0), .int .i64 ((rd_T77 x22_20 x22_22).f1), .int .i64 ((rd_T77 x22_20 x22_22).f2)]) x22_22 0 (some 3) 1 z77 rfl rfl rfl g6 g7 rfl rfl rfl) rfl (so rfl (op_alloc (cs := [.int .i64 0, .int .i64 0, .int .i64 0]) (by kernel_rfl) rfl fun b9 => (sv (EV.as rfl) rfl (so rfl (op_st (cs' := [.int .i64 ((rd_T77 x22_20 x22_22).f0), .int .i64 ((rd_T77 x22_20 x22_22).f1), .int .i64 ((rd_T77 x22_20 x22_22).f2)]) 2 rfl rfl rfl rfl rfl rfl (re (gs (gs (rg (sv (EV.ld (v := .agg #[.int .i64 ((rd_T77 x22_20 x22_22).f0), .int .i64 ((rd_T77 x22_20 x22_22).f1), .int .i64 ((rd_T77 x22_20 x22_22).f2)]) 2 (some 3) rfl rfl rfl) rfl (sv (EV.mv rfl) rfl ?_))))))))))))
   revert H; refine bdI ?_; rintro t8 A8 H
   refine so rfl (op_call (impl_CountMatches.ok n0 ((rd_T77 x22_20 x22_22).f0) ((rd_T77 x22_20 x22_22).f1) ((rd_T77 x22_20 x22_22).f2) l1 Al1 cl1 _ A8) [⟨8, 0, 0, false⟩] 8 rfl rfl rfl rfl rfl ?_)
   rintro _ _ _ ⟨rfl, rfl, rfl⟩
   refine sv (EV.eql rfl rfl) rfl (re (pr [1, 5, 6, 7, 8, 9, 20, 21, 22, 30] [0, 1, 2] [0, 1, 2, 3, 4, 5, 6, 7, 8] rfl rfl rfl rfl ?_))
   revert H; refine ifsI ?_ ?_ <;> intro c9 H
   ·
    exact gt rfl (dT c9) (gx rfl (rg (sv (EV.add rfl rfl) rfl (sv (EV.mv rfl) rfl (re (wk [1, 5, 6, 7, 20, 21, 22] [0, 1] [⟨0, 2, 1, true⟩, ⟨1, 2, 2, true⟩, ⟨2, 2, 3, true⟩, ⟨3, 2, 4, true⟩, ⟨4, 2, 5, true⟩, ⟨5, 2, 2, true⟩, ⟨6, 2, 6, true⟩, ⟨7, 2, 7, true⟩, ⟨8, 0, 0, false⟩] (ih0 _ (by omega) _ ⟨x22_7, Ax22_7, cx22_7, x22_20, Ax22_20, cx22_20, x22_21, wrap64 (x22_22 + 1), x22_5_0, x22_5_1, Ax22_5_1, cx22_5_1, x22_5_2, Ax22_5_2, cx22_5_2, x22_5_3, Ax22_5_3, cx22_5_3, x22_5_4, x22_6_0, x22_6_1, Ax22_6_1, cx22_6_1, x22_6_2, Ax22_6_2, cx22_6_2, x22_6_3, Ax22_6_3, cx22_6_3, x22_6_4, H, rfl⟩)))))))
   ·
    refine gf rfl (dF c9) (gk ?_)
    refine jo (fun S => ∃ (m : Nat) (x40_7 : List S99) (Ax40_7 : Option Addr) (cx40_7 : Nat) (x40_8 : Int) (x40_20 : List S77) (Ax40_20 : Option Addr) (cx40_20 : Nat) (x40_21 : Int) (x40_22 : Int) (x40_5_0 : Int) (x40_5_1 : List S77) (Ax40_5_1 : Option Addr) (cx40_5_1 : Nat) (x40_5_2 : List S77) (Ax40_5_2 : Option Addr) (cx40_5_2 : Nat) (x40_5_3 : List Bool) (Ax40_5_3 : Option Addr) (cx40_5_3 : Nat) (x40_5_4 : Int) (x40_6_0 : Int) (x40_6_1 : List S77) (Ax40_6_1 : Option Addr) (cx40_6_1 : Nat) (x40_6_2 : List S77) (Ax40_6_2 : Option Addr) (cx40_6_2 : Nat) (x40_6_3 : List Bool) (Ax40_6_3 : Option Addr) (cx40_6_3 : Nat) (x40_6_4 : Int), m ≤ n0 ∧ impl_JoinChunk.j0 m x40_7 x40_8 x40_20 x40_21 x40_22 x40_5_0 x40_5_1 x40_5_2 x40_5_3 x40_5_4 x40_6_0 x40_6_1 x40_6_2 x40_6_3 x40_6_4 l1 = some (r0, r1, r2, r3, r4, r5) ∧ S = ⟨[(1, .slice Al1 l1.length cl1), (5, .pointer (some ⟨b5, 0, none⟩)), (6, .pointer (some ⟨b6, 0, none⟩)), (7, .slice Ax40_7 x40_7.length cx40_7), (8, .int .i64 x40_8), (20, .slice Ax40_20 x40_20.length cx40_20), (21, .int .i64 x40_21), (22, .int .i64 x40_22)], [⟨b5, 68, [.int .i64 x40_5_0, .slice Ax40_5_1 x40_5_1.length cx40_5_1, .slice Ax40_5_2 x40_5_2.length cx40_5_2, .slice Ax40_5_3 x40_5_3.length cx40_5_3, .int .i64 x40_5_4]⟩, ⟨b6, 68, [.int .i64 x40_6_0, .slice Ax40_6_1 x40_6_1.length cx40_6_1, .slice Ax40_6_2 x40_6_2.length cx40_6_2, .slice Ax40_6_3 x40_6_3.length cx40_6_3, .int .i64 x40_6_4]⟩], [.sl 2 k99 Ax40_7 cx40_7 x40_7 1 true, .sl 2 k77 Ax40_20 cx40_20 x40_20 2 true, .sl 2 k77 Ax40_5_1 cx40_5_1 x40_5_1 3 true, .sl 2 k77 Ax40_5_2 cx40_5_2 x40_5_2 4 true, .sl 2 .bool Ax40_5_3 cx40_5_3 x40_5_3 5 true, .sl 2 k77 Ax40_6_1 cx40_6_1 x40_6_1 2 true, .sl 2 k77 Ax40_6_2 cx40_6_2 x40_6_2 6 true, .sl 2 .bool Ax40_6_3 cx40_6_3 x40_6_3 7 true, .sl 0 k77 Al1 cl1 l1 0 false]⟩) (fun S hS => ?_) (fun jh0 => ?_)
    ·
     clear H
     obtain ⟨m10, x40_7, Ax40_7, cx40_7, x40_8, x40_20, Ax40_20, cx40_20, x40_21, x40_22, x40_5_0, x40_5_1, Ax40_5_1, cx40_5_1, x40_5_2, Ax40_5_2, cx40_5_2, x40_5_3, Ax40_5_3, cx40_5_3, x40_5_4, x40_6_0, x40_6_1, Ax40_6_1, cx40_6_1, x40_6_2, Ax40_6_2, cx40_6_2, x40_6_3, Ax40_6_3, cx40_6_3, x40_6_4, lm10, H, rfl⟩ := hS
     rcases m10 with _ | m10
     · rw [impl_JoinChunk.j0] at H; cases H
     rw [impl_JoinChunk.j0] at H
     refine rg (sv (EV.fa 3 rfl) rfl (sv (EV.ld 1 none rfl rfl rfl) rfl (sv (EV.mv rfl) rfl ?_)))
     revert H; refine ggI ?_; intro g11 H
     revert H; refine ggI ?_; intro g12 H
     exact sv (EV.ix 7 rfl rfl rfl g11 g12 rfl) rfl (so rfl (op_stf x40_8 0 7 false true rfl rfl rfl rfl g11 g12 rfl rfl rfl rfl dq rfl (rlT 68 (v' := .slice Ax40_6_3 (x40_6_3.set x40_8.toNat true).length cx40_6_3) rfl (sle _ _ _ _ _) (rlB 1 (cs' := [.int .i64 x40_6_0, .slice Ax40_6_1 x40_6_1.length cx40_6_1, .slice Ax40_6_2 x40_6_2.length cx40_6_2, .slice Ax40_6_3 (x40_6_3.set x40_8.toNat true).length cx40_6_3, .int .i64 x40_6_4]) rfl (by simp only [List.length_set]) (nmE (en := [.sl 2 k99 Ax40_7 cx40_7 x40_7 1 true, .sl 2 k77 Ax40_20 cx40_20 x40_20 2 true, .sl 2 k77 Ax40_5_1 cx40_5_1 x40_5_1 3 true, .sl 2 k77 Ax40_5_2 cx40_5_2 x40_5_2 4 true, .sl 2 .bool Ax40_5_3 cx40_5_3 x40_5_3 5 true, .sl 2 k77 Ax40_6_1 cx40_6_1 x40_6_1 2 true, .sl 2 k77 Ax40_6_2 cx40_6_2 x40_6_2 6 true, .sl 0 k77 Al1 cl1 l1 0 false, .sl 2 .bool Ax40_6_3 cx40_6_3 (x40_6_3.set x40_8.toNat true) 7 true]) (by kernel_rfl) (re (ge (rg (sv (EV.add rfl rfl) rfl (sv (EV.mv rfl) rfl (re (wk [1, 5, 6, 7, 20, 21, 22] [0, 1] [⟨0, 2, 1, true⟩, ⟨1, 2, 2, true⟩, ⟨2, 2, 3, true⟩, ⟨3, 2, 4, true⟩, ⟨4, 2, 5, true⟩, ⟨5, 2, 2, true⟩, ⟨6, 2, 6, true⟩, ⟨8, 2, 7, true⟩, ⟨7, 0, 0, false⟩] (ih0 _ (by omega) _ ⟨x40_7, Ax40_7, cx40_7, x40_20, Ax40_20, cx40_20, x40_21, wrap64 (x40_22 + 1), x40_5_0, x40_5_1, Ax40_5_1, cx40_5_1, x40_5_2, Ax40_5_2, cx40_5_2, x40_5_3, Ax40_5_3, cx40_5_3, x40_5_4, x40_6_0, x40_6_1, Ax40_6_1, cx40_6_1, x40_6_2, Ax40_6_2, cx40_6_2, x40_6_3.set x40_8.toNat true, Ax40_6_3, cx40_6_3, x40_6_4, H, rfl⟩)))))))))))))
    ·
     refine gs (rg (sv (EV.fa 0 rfl) rfl (sv (EV.ld 1 none rfl rfl rfl) rfl (re (gb (gs (rg (sv (EV.eql rfl rfl) rfl (sv (EV.as rfl) rfl (re ?_))))))))))
     revert H; refine ifsI ?_ ?_ <;> intro c13 H
     ·
      refine gt rfl (dT c13) (gs (rg (sv (EV.fa 3 rfl) rfl (sv (EV.ld 1 none rfl rfl rfl) rfl (sv (EV.mv rfl) rfl ?_)))))
      revert H; refine ggI ?_; intro g14 H
      refine sv (EV.ix 7 rfl rfl rfl g6 g14 rfl) rfl (sv (EV.le (v := .bool (rdOf false x22_6_3 x22_22)) x22_22 0 none 7 false rfl rfl rfl g6 g14 rfl rfl rfl) rfl (sv (EV.nt rfl) rfl (re (pr [1, 5, 6, 7, 8, 9, 20, 21, 22, 40] [0, 1, 2] [0, 1, 2, 3, 4, 5, 6, 7, 8] rfl rfl rfl rfl ?_))))
      revert H; refine ifsI ?_ ?_ <;> intro c15 H
      ·
       exact gf rfl (bN c15) (gk (ge (wk [1, 5, 6, 7, 8, 20, 21, 22] [0, 1] [⟨0, 2, 1, true⟩, ⟨1, 2, 2, true⟩, ⟨2, 2, 3, true⟩, ⟨3, 2, 4, true⟩, ⟨4, 2, 5, true⟩, ⟨5, 2, 2, true⟩, ⟨6, 2, 6, true⟩, ⟨7, 2, 7, true⟩, ⟨8, 0, 0, false⟩] (jh0 _ ⟨_, x22_7, Ax22_7, cx22_7, x22_22, x22_20, Ax22_20, cx22_20, x22_21, x22_22, x22_5_0, x22_5_1, Ax22_5_1, cx22_5_1, x22_5_2, Ax22_5_2, cx22_5_2, x22_5_3, Ax22_5_3, cx22_5_3, x22_5_4, x22_6_0, x22_6_1, Ax22_6_1, cx22_6_1, x22_6_2, Ax22_6_2, cx22_6_2, x22_6_3, Ax22_6_3, cx22_6_3, x22_6_4, by omega, H, rfl⟩))))
      ·
       refine gt rfl (bM c15) (rg (sv (EV.mv rfl) rfl (sv (EV.ld (v := .agg #[.int .i64 ((rd_T77 x22_20 x22_22).f0), .int .i64 ((rd_T77 x22_20 x22_22).f1), .int .i64 ((rd_T77 x22_20 x22_22).f2)]) 2 (some 3) rfl rfl rfl) rfl (sv (EV.bd (v := .agg #[.int .i64 ((rd_T77 x22_20 x22_22).f0), .int .i64 ((rd_T77 x22_20 x22_22).f1), .int .i64 ((rd_T77 x22_20 x22_22).f2), .int .i64 0, .int .i64 0, .int .i64 0, .bool false]) rfl (by kernel_rfl)) rfl (so rfl (op_lit (s := 7) (by_ := 56) k99 ([(⟨(⟨(rd_T77 x22_20 x22_22).f0, (rd_T77 x22_20 x22_22).f1, (rd_T77 x22_20 x22_22).f2⟩ : S77), (⟨0, 0, 0⟩ : S77), false⟩ : S99)] : List S99) [[]] [] 8 [.tmp 43] rfl rfl rfl rfl rfl rfl rfl rfl rfl rfl rfl rfl rfl dq rfl fun A44_16 c44_16 => ?_))))))
       revert H; refine ggI ?_; intro g17 H
       exact so rfl (op_app (k := k99) (s := 7) (by_ := 56) 0 9 rfl rfl rfl rfl (ap1 g17 dq) (ap1n g17 dq) (.inl rfl) true (fun _ => .inl rfl) rfl rfl fun A45_18 c45_18 => (nmE (en := [.sl 2 k77 Ax22_20 cx22_20 x22_20 2 true, .sl 2 k77 Ax22_5_1 cx22_5_1 x22_5_1 3 true, .sl 2 k77 Ax22_5_2 cx22_5_2 x22_5_2 4 true, .sl 2 .bool Ax22_5_3 cx22_5_3 x22_5_3 5 true, .sl 2 k77 Ax22_6_1 cx22_6_1 x22_6_1 2 true, .sl 2 k77 Ax22_6_2 cx22_6_2 x22_6_2 6 true, .sl 2 .bool Ax22_6_3 cx22_6_3 x22_6_3 7 true, .sl 0 k77 Al1 cl1 l1 0 false, .sl 2 k99 A44_16 c44_16 ([(⟨(⟨(rd_T77 x22_20 x22_22).f0, (rd_T77 x22_20 x22_22).f1, (rd_T77 x22_20 x22_22).f2⟩ : S77), (⟨0, 0, 0⟩ : S77), false⟩ : S99)] : List S99) 8 true, .sl 2 k99 A45_18 c45_18 (x22_7 ++ ([(⟨(⟨(rd_T77 x22_20 x22_22).f0, (rd_T77 x22_20 x22_22).f1, (rd_T77 x22_20 x22_22).f2⟩ : S77), (⟨0, 0, 0⟩ : S77), false⟩ : S99)] : List S99)) 1 true]) (by kernel_rfl) (sv (EV.as rfl) rfl (re (pr [1, 5, 6, 7, 8, 20, 21, 22] [0, 1] [0, 1, 2, 3, 4, 5, 6, 7, 9] rfl rfl rfl rfl (ge (wk [1, 5, 6, 7, 8, 20, 21, 22] [0, 1] [⟨8, 2, 1, true⟩, ⟨0, 2, 2, true⟩, ⟨1, 2, 3, true⟩, ⟨2, 2, 4, true⟩, ⟨3, 2, 5, true⟩, ⟨4, 2, 2, true⟩, ⟨5, 2, 6, true⟩, ⟨6, 2, 7, true⟩, ⟨7, 0, 0, false⟩] (jh0 _ ⟨_, x22_7 ++ ([(⟨(⟨(rd_T77 x22_20 x22_22).f0, (rd_T77 x22_20 x22_22).f1, (rd_T77 x22_20 x22_22).f2⟩ : S77), (⟨0, 0, 0⟩ : S77), false⟩ : S99)] : List S99), A45_18, c45_18, x22_22, x22_20, Ax22_20, cx22_20, x22_21, x22_22, x22_5_0, x22_5_1, Ax22_5_1, cx22_5_1, x22_5_2, Ax22_5_2, cx22_5_2, x22_5_3, Ax22_5_3, cx22_5_3, x22_5_4, x22_6_0, x22_6_1, Ax22_6_1, cx22_6_1, x22_6_2, Ax22_6_2, cx22_6_2, x22_6_3, Ax22_6_3, cx22_6_3, x22_6_4, by omega, H, rfl⟩))))))))
     ·
      refine gf rfl (dF c13) ?_
      refine jo (fun S => ∃ (m : Nat) (x41_7 : List S99) (Ax41_7 : Option Addr) (cx41_7 : Nat) (x41_8 : Int) (x41_20 : List S77) (Ax41_20 : Option Addr) (cx41_20 : Nat) (x41_21 : Int) (x41_22 : Int) (x41_46 : Bool) (x41_5_0 : Int) (x41_5_1 : List S77) (Ax41_5_1 : Option Addr) (cx41_5_1 : Nat) (x41_5_2 : List S77) (Ax41_5_2 : Option Addr) (cx41_5_2 : Nat) (x41_5_3 : List Bool) (Ax41_5_3 : Option Addr) (cx41_5_3 : Nat) (x41_5_4 : Int) (x41_6_0 : Int) (x41_6_1 : List S77) (Ax41_6_1 : Option Addr) (cx41_6_1 : Nat) (x41_6_2 : List S77) (Ax41_6_2 : Option Addr) (cx41_6_2 : Nat) (x41_6_3 : List Bool) (Ax41_6_3 : Option Addr) (cx41_6_3 : Nat) (x41_6_4 : Int) (x41_9_0 : Int) (x41_9_1 : Int) (x41_9_2 : Int), m ≤ n0 ∧ impl_JoinChunk.j1 m x41_7 x41_8 x41_20 x41_21 x41_22 x41_46 x41_5_0 x41_5_1 x41_5_2 x41_5_3 x41_5_4 x41_6_0 x41_6_1 x41_6_2 x41_6_3 x41_6_4 x41_9_0 x41_9_1 x41_9_2 l1 = some (r0, r1, r2, r3, r4, r5) ∧ S = ⟨[(1, .slice Al1 l1.length cl1), (5, .pointer (some ⟨b5, 0, none⟩)), (6, .pointer (some ⟨b6, 0, none⟩)), (7, .slice Ax41_7 x41_7.length cx41_7), (8, .int .i64 x41_8), (9, .pointer (some ⟨b9, 0, none⟩)), (20, .slice Ax41_20 x41_20.length cx41_20), (21, .int .i64 x41_21), (22, .int .i64 x41_22), (46, .bool x41_46)], [⟨b5, 68, [.int .i64 x41_5_0, .slice Ax41_5_1 x41_5_1.length cx41_5_1, .slice Ax41_5_2 x41_5_2.length cx41_5_2, .slice Ax41_5_3 x41_5_3.length cx41_5_3, .int .i64 x41_5_4]⟩, ⟨b6, 68, [.int .i64 x41_6_0, .slice Ax41_6_1 x41_6_1.length cx41_6_1, .slice Ax41_6_2 x41_6_2.length cx41_6_2, .slice Ax41_6_3 x41_6_3.length cx41_6_3, .int .i64 x41_6_4]⟩, ⟨b9, 77, [.int .i64 x41_9_0, .int .i64 x41_9_1, .int .i64 x41_9_2]⟩], [.sl 2 k99 Ax41_7 cx41_7 x41_7 1 true, .sl 2 k77 Ax41_20 cx41_20 x41_20 2 true, .sl 2 k77 Ax41_5_1 cx41_5_1 x41_5_1 3 true, .sl 2 k77 Ax41_5_2 cx41_5_2 x41_5_2 4 true, .sl 2 .bool Ax41_5_3 cx41_5_3 x41_5_3 5 true, .sl 2 k77 Ax41_6_1 cx41_6_1 x41_6_1 2 true, .sl 2 k77 Ax41_6_2 cx41_6_2 x41_6_2 6 true, .sl 2 .bool Ax41_6_3 cx41_6_3 x41_6_3 7 true, .sl 0 k77 Al1 cl1 l1 0 false]⟩) (fun S hS => ?_) (fun jh1 => ?_)
      ·
       clear H
       obtain ⟨m19, x41_7, Ax41_7, cx41_7, x41_8, x41_20, Ax41_20, cx41_20, x41_21, x41_22, x41_46, x41_5_0, x41_5_1, Ax41_5_1, cx41_5_1, x41_5_2, Ax41_5_2, cx41_5_2, x41_5_3, Ax41_5_3, cx41_5_3, x41_5_4, x41_6_0, x41_6_1, Ax41_6_1, cx41_6_1, x41_6_2, Ax41_6_2, cx41_6_2, x41_6_3, Ax41_6_3, cx41_6_3, x41_6_4, x41_9_0, x41_9_1, x41_9_2, lm19, H, rfl⟩ := hS
       rcases m19 with _ | m19
       · rw [impl_JoinChunk.j1] at H; cases H
       rw [impl_JoinChunk.j1] at H
       revert H; refine ifsI ?_ ?_ <;> intro c20 H
       ·
        subst c20
        refine gt rfl rfl (gs (rg (sv (EV.mv rfl) rfl (sv (EV.ln rfl) rfl (sv (EV.mv rfl) rfl (re (gb ?_)))))))
        refine lo (fun kk S => ∃ (x42_7 : List S99) (Ax42_7 : Option Addr) (cx42_7 : Nat) (x42_8 : Int) (x42_20 : List S77) (Ax42_20 : Option Addr) (cx42_20 : Nat) (x42_21 : Int) (x42_22 : Int) (x42_50 : Int) (x42_51 : Int) (x42_5_0 : Int) (x42_5_1 : List S77) (Ax42_5_1 : Option Addr) (cx42_5_1 : Nat) (x42_5_2 : List S77) (Ax42_5_2 : Option Addr) (cx42_5_2 : Nat) (x42_5_3 : List Bool) (Ax42_5_3 : Option Addr) (cx42_5_3 : Nat) (x42_5_4 : Int) (x42_6_0 : Int) (x42_6_1 : List S77) (Ax42_6_1 : Option Addr) (cx42_6_1 : Nat) (x42_6_2 : List S77) (Ax42_6_2 : Option Addr) (cx42_6_2 : Nat) (x42_6_3 : List Bool) (Ax42_6_3 : Option Addr) (cx42_6_3 : Nat) (x42_6_4 : Int) (x42_9_0 : Int) (x42_9_1 : Int) (x42_9_2 : Int), kk ≤ m19 ∧ impl_JoinChunk.l1 kk x42_7 x42_8 x42_20 x42_21 x42_22 x42_50 x42_51 x42_5_0 x42_5_1 x42_5_2 x42_5_3 x42_5_4 x42_6_0 x42_6_1 x42_6_2 x42_6_3 x42_6_4 x42_9_0 x42_9_1 x42_9_2 l1 = some (r0, r1, r2, r3, r4, r5) ∧ S = ⟨[(1, .slice Al1 l1.length cl1), (5, .pointer (some ⟨b5, 0, none⟩)), (6, .pointer (some ⟨b6, 0, none⟩)), (7, .slice Ax42_7 x42_7.length cx42_7), (8, .int .i64 x42_8), (9, .pointer (some ⟨b9, 0, none⟩)), (20, .slice Ax42_20 x42_20.length cx42_20), (21, .int .i64 x42_21), (22, .int .i64 x42_22), (49, .slice Al1 l1.length cl1), (50, .int .i64 x42_50), (51, .int .i64 x42_51)], [⟨b5, 68, [.int .i64 x42_5_0, .slice Ax42_5_1 x42_5_1.length cx42_5_1, .slice Ax42_5_2 x42_5_2.length cx42_5_2, .slice Ax42_5_3 x42_5_3.length cx42_5_3, .int .i64 x42_5_4]⟩, ⟨b6, 68, [.int .i64 x42_6_0, .slice Ax42_6_1 x42_6_1.length cx42_6_1, .slice Ax42_6_2 x42_6_2.length cx42_6_2, .slice Ax42_6_3 x42_6_3.length cx42_6_3, .int .i64 x42_6_4]⟩, ⟨b9, 77, [.int .i64 x42_9_0, .int .i64 x42_9_1, .int .i64 x42_9_2]⟩], [.sl 2 k99 Ax42_7 cx42_7 x42_7 1 true, .sl 2 k77 Ax42_20 cx42_20 x42_20 2 true, .sl 2 k77 Ax42_5_1 cx42_5_1 x42_5_1 3 true, .sl 2 k77 Ax42_5_2 cx42_5_2 x42_5_2 4 true, .sl 2 .bool Ax42_5_3 cx42_5_3 x42_5_3 5 true, .sl 2 k77 Ax42_6_1 cx42_6_1 x42_6_1 2 true, .sl 2 k77 Ax42_6_2 cx42_6_2 x42_6_2 6 true, .sl 2 .bool Ax42_6_3 cx42_6_3 x42_6_3 7 true, .sl 0 k77 Al1 cl1 l1 0 false]⟩) (fun S hS => ?_) (fun n1 ih1 S hS => ?_) ⟨x41_7, Ax41_7, cx41_7, x41_8, x41_20, Ax41_20, cx41_20, x41_21, x41_22, (l1.length : Int), 0, x41_5_0, x41_5_1, Ax41_5_1, cx41_5_1, x41_5_2, Ax41_5_2, cx41_5_2, x41_5_3, Ax41_5_3, cx41_5_3, x41_5_4, x41_6_0, x41_6_1, Ax41_6_1, cx41_6_1, x41_6_2, Ax41_6_2, cx41_6_2, x41_6_3, Ax41_6_3, cx41_6_3, x41_6_4, x41_9_0, x41_9_1, x41_9_2, by omega, H, rfl⟩ (fun h => wk [1, 5, 6, 7, 8, 9, 20, 21, 22, 49, 50, 51] [0, 1, 2] [⟨0, 2, 1, true⟩, ⟨1, 2, 2, true⟩, ⟨2, 2, 3, true⟩, ⟨3, 2, 4, true⟩, ⟨4, 2, 5, true⟩, ⟨5, 2, 2, true⟩, ⟨6, 2, 6, true⟩, ⟨7, 2, 7, true⟩, ⟨8, 0, 0, false⟩] h)
        · clear H; obtain ⟨_, _, _, _, _, _, _, _, _, _, _, _, _, _, _, _, _, _, _, _, _, _, _, _, _, _, _, _, _, _, _, _, _, _, _, _, _, H, _⟩ := hS; rw [impl_JoinChunk.l1] at H; cases H
        clear H
        obtain ⟨x42_7, Ax42_7, cx42_7, x42_8, x42_20, Ax42_20, cx42_20, x42_21, x42_22, x42_50, x42_51, x42_5_0, x42_5_1, Ax42_5_1, cx42_5_1, x42_5_2, Ax42_5_2, cx42_5_2, x42_5_3, Ax42_5_3, cx42_5_3, x42_5_4, x42_6_0, x42_6_1, Ax42_6_1, cx42_6_1, x42_6_2, Ax42_6_2, cx42_6_2, x42_6_3, Ax42_6_3, cx42_6_3, x42_6_4, x42_9_0, x42_9_1, x42_9_2, lk1, H, rfl⟩ := hS
        rw [impl_JoinChunk.l1] at H
        refine gs (rg (sv (EV.lss rfl rfl) rfl (re (gs ?_))))
        revert H; refine ifsI ?_ ?_ <;> intro c21 H
        ·
         refine gt rfl (dT c21) (gk (gs (gb (gs (rg ?_)))))
         revert H; refine ggI ?_; intro g22 H
         revert H; refine ggI ?_; intro g23 H
         refine sv (EV.ix 8 rfl rfl rfl g22 g23 rfl) rfl (sv (EV.le (v := .agg #[.int .i64 ((rd_T77 l1 x42_51).f0), .int .i64 ((rd_T77 l1 x42_51).f1), .int .i64 ((rd_T77 l1 x42_51).f2)]) x42_51 0 (some 3) 8 z77 rfl rfl rfl g22 g23 rfl rfl rfl) rfl (so rfl (op_alloc (cs := [.int .i64 0, .int .i64 0, .int .i64 0]) (by kernel_rfl) rfl fun b11 => (so rfl (op_st (cs' := [.int .i64 ((rd_T77 l1 x42_51).f0), .int .i64 ((rd_T77 l1 x42_51).f1), .int .i64 ((rd_T77 l1 x42_51).f2)]) 3 rfl rfl rfl rfl rfl rfl (re (gs (rg (sv (EV.fa 0 rfl) rfl (sv (EV.ld 3 none rfl rfl rfl) rfl (sv (EV.fa 0 rfl) rfl (sv (EV.ld 2 none rfl rfl rfl) rfl (sv (EV.eql rfl rfl) rfl (re (pr [1, 5, 6, 7, 8, 9, 11, 20, 21, 22, 49, 50, 51, 59] [0, 1, 2, 3] [0, 1, 2, 3, 4, 5, 6, 7, 8] rfl rfl rfl rfl ?_)))))))))))))))
         revert H; refine ifsI ?_ ?_ <;> intro c24 H
         ·
          refine gt rfl (dT c24) (rg (sv (EV.mv rfl) rfl (sv (EV.ld (v := .agg #[.int .i64 x42_9_0, .int .i64 x42_9_1, .int .i64 x42_9_2]) 2 (some 3) rfl rfl rfl) rfl (sv (EV.ld (v := .agg #[.int .i64 ((rd_T77 l1 x42_51).f0), .int .i64 ((rd_T77 l1 x42_51).f1), .int .i64 ((rd_T77 l1 x42_51).f2)]) 3 (some 3) rfl rfl rfl) rfl (sv (EV.bd (v := .agg #[.int .i64 x42_9_0, .int .i64 x42_9_1, .int .i64 x42_9_2, .int .i64 ((rd_T77 l1 x42_51).f0), .int .i64 ((rd_T77 l1 x42_51).f1), .int .i64 ((rd_T77 l1 x42_51).f2), .bool true]) rfl (by kernel_rfl)) rfl (so rfl (op_lit (s := 7) (by_ := 56) k99 ([(⟨(⟨x42_9_0, x42_9_1, x42_9_2⟩ : S77), (⟨(rd_T77 l1 x42_51).f0, (rd_T77 l1 x42_51).f1, (rd_T77 l1 x42_51).f2⟩ : S77), true⟩ : S99)] : List S99) [[]] [] 8 [.tmp 63] rfl rfl rfl rfl rfl rfl rfl rfl rfl rfl rfl rfl rfl dq rfl fun A64_25 c64_25 => ?_)))))))
          revert H; refine ggI ?_; intro g26 H
          exact so rfl (op_app (k := k99) (s := 7) (by_ := 56) 0 9 rfl rfl rfl rfl (ap1 g26 dq) (ap1n g26 dq) (.inl rfl) true (fun _ => .inl rfl) rfl rfl fun A65_27 c65_27 => (nmE (en := [.sl 2 k77 Ax42_20 cx42_20 x42_20 2 true, .sl 2 k77 Ax42_5_1 cx42_5_1 x42_5_1 3 true, .sl 2 k77 Ax42_5_2 cx42_5_2 x42_5_2 4 true, .sl 2 .bool Ax42_5_3 cx42_5_3 x42_5_3 5 true, .sl 2 k77 Ax42_6_1 cx42_6_1 x42_6_1 2 true, .sl 2 k77 Ax42_6_2 cx42_6_2 x42_6_2 6 true, .sl 2 .bool Ax42_6_3 cx42_6_3 x42_6_3 7 true, .sl 0 k77 Al1 cl1 l1 0 false, .sl 2 k99 A64_25 c64_25 ([(⟨(⟨x42_9_0, x42_9_1, x42_9_2⟩ : S77), (⟨(rd_T77 l1 x42_51).f0, (rd_T77 l1 x42_51).f1, (rd_T77 l1 x42_51).f2⟩ : S77), true⟩ : S99)] : List S99) 8 true, .sl 2 k99 A65_27 c65_27 (x42_7 ++ ([(⟨(⟨x42_9_0, x42_9_1, x42_9_2⟩ : S77), (⟨(rd_T77 l1 x42_51).f0, (rd_T77 l1 x42_51).f1, (rd_T77 l1 x42_51).f2⟩ : S77), true⟩ : S99)] : List S99)) 1 true]) (by kernel_rfl) (sv (EV.as rfl) rfl (re (pr [1, 5, 6, 7, 8, 9, 20, 21, 22, 49, 50, 51] [0, 1, 2] [0, 1, 2, 3, 4, 5, 6, 7, 9] rfl rfl rfl rfl (ge (rg (sv (EV.add rfl rfl) rfl (sv (EV.mv rfl) rfl (re (wk [1, 5, 6, 7, 8, 9, 20, 21, 22, 49, 50, 51] [0, 1, 2] [⟨8, 2, 1, true⟩, ⟨0, 2, 2, true⟩, ⟨1, 2, 3, true⟩, ⟨2, 2, 4, true⟩, ⟨3, 2, 5, true⟩, ⟨4, 2, 2, true⟩, ⟨5, 2, 6, true⟩, ⟨6, 2, 7, true⟩, ⟨7, 0, 0, false⟩] (ih1 _ (by omega) _ ⟨x42_7 ++ ([(⟨(⟨x42_9_0, x42_9_1, x42_9_2⟩ : S77), (⟨(rd_T77 l1 x42_51).f0, (rd_T77 l1 x42_51).f1, (rd_T77 l1 x42_51).f2⟩ : S77), true⟩ : S99)] : List S99), A65_27, c65_27, x42_8, x42_20, Ax42_20, cx42_20, x42_21, x42_22, x42_50, wrap64 (x42_51 + 1), x42_5_0, x42_5_1, Ax42_5_1, cx42_5_1, x42_5_2, Ax42_5_2, cx42_5_2, x42_5_3, Ax42_5_3, cx42_5_3, x42_5_4, x42_6_0, x42_6_1, Ax42_6_1, cx42_6_1, x42_6_2, Ax42_6_2, cx42_6_2, x42_6_3, Ax42_6_3, cx42_6_3, x42_6_4, x42_9_0, x42_9_1, x42_9_2, by omega, H, rfl⟩))))))))))))
         ·
          exact gf rfl (dF c24) (gk (ge (rg (sv (EV.add rfl rfl) rfl (sv (EV.mv rfl) rfl (re (wk [1, 5, 6, 7, 8, 9, 20, 21, 22, 49, 50, 51] [0, 1, 2] [⟨0, 2, 1, true⟩, ⟨1, 2, 2, true⟩, ⟨2, 2, 3, true⟩, ⟨3, 2, 4, true⟩, ⟨4, 2, 5, true⟩, ⟨5, 2, 2, true⟩, ⟨6, 2, 6, true⟩, ⟨7, 2, 7, true⟩, ⟨8, 0, 0, false⟩] (ih1 _ (by omega) _ ⟨x42_7, Ax42_7, cx42_7, x42_8, x42_20, Ax42_20, cx42_20, x42_21, x42_22, x42_50, wrap64 (x42_51 + 1), x42_5_0, x42_5_1, Ax42_5_1, cx42_5_1, x42_5_2, Ax42_5_2, cx42_5_2, x42_5_3, Ax42_5_3, cx42_5_3, x42_5_4, x42_6_0, x42_6_1, Ax42_6_1, cx42_6_1, x42_6_2, Ax42_6_2, cx42_6_2, x42_6_3, Ax42_6_3, cx42_6_3, x42_6_4, x42_9_0, x42_9_1, x42_9_2, by omega, H, rfl⟩))))))))
        ·
         exact gf rfl (dF c21) (gx rfl (ge (wk [1, 5, 6, 7, 8, 20, 21, 22] [0, 1] [⟨0, 2, 1, true⟩, ⟨1, 2, 2, true⟩, ⟨2, 2, 3, true⟩, ⟨3, 2, 4, true⟩, ⟨4, 2, 5, true⟩, ⟨5, 2, 2, true⟩, ⟨6, 2, 6, true⟩, ⟨7, 2, 7, true⟩, ⟨8, 0, 0, false⟩] (jh0 _ ⟨_, x42_7, Ax42_7, cx42_7, x42_8, x42_20, Ax42_20, cx42_20, x42_21, x42_22, x42_5_0, x42_5_1, Ax42_5_1, cx42_5_1, x42_5_2, Ax42_5_2, cx42_5_2, x42_5_3, Ax42_5_3, cx42_5_3, x42_5_4, x42_6_0, x42_6_1, Ax42_6_1, cx42_6_1, x42_6_2, Ax42_6_2, cx42_6_2, x42_6_3, Ax42_6_3, cx42_6_3, x42_6_4, by omega, H, rfl⟩))))
       ·
        obtain rfl := bF c20
        exact gf rfl rfl (gk (ge (wk [1, 5, 6, 7, 8, 20, 21, 22] [0, 1] [⟨0, 2, 1, true⟩, ⟨1, 2, 2, true⟩, ⟨2, 2, 3, true⟩, ⟨3, 2, 4, true⟩, ⟨4, 2, 5, true⟩, ⟨5, 2, 2, true⟩, ⟨6, 2, 6, true⟩, ⟨7, 2, 7, true⟩, ⟨8, 0, 0, false⟩] (jh0 _ ⟨_, x41_7, Ax41_7, cx41_7, x41_8, x41_20, Ax41_20, cx41_20, x41_21, x41_22, x41_5_0, x41_5_1, Ax41_5_1, cx41_5_1, x41_5_2, Ax41_5_2, cx41_5_2, x41_5_3, Ax41_5_3, cx41_5_3, x41_5_4, x41_6_0, x41_6_1, Ax41_6_1, cx41_6_1, x41_6_2, Ax41_6_2, cx41_6_2, x41_6_3, Ax41_6_3, cx41_6_3, x41_6_4, by omega, H, rfl⟩))))
      ·
       refine gs (rg (sv (EV.eql rfl rfl) rfl (sv (EV.as rfl) rfl (re ?_))))
       revert H; refine ifsI ?_ ?_ <;> intro c28 H
       ·
        exact gt rfl (dT c28) (gk (wk [1, 5, 6, 7, 8, 9, 20, 21, 22, 46] [0, 1, 2] [⟨0, 2, 1, true⟩, ⟨1, 2, 2, true⟩, ⟨2, 2, 3, true⟩, ⟨3, 2, 4, true⟩, ⟨4, 2, 5, true⟩, ⟨5, 2, 2, true⟩, ⟨6, 2, 6, true⟩, ⟨7, 2, 7, true⟩, ⟨8, 0, 0, false⟩] (jh1 _ ⟨_, x22_7, Ax22_7, cx22_7, x22_22, x22_20, Ax22_20, cx22_20, x22_21, x22_22, decide (x22_6_0 = 1), x22_5_0, x22_5_1, Ax22_5_1, cx22_5_1, x22_5_2, Ax22_5_2, cx22_5_2, x22_5_3, Ax22_5_3, cx22_5_3, x22_5_4, x22_6_0, x22_6_1, Ax22_6_1, cx22_6_1, x22_6_2, Ax22_6_2, cx22_6_2, x22_6_3, Ax22_6_3, cx22_6_3, x22_6_4, (rd_T77 x22_20 x22_22).f0, (rd_T77 x22_20 x22_22).f1, (rd_T77 x22_20 x22_22).f2, by omega, H, rfl⟩)))
       ·
        exact gf rfl (dF c28) (rg (sv (EV.eql rfl rfl) rfl (sv (EV.as rfl) rfl (re (pr [1, 5, 6, 7, 8, 9, 20, 21, 22, 46] [0, 1, 2] [0, 1, 2, 3, 4, 5, 6, 7, 8] rfl rfl rfl rfl (wk [1, 5, 6, 7, 8, 9, 20, 21, 22, 46] [0, 1, 2] [⟨0, 2, 1, true⟩, ⟨1, 2, 2, true⟩, ⟨2, 2, 3, true⟩, ⟨3, 2, 4, true⟩, ⟨4, 2, 5, true⟩, ⟨5, 2, 2, true⟩, ⟨6, 2, 6, true⟩, ⟨7, 2, 7, true⟩, ⟨8, 0, 0, false⟩] (jh1 _ ⟨_, x22_7, Ax22_7, cx22_7, x22_22, x22_20, Ax22_20, cx22_20, x22_21, x22_22, decide (x22_6_0 = 4), x22_5_0, x22_5_1, Ax22_5_1, cx22_5_1, x22_5_2, Ax22_5_2, cx22_5_2, x22_5_3, Ax22_5_3, cx22_5_3, x22_5_4, x22_6_0, x22_6_1, Ax22_6_1, cx22_6_1, x22_6_2, Ax22_6_2, cx22_6_2, x22_6_3, Ax22_6_3, cx22_6_3, x22_6_4, (rd_T77 x22_20 x22_22).f0, (rd_T77 x22_20 x22_22).f1, (rd_T77 x22_20 x22_22).f2, by omega, H, rfl⟩)))))))
  ·
   refine gf rfl (dF c5) (gx rfl (gs (dr [0, 1] [0, 1, 2, 3, 4, 5, 6, 7, 8] [3] 4 rfl rfl rfl rfl (xv 0 [0, 1] [0, 1, 2, 3, 4, 5, 6, 7, 8] rfl (EV.mv rfl) rfl rfl rfl rfl (xv 1 [0, 1] [0, 1, 2, 3, 4, 5, 6, 7, 8] rfl (EV.ld (v := .agg #[.int .i64 x22_6_0, .slice Ax22_6_1 x22_6_1.length cx22_6_1, .slice Ax22_6_2 x22_6_2.length cx22_6_2, .slice Ax22_6_3 x22_6_3.length cx22_6_3, .int .i64 x22_6_4]) 1 (some 5) rfl rfl rfl) rfl rfl rfl rfl (xv 2 [0, 1] [0, 1, 2, 3, 4, 5, 6, 7, 8] rfl (EV.as rfl) rfl rfl rfl rfl (one1 3 rfl rfl (op_st (cs' := [.int .i64 x22_6_0, .slice Ax22_6_1 x22_6_1.length cx22_6_1, .slice Ax22_6_2 x22_6_2.length cx22_6_2, .slice Ax22_6_3 x22_6_3.length cx22_6_3, .int .i64 x22_6_4]) 0 rfl rfl rfl rfl rfl rfl (xn rfl (xd (pr [4, 5] [0] [0, 5, 6, 7] rfl rfl rfl rfl ?_)))))))))))
   cases H
   exact rt Try.func74 rfl (.tmp rfl (.cell 0 (some 5) rfl rfl rfl .nil)) rfl [] [⟨0, 2, 1, true⟩, ⟨1, 2, 2, true⟩, ⟨2, 2, 3, true⟩, ⟨3, 2, 4, true⟩] rfl rfl rfl rfl rfl ⟨_, _, _, _, _, _, _, _, rfl, rfl, rfl⟩
 ·
  obtain rfl := bF c3
  refine gt rfl rfl (gs (dr [0, 1] [0, 1, 2, 3] [2] 3 rfl rfl rfl rfl (xv 0 [0, 1] [0, 1, 2, 3] rfl (EV.ld (v := .agg #[.int .i64 t1_0, .slice At1_1 t1_1.length ct1_1, .slice At1_2 t1_2.length ct1_2, .slice At1_3 t1_3.length ct1_3, .int .i64 t1_4]) 1 (some 5) rfl rfl rfl) rfl rfl rfl rfl (xv 1 [0, 1] [0, 1, 2, 3] rfl (EV.as rfl) rfl rfl rfl rfl (one1 2 rfl rfl (op_st (cs' := [.int .i64 t1_0, .slice At1_1 t1_1.length ct1_1, .slice At1_2 t1_2.length ct1_2, .slice At1_3 t1_3.length ct1_3, .int .i64 t1_4]) 0 rfl rfl rfl rfl rfl rfl (xn rfl (xd (nil_ k99 5 dq ?_)))))))))
  cases H
  exact rt Try.func74 rfl (.tmp rfl (.cell 0 (some 5) rfl rfl rfl .nil)) rfl [] [⟨4, 2, 1, true⟩, ⟨1, 2, 2, true⟩, ⟨2, 2, 3, true⟩, ⟨3, 2, 4, true⟩] rfl rfl rfl rfl rfl ⟨_, _, _, _, _, _, _, _, rfl, rfl, rfl⟩
end Go.Proofs.Ytfcebaplphpajaa.K
