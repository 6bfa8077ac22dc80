/- Walks: what the functions compute. Printed by gen.py; no condition. -/
import Derived.Test.YtajjeemkdjfilaaVFnJoinUnderGrantsc
namespace Go.Proofs.Ytajjeemkdjfilaa.K
open Go Go.RowKit
set_option linter.unusedVariables false
set_option linter.unusedSimpArgs false
def spec_SplitByHashBit.l0 : Nat → Int → (List S70) → (List S70) → Int → (List S70) → Option ((List S70) × (List S70))
 | 0, _, _, _, _, _ => none
 | k + 1, x2_1, x2_6, x2_7, x2_8, l0 => if x2_8 < (l0.length : Int) then (if 0 ≤ x2_8 then ((spec_HashBit.f ((rd_T70 l0 x2_8).f0) x2_1).bind fun t5 => (if t5 = 0 then (if x2_6.length < 5864062014805 then (spec_SplitByHashBit.l0 k x2_1 (x2_6 ++ ([(⟨(rd_T70 l0 x2_8).f0, (rd_T70 l0 x2_8).f1, (rd_T70 l0 x2_8).f2⟩ : S70)] : List S70)) x2_7 (wrap64 (x2_8 + 1)) l0) else none) else (if x2_7.length < 5864062014805 then (spec_SplitByHashBit.l0 k x2_1 x2_6 (x2_7 ++ ([(⟨(rd_T70 l0 x2_8).f0, (rd_T70 l0 x2_8).f1, (rd_T70 l0 x2_8).f2⟩ : S70)] : List S70)) (wrap64 (x2_8 + 1)) l0) else none))) else none) else (some (x2_6, x2_7))
def spec_SplitByHashBit.f (k : Nat) (l0 : List S70) (a1 : Int) : Option ((List S70) × (List S70)) := spec_SplitByHashBit.l0 k a1 [] [] 0 l0
set_option maxHeartbeats 4000000 in
set_option maxRecDepth 100000 in
theorem spec_SplitByHashBit.ok (k : Nat) (l0 : List S70) (Al0 : Option Addr) (cl0 : Nat) (a1 : Int) (r0 : List S70) (r1 : List S70) (H : spec_SplitByHashBit.f k l0 a1 = some (r0, r1)) : Fn Try.prog 93 [.slice Al0 l0.length cl0, .int .i64 a1] [] [.sl 0 k70 Al0 cl0 l0 0 false] (fun v bx en => ∃ A0 c0 A1 c1, v = .tuple #[.slice A0 r0.length c0, .slice A1 r1.length c1] ∧ bx = [] ∧ en = [.sl 2 k70 A0 c0 r0 1 true, .sl 2 k70 A1 c1 r1 2 true]) := by
 refine fn_ 41 Try.func93 rfl rfl rfl (fun base T w0 => ?_)
 rw [spec_SplitByHashBit.f] at H
 refine gs (rg (sv (EV.as rfl) rfl (sv (EV.as rfl) rfl (re (gs (rg (so rfl (op_lit (s := 3) (by_ := 24) k70 ([] : List S70) [] [] 1 [] rfl rfl rfl rfl rfl rfl rfl rfl rfl rfl rfl rfl rfl dq rfl fun A9_1 c9_1 => (sv (EV.as rfl) rfl (re (gs (rg (so rfl (op_lit (s := 3) (by_ := 24) k70 ([] : List S70) [] [] 2 [] rfl rfl rfl rfl rfl rfl rfl rfl rfl rfl rfl rfl rfl dq rfl fun A10_2 c10_2 => (sv (EV.as rfl) rfl (re (gs (gs (rg (sv (EV.as rfl) rfl (re (gb ?_))))))))))))))))))))))
 refine lo (fun kk S => ∃ (x2_1 : Int) (x2_6 : List S70) (Ax2_6 : Option Addr) (cx2_6 : Nat) (x2_7 : List S70) (Ax2_7 : Option Addr) (cx2_7 : Nat) (x2_8 : Int), spec_SplitByHashBit.l0 kk x2_1 x2_6 x2_7 x2_8 l0 = some (r0, r1) ∧ S = ⟨[(0, .slice Al0 l0.length cl0), (1, .int .i64 x2_1), (6, .slice Ax2_6 x2_6.length cx2_6), (7, .slice Ax2_7 x2_7.length cx2_7), (8, .int .i64 x2_8)], [], [.sl 2 k70 Ax2_6 cx2_6 x2_6 1 true, .sl 2 k70 Ax2_7 cx2_7 x2_7 2 true, .sl 0 k70 Al0 cl0 l0 0 false]⟩) (fun S hS => ?_) (fun n0 ih0 S hS => ?_) ⟨a1, [], A9_1, c9_1, [], A10_2, c10_2, 0, H, rfl⟩ (fun h => wk [0, 1, 6, 7, 8] [] [⟨1, 2, 1, true⟩, ⟨2, 2, 2, true⟩, ⟨0, 0, 0, false⟩] h)
 · clear H; obtain ⟨_, _, _, _, _, _, _, _, H, _⟩ := hS; rw [spec_SplitByHashBit.l0] at H; cases H
 clear H
 obtain ⟨x2_1, x2_6, Ax2_6, cx2_6, x2_7, Ax2_7, cx2_7, x2_8, H, rfl⟩ := hS
 rw [spec_SplitByHashBit.l0] at H
 refine gs (gs (rg (sv (EV.mv rfl) rfl (sv (EV.mv rfl) rfl (sv (EV.ln rfl) rfl (sv (EV.lss rfl rfl) rfl (re ?_)))))))
 revert H; refine ifsI ?_ ?_ <;> intro c3 H
 ·
  refine gt rfl (dT c3) (gk (gs (gb (gs (rg (sv (EV.mv rfl) rfl (sv (EV.mv rfl) rfl ?_)))))))
  revert H; refine ggI ?_; intro g4 H
  refine sv (EV.ix 2 rfl rfl rfl g4 c3 rfl) rfl (sv (EV.fa 0 rfl) rfl (sv (EV.le (v := .int .i64 ((rd_T70 l0 x2_8).f0)) x2_8 0 none 2 z70 rfl rfl rfl g4 c3 rfl rfl rfl) rfl (sv (EV.mv rfl) rfl ?_)))
  revert H; refine bdI ?_; rintro t5 A5 H
  refine so rfl (op_call (spec_HashBit.ok ((rd_T70 l0 x2_8).f0) x2_1 _ A5) [] 3 rfl rfl rfl rfl rfl ?_)
  rintro _ _ _ ⟨rfl, rfl, rfl⟩
  refine sv (EV.eql rfl rfl) rfl (re (pr [0, 1, 6, 7, 8, 24] [] [0, 1, 2] rfl rfl rfl rfl ?_))
  revert H; refine ifsI ?_ ?_ <;> intro c6 H
  ·
   refine gt rfl (dT c6) (rg (sv (EV.mv rfl) rfl (sv (EV.mv rfl) rfl (sv (EV.mv rfl) rfl (sv (EV.ix 2 rfl rfl rfl g4 c3 rfl) rfl (sv (EV.le (v := .agg #[.int .i64 ((rd_T70 l0 x2_8).f0), .int .i64 ((rd_T70 l0 x2_8).f1), .int .i64 ((rd_T70 l0 x2_8).f2)]) x2_8 0 (some 3) 2 z70 rfl rfl rfl g4 c3 rfl rfl rfl) rfl (so rfl (op_lit (s := 3) (by_ := 24) k70 ([(⟨(rd_T70 l0 x2_8).f0, (rd_T70 l0 x2_8).f1, (rd_T70 l0 x2_8).f2⟩ : S70)] : List S70) [[]] [] 3 [.tmp 29] rfl rfl rfl rfl rfl rfl rfl rfl rfl rfl rfl rfl rfl dq rfl fun A30_7 c30_7 => ?_))))))))
   revert H; refine ggI ?_; intro g8 H
   exact so rfl (op_app (k := k70) (s := 3) (by_ := 24) 0 3 rfl rfl rfl rfl (ap1 g8 dq) (ap1n g8 dq) (.inl rfl) true (fun _ => .inl rfl) rfl rfl fun A31_9 c31_9 => (nmE (en := [.sl 2 k70 Ax2_7 cx2_7 x2_7 2 true, .sl 0 k70 Al0 cl0 l0 0 false, .sl 2 k70 A30_7 c30_7 ([(⟨(rd_T70 l0 x2_8).f0, (rd_T70 l0 x2_8).f1, (rd_T70 l0 x2_8).f2⟩ : S70)] : List S70) 3 true, .sl 2 k70 A31_9 c31_9 (x2_6 ++ ([(⟨(rd_T70 l0 x2_8).f0, (rd_T70 l0 x2_8).f1, (rd_T70 l0 x2_8).f2⟩ : S70)] : List S70)) 1 true]) (by kernel_rfl) (sv (EV.as rfl) rfl (re (pr [0, 1, 6, 7, 8] [] [0, 1, 3] rfl rfl rfl rfl (ge (rg (sv (EV.mv rfl) rfl (sv (EV.add rfl rfl) rfl (sv (EV.as rfl) rfl (re (wk [0, 1, 6, 7, 8] [] [⟨2, 2, 1, true⟩, ⟨0, 2, 2, true⟩, ⟨1, 0, 0, false⟩] (ih0 _ (by omega) _ ⟨x2_1, x2_6 ++ ([(⟨(rd_T70 l0 x2_8).f0, (rd_T70 l0 x2_8).f1, (rd_T70 l0 x2_8).f2⟩ : S70)] : List S70), A31_9, c31_9, x2_7, Ax2_7, cx2_7, wrap64 (x2_8 + 1), H, rfl⟩)))))))))))))
  ·
   refine gf rfl (dF c6) (rg (sv (EV.mv rfl) rfl (sv (EV.mv rfl) rfl (sv (EV.mv rfl) rfl (sv (EV.ix 2 rfl rfl rfl g4 c3 rfl) rfl (sv (EV.le (v := .agg #[.int .i64 ((rd_T70 l0 x2_8).f0), .int .i64 ((rd_T70 l0 x2_8).f1), .int .i64 ((rd_T70 l0 x2_8).f2)]) x2_8 0 (some 3) 2 z70 rfl rfl rfl g4 c3 rfl rfl rfl) rfl (so rfl (op_lit (s := 3) (by_ := 24) k70 ([(⟨(rd_T70 l0 x2_8).f0, (rd_T70 l0 x2_8).f1, (rd_T70 l0 x2_8).f2⟩ : S70)] : List S70) [[]] [] 3 [.tmp 36] rfl rfl rfl rfl rfl rfl rfl rfl rfl rfl rfl rfl rfl dq rfl fun A37_10 c37_10 => ?_))))))))
   revert H; refine ggI ?_; intro g11 H
   exact so rfl (op_app (k := k70) (s := 3) (by_ := 24) 1 3 rfl rfl rfl rfl (ap1 g11 dq) (ap1n g11 dq) (.inl rfl) true (fun _ => .inl rfl) rfl rfl fun A38_12 c38_12 => (nmE (en := [.sl 2 k70 Ax2_6 cx2_6 x2_6 1 true, .sl 0 k70 Al0 cl0 l0 0 false, .sl 2 k70 A37_10 c37_10 ([(⟨(rd_T70 l0 x2_8).f0, (rd_T70 l0 x2_8).f1, (rd_T70 l0 x2_8).f2⟩ : S70)] : List S70) 3 true, .sl 2 k70 A38_12 c38_12 (x2_7 ++ ([(⟨(rd_T70 l0 x2_8).f0, (rd_T70 l0 x2_8).f1, (rd_T70 l0 x2_8).f2⟩ : S70)] : List S70)) 2 true]) (by kernel_rfl) (sv (EV.as rfl) rfl (re (pr [0, 1, 6, 7, 8] [] [0, 1, 3] rfl rfl rfl rfl (ge (rg (sv (EV.mv rfl) rfl (sv (EV.add rfl rfl) rfl (sv (EV.as rfl) rfl (re (wk [0, 1, 6, 7, 8] [] [⟨0, 2, 1, true⟩, ⟨2, 2, 2, true⟩, ⟨1, 0, 0, false⟩] (ih0 _ (by omega) _ ⟨x2_1, x2_6, Ax2_6, cx2_6, x2_7 ++ ([(⟨(rd_T70 l0 x2_8).f0, (rd_T70 l0 x2_8).f1, (rd_T70 l0 x2_8).f2⟩ : S70)] : List S70), A38_12, c38_12, wrap64 (x2_8 + 1), H, rfl⟩)))))))))))))
 ·
  refine gf rfl (dF c3) (gx rfl (gs (rg (sv (EV.mv rfl) rfl (sv (EV.mv rfl) rfl (sv (EV.as rfl) rfl (sv (EV.as rfl) rfl (re (pr [4, 5] [] [0, 1] rfl rfl rfl rfl ?_)))))))))
  cases H
  exact rt Try.func93 rfl (.tmp rfl (.tmp rfl .nil)) rfl [] [⟨0, 2, 1, true⟩, ⟨1, 2, 2, true⟩] rfl rfl rfl rfl rfl ⟨_, _, _, _, rfl, rfl, rfl⟩
end Go.Proofs.Ytajjeemkdjfilaa.K
namespace Go.Proofs.Ytajjeemkdjfilaa.K
open Go Go.RowKit
set_option linter.unusedVariables false
set_option linter.unusedSimpArgs false
def spec_PartitionTask.l0 : Nat → Int → Int → Int → Int → (List S70) → (List S70) → (List Bool) → Int → Int → (List S70) → (List S70) → (List Bool) → Int → Int → (List S70) → (List S70) → (List Bool) → Int → Int → (List S70) → (List S70) → (List Bool) → Int → (List S70) → (List S70) → (List Bool) → Option (Int × (List S70) × (List S70) × (List Bool) × Int × Int × (List S70) × (List S70) × (List Bool) × Int × Bool)
 | 0, _, _, _, _, _, _, _, _, _, _, _, _, _, _, _, _, _, _, _, _, _, _, _, _, _, _ => none
 | k + 1, x2_7, x2_1_0, x2_1_4, x2_2_0, x2_2_1, x2_2_2, x2_2_3, x2_2_4, x2_3_0, x2_3_1, x2_3_2, x2_3_3, x2_3_4, x2_5_0, x2_5_1, x2_5_2, x2_5_3, x2_5_4, x2_6_0, x2_6_1, x2_6_2, x2_6_3, x2_6_4, l0_1, l0_2, l0_3 => if x2_7 < (l0_1.length : Int) then (if 0 ≤ x2_7 then ((spec_HashBit.f ((rd_T70 l0_1 x2_7).f0) x2_1_4).bind fun t7 => (if t7 = 0 then (if x2_5_1.length < 5864062014805 then (if x2_7 < (l0_3.length : Int) then (if x2_5_3.length < 140737488355328 then (spec_PartitionTask.l0 k (wrap64 (x2_7 + 1)) x2_1_0 x2_1_4 x2_2_0 x2_2_1 x2_2_2 x2_2_3 x2_2_4 x2_3_0 x2_3_1 x2_3_2 x2_3_3 x2_3_4 x2_5_0 (x2_5_1 ++ ([(⟨(rd_T70 l0_1 x2_7).f0, (rd_T70 l0_1 x2_7).f1, (rd_T70 l0_1 x2_7).f2⟩ : S70)] : List S70)) x2_5_2 (x2_5_3 ++ ([rdOf false l0_3 x2_7] : List Bool)) x2_5_4 x2_6_0 x2_6_1 x2_6_2 x2_6_3 x2_6_4 l0_1 l0_2 l0_3) else none) else none) else none) else (if x2_6_1.length < 5864062014805 then (if x2_7 < (l0_3.length : Int) then (if x2_6_3.length < 140737488355328 then (spec_PartitionTask.l0 k (wrap64 (x2_7 + 1)) x2_1_0 x2_1_4 x2_2_0 x2_2_1 x2_2_2 x2_2_3 x2_2_4 x2_3_0 x2_3_1 x2_3_2 x2_3_3 x2_3_4 x2_5_0 x2_5_1 x2_5_2 x2_5_3 x2_5_4 x2_6_0 (x2_6_1 ++ ([(⟨(rd_T70 l0_1 x2_7).f0, (rd_T70 l0_1 x2_7).f1, (rd_T70 l0_1 x2_7).f2⟩ : S70)] : List S70)) x2_6_2 (x2_6_3 ++ ([rdOf false l0_3 x2_7] : List Bool)) x2_6_4 l0_1 l0_2 l0_3) else none) else none) else none))) else none) else (some (x2_5_0, x2_5_1, x2_5_2, x2_5_3, x2_5_4, x2_6_0, x2_6_1, x2_6_2, x2_6_3, x2_6_4, true))
def spec_PartitionTask.f (k : Nat) (a0_0 : Int) (l0_1 : List S70) (l0_2 : List S70) (l0_3 : List Bool) (a0_4 : Int) : Option (Int × (List S70) × (List S70) × (List Bool) × Int × Int × (List S70) × (List S70) × (List Bool) × Int × Bool) := (spec_IsValidTask.f k a0_0 l0_1 l0_2 l0_3 a0_4).bind fun t1 => (if t1 = true then (if a0_4 = 4 then (some (0, [], [], [], 0, 0, [], [], [], 0, false)) else ((spec_SplitByHashBit.f k l0_2 a0_4).bind fun bt4 => (spec_PartitionTask.l0 k 0 a0_0 a0_4 0 [] [] [] 0 0 [] [] [] 0 a0_0 [] bt4.1 [] (wrap64 (a0_4 + 1)) a0_0 [] bt4.2 [] (wrap64 (a0_4 + 1)) l0_1 l0_2 l0_3))) else (some (0, [], [], [], 0, 0, [], [], [], 0, false)))
set_option maxHeartbeats 4000000 in
set_option maxRecDepth 100000 in
theorem spec_PartitionTask.ok (k : Nat) (a0_0 : Int) (l0_1 : List S70) (Al0_1 : Option Addr) (cl0_1 : Nat) (l0_2 : List S70) (Al0_2 : Option Addr) (cl0_2 : Nat) (l0_3 : List Bool) (Al0_3 : Option Addr) (cl0_3 : Nat) (a0_4 : Int) (r0 : Int) (r1 : List S70) (r2 : List S70) (r3 : List Bool) (r4 : Int) (r5 : Int) (r6 : List S70) (r7 : List S70) (r8 : List Bool) (r9 : Int) (r10 : Bool) (H : spec_PartitionTask.f k a0_0 l0_1 l0_2 l0_3 a0_4 = some (r0, r1, r2, r3, r4, r5, r6, r7, r8, r9, r10)) : Fn Try.prog 43 [.agg #[.int .i64 a0_0, .slice Al0_1 l0_1.length cl0_1, .slice Al0_2 l0_2.length cl0_2, .slice Al0_3 l0_3.length cl0_3, .int .i64 a0_4]] [] [.sl 0 k70 Al0_1 cl0_1 l0_1 0 false, .sl 0 k70 Al0_2 cl0_2 l0_2 0 false, .sl 0 .bool Al0_3 cl0_3 l0_3 0 false] (fun v bx en => ∃ A1 c1 A2 c2 A3 c3 A6 c6 A7 c7 A8 c8, v = .tuple #[.agg #[.int .i64 r0, .slice A1 r1.length c1, .slice A2 r2.length c2, .slice A3 r3.length c3, .int .i64 r4], .agg #[.int .i64 r5, .slice A6 r6.length c6, .slice A7 r7.length c7, .slice A8 r8.length c8, .int .i64 r9], .bool r10] ∧ bx = [] ∧ en = [.sl 2 k70 A1 c1 r1 1 true, .sl 2 k70 A2 c2 r2 2 true, .sl 2 .bool A3 c3 r3 3 true, .sl 2 k70 A6 c6 r6 4 true, .sl 2 k70 A7 c7 r7 5 true, .sl 2 .bool A8 c8 r8 6 true]) := by
 refine fn_ 99 Try.func43 rfl rfl rfl (fun base T w0 => ?_)
 rw [spec_PartitionTask.f] at H
 refine gs (rg (so rfl (op_box (cs := [.int .i64 a0_0, .slice Al0_1 l0_1.length cl0_1, .slice Al0_2 l0_2.length cl0_2, .slice Al0_3 l0_3.length cl0_3, .int .i64 a0_4]) rfl rfl rfl fun b1 => (so rfl (op_alloc (cs := [.int .i64 0, .slice none 0 0, .slice none 0 0, .slice none 0 0, .int .i64 0]) (by kernel_rfl) rfl fun b2 => (so rfl (op_alloc (cs := [.int .i64 0, .slice none 0 0, .slice none 0 0, .slice none 0 0, .int .i64 0]) (by kernel_rfl) rfl fun b3 => (sv (EV.as rfl) rfl (re (gs (gs (rg (sv (EV.ld (v := .agg #[.int .i64 a0_0, .slice Al0_1 l0_1.length cl0_1, .slice Al0_2 l0_2.length cl0_2, .slice Al0_3 l0_3.length cl0_3, .int .i64 a0_4]) 0 (some 5) rfl rfl rfl) rfl ?_)))))))))))))
 revert H; refine bdI ?_; rintro t1 A1 H
 refine so rfl (op_call (spec_IsValidTask.ok k a0_0 l0_1 Al0_1 cl0_1 l0_2 Al0_2 cl0_2 l0_3 Al0_3 cl0_3 a0_4 _ A1) [⟨0, 0, 0, false⟩, ⟨1, 0, 0, false⟩, ⟨2, 0, 0, false⟩] 1 rfl rfl rfl rfl rfl ?_)
 rintro _ _ _ ⟨rfl, rfl, rfl⟩
 refine sv (EV.nt rfl) rfl (sv (EV.mv rfl) rfl ?_)
 revert H; refine ifsI ?_ ?_ <;> intro c2 H
 ·
  subst c2
  refine ts 11 rfl rfl (sv (EV.fa 4 rfl) rfl (sv (EV.ld 0 none rfl rfl rfl) rfl (sv (EV.eql rfl rfl) rfl (sv (EV.pf rfl rfl rfl) rfl (re (pr [1, 2, 3, 15] [0, 1, 2] [0, 1, 2] rfl rfl rfl rfl ?_))))))
  revert H; refine ifsI ?_ ?_ <;> intro c3 H
  ·
   refine gt rfl (dT c3) (gs (rg (sv (EV.bd (v := .agg #[.int .i64 0, .slice none 0 0, .slice none 0 0, .slice none 0 0, .int .i64 0]) rfl (by kernel_rfl)) rfl (sv (EV.bd (v := .agg #[.int .i64 0, .slice none 0 0, .slice none 0 0, .slice none 0 0, .int .i64 0]) rfl (by kernel_rfl)) rfl (so rfl (op_st (cs' := [.int .i64 0, .slice none 0 0, .slice none 0 0, .slice none 0 0, .int .i64 0]) 1 rfl rfl rfl rfl rfl rfl (so rfl (op_st (cs' := [.int .i64 0, .slice none 0 0, .slice none 0 0, .slice none 0 0, .int .i64 0]) 2 rfl rfl rfl rfl rfl rfl (sv (EV.as rfl) rfl (re (nil_ k70 1 dq (nil_ k70 2 dq (nil_ .bool 3 dq (nil_ k70 4 dq (nil_ k70 5 dq (nil_ .bool 6 dq ?_))))))))))))))))
   cases H
   exact rt Try.func43 rfl (.cell 1 (some 5) rfl rfl rfl (.cell 2 (some 5) rfl rfl rfl (.tmp rfl .nil))) rfl [] [⟨3, 2, 1, true⟩, ⟨4, 2, 2, true⟩, ⟨5, 2, 3, true⟩, ⟨6, 2, 4, true⟩, ⟨7, 2, 5, true⟩, ⟨8, 2, 6, true⟩] rfl rfl rfl rfl rfl ⟨_, _, _, _, _, _, _, _, _, _, _, _, rfl, rfl, rfl⟩
  ·
   refine gf rfl (dF c3) (gk (gs (rg (sv (EV.fa 0 rfl) rfl (sv (EV.ld 0 none rfl rfl rfl) rfl (sv (EV.fa 4 rfl) rfl (sv (EV.ld 0 none rfl rfl rfl) rfl (sv (EV.add rfl rfl) rfl (sv (EV.bd (v := .agg #[.int .i64 a0_0, .slice none 0 0, .slice none 0 0, .slice none 0 0, .int .i64 (wrap64 (a0_4 + 1))]) rfl (by kernel_rfl)) rfl (so rfl (op_alloc (cs := [.int .i64 0, .slice none 0 0, .slice none 0 0, .slice none 0 0, .int .i64 0]) (by kernel_rfl) rfl fun b5 => (so rfl (op_st (cs' := [.int .i64 a0_0, .slice none 0 0, .slice none 0 0, .slice none 0 0, .int .i64 (wrap64 (a0_4 + 1))]) 3 rfl rfl rfl rfl rfl rfl (re (pr [1, 2, 3, 5] [0, 1, 2, 3] [0, 1, 2] rfl rfl rfl rfl (gs (rg (sv (EV.fa 0 rfl) rfl (sv (EV.ld 0 none rfl rfl rfl) rfl (sv (EV.fa 4 rfl) rfl (sv (EV.ld 0 none rfl rfl rfl) rfl (sv (EV.add rfl rfl) rfl (sv (EV.bd (v := .agg #[.int .i64 a0_0, .slice none 0 0, .slice none 0 0, .slice none 0 0, .int .i64 (wrap64 (a0_4 + 1))]) rfl (by kernel_rfl)) rfl (so rfl (op_alloc (cs := [.int .i64 0, .slice none 0 0, .slice none 0 0, .slice none 0 0, .int .i64 0]) (by kernel_rfl) rfl fun b6 => (so rfl (op_st (cs' := [.int .i64 a0_0, .slice none 0 0, .slice none 0 0, .slice none 0 0, .int .i64 (wrap64 (a0_4 + 1))]) 4 rfl rfl rfl rfl rfl rfl (re (pr [1, 2, 3, 5, 6] [0, 1, 2, 3, 4] [0, 1, 2] rfl rfl rfl rfl ?_)))))))))))))))))))))))))))))
   refine gs (rg (sv (EV.fa 2 rfl) rfl (sv (EV.ld 0 none rfl rfl rfl) rfl (sv (EV.fa 4 rfl) rfl (sv (EV.ld 0 none rfl rfl rfl) rfl ?_)))))
   revert H; refine bdI ?_; rintro ⟨t4_0, t4_1⟩ A4 H
   refine so rfl (op_call (spec_SplitByHashBit.ok k l0_2 Al0_2 cl0_2 a0_4 _ _ A4) [⟨1, 0, 0, false⟩] 1 rfl rfl rfl rfl rfl ?_)
   rintro _ _ _ ⟨At4_0, ct4_0, At4_1, ct4_1, rfl, rfl, rfl⟩
   refine sv (EV.mv rfl) rfl (sv (EV.ex rfl rfl) rfl (sv (EV.ex rfl rfl) rfl (sv (EV.fa 2 rfl) rfl (so rfl (op_st (cs' := [.int .i64 a0_0, .slice none 0 0, .slice At4_0 t4_0.length ct4_0, .slice none 0 0, .int .i64 (wrap64 (a0_4 + 1))]) 3 rfl rfl rfl rfl rfl rfl (sv (EV.fa 2 rfl) rfl (so rfl (op_st (cs' := [.int .i64 a0_0, .slice none 0 0, .slice At4_1 t4_1.length ct4_1, .slice none 0 0, .int .i64 (wrap64 (a0_4 + 1))]) 4 rfl rfl rfl rfl rfl rfl (re (pr [1, 2, 3, 5, 6] [0, 1, 2, 3, 4] [0, 1, 2, 3, 4] rfl rfl rfl rfl (gs (gs (rg (sv (EV.as rfl) rfl (re (gb (nil_ k70 4 dq (nil_ k70 5 dq (nil_ .bool 6 dq (nil_ k70 7 dq (nil_ k70 8 dq (nil_ .bool 9 dq (nil_ k70 10 dq (nil_ .bool 11 dq (nil_ k70 12 dq (nil_ .bool 13 dq ?_))))))))))))))))))))))))))
   refine lo (fun kk S => ∃ (x2_7 : Int) (x2_1_0 : Int) (x2_1_4 : Int) (x2_2_0 : Int) (x2_2_1 : List S70) (Ax2_2_1 : Option Addr) (cx2_2_1 : Nat) (x2_2_2 : List S70) (Ax2_2_2 : Option Addr) (cx2_2_2 : Nat) (x2_2_3 : List Bool) (Ax2_2_3 : Option Addr) (cx2_2_3 : Nat) (x2_2_4 : Int) (x2_3_0 : Int) (x2_3_1 : List S70) (Ax2_3_1 : Option Addr) (cx2_3_1 : Nat) (x2_3_2 : List S70) (Ax2_3_2 : Option Addr) (cx2_3_2 : Nat) (x2_3_3 : List Bool) (Ax2_3_3 : Option Addr) (cx2_3_3 : Nat) (x2_3_4 : Int) (x2_5_0 : Int) (x2_5_1 : List S70) (Ax2_5_1 : Option Addr) (cx2_5_1 : Nat) (x2_5_2 : List S70) (Ax2_5_2 : Option Addr) (cx2_5_2 : Nat) (x2_5_3 : List Bool) (Ax2_5_3 : Option Addr) (cx2_5_3 : Nat) (x2_5_4 : Int) (x2_6_0 : Int) (x2_6_1 : List S70) (Ax2_6_1 : Option Addr) (cx2_6_1 : Nat) (x2_6_2 : List S70) (Ax2_6_2 : Option Addr) (cx2_6_2 : Nat) (x2_6_3 : List Bool) (Ax2_6_3 : Option Addr) (cx2_6_3 : Nat) (x2_6_4 : Int), spec_PartitionTask.l0 kk x2_7 x2_1_0 x2_1_4 x2_2_0 x2_2_1 x2_2_2 x2_2_3 x2_2_4 x2_3_0 x2_3_1 x2_3_2 x2_3_3 x2_3_4 x2_5_0 x2_5_1 x2_5_2 x2_5_3 x2_5_4 x2_6_0 x2_6_1 x2_6_2 x2_6_3 x2_6_4 l0_1 l0_2 l0_3 = some (r0, r1, r2, r3, r4, r5, r6, r7, r8, r9, r10) ∧ S = ⟨[(1, .pointer (some ⟨b1, 0, none⟩)), (2, .pointer (some ⟨b2, 0, none⟩)), (3, .pointer (some ⟨b3, 0, none⟩)), (5, .pointer (some ⟨b5, 0, none⟩)), (6, .pointer (some ⟨b6, 0, none⟩)), (7, .int .i64 x2_7)], [⟨b1, 44, [.int .i64 x2_1_0, .slice Al0_1 l0_1.length cl0_1, .slice Al0_2 l0_2.length cl0_2, .slice Al0_3 l0_3.length cl0_3, .int .i64 x2_1_4]⟩, ⟨b2, 44, [.int .i64 x2_2_0, .slice Ax2_2_1 x2_2_1.length cx2_2_1, .slice Ax2_2_2 x2_2_2.length cx2_2_2, .slice Ax2_2_3 x2_2_3.length cx2_2_3, .int .i64 x2_2_4]⟩, ⟨b3, 44, [.int .i64 x2_3_0, .slice Ax2_3_1 x2_3_1.length cx2_3_1, .slice Ax2_3_2 x2_3_2.length cx2_3_2, .slice Ax2_3_3 x2_3_3.length cx2_3_3, .int .i64 x2_3_4]⟩, ⟨b5, 44, [.int .i64 x2_5_0, .slice Ax2_5_1 x2_5_1.length cx2_5_1, .slice Ax2_5_2 x2_5_2.length cx2_5_2, .slice Ax2_5_3 x2_5_3.length cx2_5_3, .int .i64 x2_5_4]⟩, ⟨b6, 44, [.int .i64 x2_6_0, .slice Ax2_6_1 x2_6_1.length cx2_6_1, .slice Ax2_6_2 x2_6_2.length cx2_6_2, .slice Ax2_6_3 x2_6_3.length cx2_6_3, .int .i64 x2_6_4]⟩], [.sl 2 k70 Ax2_2_1 cx2_2_1 x2_2_1 1 true, .sl 2 k70 Ax2_2_2 cx2_2_2 x2_2_2 2 true, .sl 2 .bool Ax2_2_3 cx2_2_3 x2_2_3 3 true, .sl 2 k70 Ax2_3_1 cx2_3_1 x2_3_1 4 true, .sl 2 k70 Ax2_3_2 cx2_3_2 x2_3_2 5 true, .sl 2 .bool Ax2_3_3 cx2_3_3 x2_3_3 6 true, .sl 2 k70 Ax2_5_1 cx2_5_1 x2_5_1 7 true, .sl 2 k70 Ax2_5_2 cx2_5_2 x2_5_2 8 true, .sl 2 .bool Ax2_5_3 cx2_5_3 x2_5_3 9 true, .sl 2 k70 Ax2_6_1 cx2_6_1 x2_6_1 10 true, .sl 2 k70 Ax2_6_2 cx2_6_2 x2_6_2 11 true, .sl 2 .bool Ax2_6_3 cx2_6_3 x2_6_3 12 true, .sl 0 k70 Al0_1 cl0_1 l0_1 0 false, .sl 0 k70 Al0_2 cl0_2 l0_2 0 false, .sl 0 .bool Al0_3 cl0_3 l0_3 0 false]⟩) (fun S hS => ?_) (fun n0 ih0 S hS => ?_) ⟨0, a0_0, a0_4, 0, [], none, 0, [], none, 0, [], none, 0, 0, 0, [], none, 0, [], none, 0, [], none, 0, 0, a0_0, [], none, 0, t4_0, At4_0, ct4_0, [], none, 0, wrap64 (a0_4 + 1), a0_0, [], none, 0, t4_1, At4_1, ct4_1, [], none, 0, wrap64 (a0_4 + 1), H, rfl⟩ (fun h => wk [1, 2, 3, 5, 6, 7] [0, 1, 2, 3, 4] [⟨5, 2, 1, true⟩, ⟨6, 2, 2, true⟩, ⟨7, 2, 3, true⟩, ⟨8, 2, 4, true⟩, ⟨9, 2, 5, true⟩, ⟨10, 2, 6, true⟩, ⟨11, 2, 7, true⟩, ⟨3, 2, 8, true⟩, ⟨12, 2, 9, true⟩, ⟨13, 2, 10, true⟩, ⟨4, 2, 11, true⟩, ⟨14, 2, 12, true⟩, ⟨0, 0, 0, false⟩, ⟨1, 0, 0, false⟩, ⟨2, 0, 0, false⟩] h)
   · clear H; obtain ⟨_, _, _, _, _, _, _, _, _, _, _, _, _, _, _, _, _, _, _, _, _, _, _, _, _, _, _, _, _, _, _, _, _, _, _, _, _, _, _, _, _, _, _, _, _, _, _, H, _⟩ := hS; rw [spec_PartitionTask.l0] at H; cases H
   clear H
   obtain ⟨x2_7, x2_1_0, x2_1_4, x2_2_0, x2_2_1, Ax2_2_1, cx2_2_1, x2_2_2, Ax2_2_2, cx2_2_2, x2_2_3, Ax2_2_3, cx2_2_3, x2_2_4, x2_3_0, x2_3_1, Ax2_3_1, cx2_3_1, x2_3_2, Ax2_3_2, cx2_3_2, x2_3_3, Ax2_3_3, cx2_3_3, x2_3_4, x2_5_0, x2_5_1, Ax2_5_1, cx2_5_1, x2_5_2, Ax2_5_2, cx2_5_2, x2_5_3, Ax2_5_3, cx2_5_3, x2_5_4, x2_6_0, x2_6_1, Ax2_6_1, cx2_6_1, x2_6_2, Ax2_6_2, cx2_6_2, x2_6_3, Ax2_6_3, cx2_6_3, x2_6_4, H, rfl⟩ := hS
   rw [spec_PartitionTask.l0] at H
   refine gs (gs (rg (sv (EV.mv rfl) rfl (sv (EV.fa 1 rfl) rfl (sv (EV.ld 0 none rfl rfl rfl) rfl (sv (EV.ln rfl) rfl (sv (EV.lss rfl rfl) rfl (re ?_))))))))
   revert H; refine ifsI ?_ ?_ <;> intro c5 H
   ·
    refine gt rfl (dT c5) (gk (gs (gb (gs ?_))))
    revert H; refine ggI ?_; intro g6 H
    refine dr [0, 1, 2, 3, 4] [0, 1, 2, 3, 4, 5, 6, 7, 8, 9, 10, 11, 12, 13, 14] [] 10 rfl rfl rfl rfl (xv 0 [0, 1, 2, 3, 4] [0, 1, 2, 3, 4, 5, 6, 7, 8, 9, 10, 11, 12, 13, 14] rfl (EV.fa 1 rfl) rfl rfl rfl rfl (xv 1 [0, 1, 2, 3, 4] [0, 1, 2, 3, 4, 5, 6, 7, 8, 9, 10, 11, 12, 13, 14] rfl (EV.ld 0 none rfl rfl rfl) rfl rfl rfl rfl (xv 2 [0, 1, 2, 3, 4] [0, 1, 2, 3, 4, 5, 6, 7, 8, 9, 10, 11, 12, 13, 14] rfl (EV.mv rfl) rfl rfl rfl rfl (xv 3 [0, 1, 2, 3, 4] [0, 1, 2, 3, 4, 5, 6, 7, 8, 9, 10, 11, 12, 13, 14] rfl (EV.ix 12 rfl rfl rfl g6 c5 rfl) rfl rfl rfl rfl (xv 4 [0, 1, 2, 3, 4] [0, 1, 2, 3, 4, 5, 6, 7, 8, 9, 10, 11, 12, 13, 14] rfl (EV.fa 0 rfl) rfl rfl rfl rfl (xv 5 [0, 1, 2, 3, 4] [0, 1, 2, 3, 4, 5, 6, 7, 8, 9, 10, 11, 12, 13, 14] rfl (EV.le (v := .int .i64 ((rd_T70 l0_1 x2_7).f0)) x2_7 0 none 12 z70 rfl rfl rfl g6 c5 rfl rfl rfl) rfl rfl rfl rfl (xv 6 [0, 1, 2, 3, 4] [0, 1, 2, 3, 4, 5, 6, 7, 8, 9, 10, 11, 12, 13, 14] rfl (EV.fa 4 rfl) rfl rfl rfl rfl (xv 7 [0, 1, 2, 3, 4] [0, 1, 2, 3, 4, 5, 6, 7, 8, 9, 10, 11, 12, 13, 14] rfl (EV.ld 0 none rfl rfl rfl) rfl rfl rfl rfl (one1 8 rfl rfl ?_)))))))))
    revert H; refine bdI ?_; rintro t7 A7 H
    refine op_call (spec_HashBit.ok ((rd_T70 l0_1 x2_7).f0) x2_1_4 _ A7) [] 13 rfl rfl rfl rfl rfl ?_
    rintro _ _ _ ⟨rfl, rfl, rfl⟩
    refine xs [0, 1, 2, 3, 4] [0, 1, 2, 3, 4, 5, 6, 7, 8, 9, 10, 11, 12, 13, 14] rfl rfl rfl (xv 9 [0, 1, 2, 3, 4] [0, 1, 2, 3, 4, 5, 6, 7, 8, 9, 10, 11, 12, 13, 14] rfl (EV.eql rfl rfl) rfl rfl rfl rfl (xd (pr [1, 2, 3, 5, 6, 7, 56] [0, 1, 2, 3, 4] [0, 1, 2, 3, 4, 5, 6, 7, 8, 9, 10, 11, 12, 13, 14] rfl rfl rfl rfl ?_)))
    revert H; refine ifsI ?_ ?_ <;> intro c8 H
    ·
     refine gt rfl (dT c8) (gs ?_)
     revert H; refine ggI ?_; intro g9 H
     refine dr [0, 1, 2, 3, 4] [0, 1, 2, 3, 4, 5, 7, 8, 9, 10, 11, 12, 13, 14] [9, 10] 11 rfl rfl rfl rfl (xv 0 [0, 1, 2, 3, 4] [0, 1, 2, 3, 4, 5, 7, 8, 9, 10, 11, 12, 13, 14] rfl (EV.fa 1 rfl) rfl rfl rfl rfl (xv 1 [0, 1, 2, 3, 4] [0, 1, 2, 3, 4, 5, 7, 8, 9, 10, 11, 12, 13, 14] rfl (EV.ld 3 none rfl rfl rfl) rfl rfl rfl rfl (xv 2 [0, 1, 2, 3, 4] [0, 1, 2, 3, 4, 5, 7, 8, 9, 10, 11, 12, 13, 14] rfl (EV.fa 1 rfl) rfl rfl rfl rfl (xv 3 [0, 1, 2, 3, 4] [0, 1, 2, 3, 4, 5, 7, 8, 9, 10, 11, 12, 13, 14] rfl (EV.ld 0 none rfl rfl rfl) rfl rfl rfl rfl (xv 4 [0, 1, 2, 3, 4] [0, 1, 2, 3, 4, 5, 7, 8, 9, 10, 11, 12, 13, 14] rfl (EV.mv rfl) rfl rfl rfl rfl (xv 5 [0, 1, 2, 3, 4] [0, 1, 2, 3, 4, 5, 7, 8, 9, 10, 11, 12, 13, 14] rfl (EV.ix 11 rfl rfl rfl g6 c5 rfl) rfl rfl rfl rfl (xv 6 [0, 1, 2, 3, 4] [0, 1, 2, 3, 4, 5, 7, 8, 9, 10, 11, 12, 13, 14] rfl (EV.le (v := .agg #[.int .i64 ((rd_T70 l0_1 x2_7).f0), .int .i64 ((rd_T70 l0_1 x2_7).f1), .int .i64 ((rd_T70 l0_1 x2_7).f2)]) x2_7 0 (some 3) 11 z70 rfl rfl rfl g6 c5 rfl rfl rfl) rfl rfl rfl rfl (one1 7 rfl rfl (op_lit (s := 3) (by_ := 24) k70 ([(⟨(rd_T70 l0_1 x2_7).f0, (rd_T70 l0_1 x2_7).f1, (rd_T70 l0_1 x2_7).f2⟩ : S70)] : List S70) [[]] [] 13 [.tmp 63] rfl rfl rfl rfl rfl rfl rfl rfl rfl rfl rfl rfl rfl dq rfl fun A64_10 c64_10 => (xs [0, 1, 2, 3, 4] [0, 1, 2, 3, 4, 5, 7, 8, 9, 10, 11, 12, 13, 14] rfl rfl rfl (one1 8 rfl rfl (op_app (k := k70) (s := 3) (by_ := 24) 6 15 rfl rfl rfl rfl (ap1 g9 dq) (ap1n g9 dq) (.inl rfl) true (fun _ => .inl rfl) rfl rfl fun A65_11 c65_11 => (nmE (en := [.sl 2 k70 Ax2_2_1 cx2_2_1 x2_2_1 1 true, .sl 2 k70 Ax2_2_2 cx2_2_2 x2_2_2 2 true, .sl 2 .bool Ax2_2_3 cx2_2_3 x2_2_3 3 true, .sl 2 k70 Ax2_3_1 cx2_3_1 x2_3_1 4 true, .sl 2 k70 Ax2_3_2 cx2_3_2 x2_3_2 5 true, .sl 2 .bool Ax2_3_3 cx2_3_3 x2_3_3 6 true, .sl 2 k70 Ax2_5_2 cx2_5_2 x2_5_2 8 true, .sl 2 .bool Ax2_5_3 cx2_5_3 x2_5_3 9 true, .sl 2 k70 Ax2_6_1 cx2_6_1 x2_6_1 10 true, .sl 2 k70 Ax2_6_2 cx2_6_2 x2_6_2 11 true, .sl 2 .bool Ax2_6_3 cx2_6_3 x2_6_3 12 true, .sl 0 k70 Al0_1 cl0_1 l0_1 0 false, .sl 0 k70 Al0_2 cl0_2 l0_2 0 false, .sl 0 .bool Al0_3 cl0_3 l0_3 0 false, .sl 2 k70 A64_10 c64_10 ([(⟨(rd_T70 l0_1 x2_7).f0, (rd_T70 l0_1 x2_7).f1, (rd_T70 l0_1 x2_7).f2⟩ : S70)] : List S70) 13 true, .sl 2 k70 A65_11 c65_11 (x2_5_1 ++ ([(⟨(rd_T70 l0_1 x2_7).f0, (rd_T70 l0_1 x2_7).f1, (rd_T70 l0_1 x2_7).f2⟩ : S70)] : List S70)) 7 true]) (by kernel_rfl) (xs [0, 1, 2, 3, 4] [0, 1, 2, 3, 4, 5, 6, 7, 8, 9, 10, 11, 12, 13] rfl rfl rfl (one1 9 rfl rfl (ov (EV.fa 1 rfl) rfl (xn rfl (one1 10 rfl rfl (op_st (cs' := [.int .i64 x2_5_0, .slice A65_11 (x2_5_1 ++ ([(⟨(rd_T70 l0_1 x2_7).f0, (rd_T70 l0_1 x2_7).f1, (rd_T70 l0_1 x2_7).f2⟩ : S70)] : List S70)).length c65_11, .slice Ax2_5_2 x2_5_2.length cx2_5_2, .slice Ax2_5_3 x2_5_3.length cx2_5_3, .int .i64 x2_5_4]) 3 rfl rfl rfl rfl rfl rfl (xn rfl (xd (pr [1, 2, 3, 5, 6, 7] [0, 1, 2, 3, 4] [0, 1, 2, 3, 4, 5, 6, 7, 8, 9, 10, 11, 12, 13, 15] rfl rfl rfl rfl ?_))))))))))))))))))))))
     revert H; refine ggI ?_; intro g12 H
     revert H; refine ggI ?_; intro g13 H
     exact dr [0, 1, 2, 3, 4] [0, 1, 2, 3, 4, 5, 6, 8, 9, 10, 11, 12, 13, 14] [9, 10] 11 rfl rfl rfl rfl (xv 0 [0, 1, 2, 3, 4] [0, 1, 2, 3, 4, 5, 6, 8, 9, 10, 11, 12, 13, 14] rfl (EV.fa 3 rfl) rfl rfl rfl rfl (xv 1 [0, 1, 2, 3, 4] [0, 1, 2, 3, 4, 5, 6, 8, 9, 10, 11, 12, 13, 14] rfl (EV.ld 3 none rfl rfl rfl) rfl rfl rfl rfl (xv 2 [0, 1, 2, 3, 4] [0, 1, 2, 3, 4, 5, 6, 8, 9, 10, 11, 12, 13, 14] rfl (EV.fa 3 rfl) rfl rfl rfl rfl (xv 3 [0, 1, 2, 3, 4] [0, 1, 2, 3, 4, 5, 6, 8, 9, 10, 11, 12, 13, 14] rfl (EV.ld 0 none rfl rfl rfl) rfl rfl rfl rfl (xv 4 [0, 1, 2, 3, 4] [0, 1, 2, 3, 4, 5, 6, 8, 9, 10, 11, 12, 13, 14] rfl (EV.mv rfl) rfl rfl rfl rfl (xv 5 [0, 1, 2, 3, 4] [0, 1, 2, 3, 4, 5, 6, 8, 9, 10, 11, 12, 13, 14] rfl (EV.ix 12 rfl rfl rfl g6 g12 rfl) rfl rfl rfl rfl (xv 6 [0, 1, 2, 3, 4] [0, 1, 2, 3, 4, 5, 6, 8, 9, 10, 11, 12, 13, 14] rfl (EV.le (v := .bool (rdOf false l0_3 x2_7)) x2_7 0 none 12 false rfl rfl rfl g6 g12 rfl rfl rfl) rfl rfl rfl rfl (one1 7 rfl rfl (op_lit (s := 1) (by_ := 1) .bool ([rdOf false l0_3 x2_7] : List Bool) [[]] [] 13 [.tmp 73] rfl rfl rfl rfl rfl rfl rfl rfl rfl rfl rfl rfl rfl dq rfl fun A74_14 c74_14 => (xs [0, 1, 2, 3, 4] [0, 1, 2, 3, 4, 5, 6, 8, 9, 10, 11, 12, 13, 14] rfl rfl rfl (one1 8 rfl rfl (op_app (k := .bool) (s := 1) (by_ := 1) 7 15 rfl rfl rfl rfl (ap1 g13 dq) (ap1n g13 dq) (.inl rfl) true (fun _ => .inl rfl) rfl rfl fun A75_15 c75_15 => (nmE (en := [.sl 2 k70 Ax2_2_1 cx2_2_1 x2_2_1 1 true, .sl 2 k70 Ax2_2_2 cx2_2_2 x2_2_2 2 true, .sl 2 .bool Ax2_2_3 cx2_2_3 x2_2_3 3 true, .sl 2 k70 Ax2_3_1 cx2_3_1 x2_3_1 4 true, .sl 2 k70 Ax2_3_2 cx2_3_2 x2_3_2 5 true, .sl 2 .bool Ax2_3_3 cx2_3_3 x2_3_3 6 true, .sl 2 k70 Ax2_5_2 cx2_5_2 x2_5_2 8 true, .sl 2 k70 Ax2_6_1 cx2_6_1 x2_6_1 10 true, .sl 2 k70 Ax2_6_2 cx2_6_2 x2_6_2 11 true, .sl 2 .bool Ax2_6_3 cx2_6_3 x2_6_3 12 true, .sl 0 k70 Al0_1 cl0_1 l0_1 0 false, .sl 0 k70 Al0_2 cl0_2 l0_2 0 false, .sl 0 .bool Al0_3 cl0_3 l0_3 0 false, .sl 2 k70 A65_11 c65_11 (x2_5_1 ++ ([(⟨(rd_T70 l0_1 x2_7).f0, (rd_T70 l0_1 x2_7).f1, (rd_T70 l0_1 x2_7).f2⟩ : S70)] : List S70)) 7 true, .sl 2 .bool A74_14 c74_14 ([rdOf false l0_3 x2_7] : List Bool) 13 true, .sl 2 .bool A75_15 c75_15 (x2_5_3 ++ ([rdOf false l0_3 x2_7] : List Bool)) 9 true]) (by kernel_rfl) (xs [0, 1, 2, 3, 4] [0, 1, 2, 3, 4, 5, 6, 7, 8, 9, 10, 11, 12, 13] rfl rfl rfl (one1 9 rfl rfl (ov (EV.fa 3 rfl) rfl (xn rfl (one1 10 rfl rfl (op_st (cs' := [.int .i64 x2_5_0, .slice A65_11 (x2_5_1 ++ ([(⟨(rd_T70 l0_1 x2_7).f0, (rd_T70 l0_1 x2_7).f1, (rd_T70 l0_1 x2_7).f2⟩ : S70)] : List S70)).length c65_11, .slice Ax2_5_2 x2_5_2.length cx2_5_2, .slice A75_15 (x2_5_3 ++ ([rdOf false l0_3 x2_7] : List Bool)).length c75_15, .int .i64 x2_5_4]) 3 rfl rfl rfl rfl rfl rfl (xn rfl (xd (pr [1, 2, 3, 5, 6, 7] [0, 1, 2, 3, 4] [0, 1, 2, 3, 4, 5, 6, 7, 8, 9, 10, 11, 12, 13, 15] rfl rfl rfl rfl (ge (rg (sv (EV.mv rfl) rfl (sv (EV.add rfl rfl) rfl (sv (EV.as rfl) rfl (re (wk [1, 2, 3, 5, 6, 7] [0, 1, 2, 3, 4] [⟨0, 2, 1, true⟩, ⟨1, 2, 2, true⟩, ⟨2, 2, 3, true⟩, ⟨3, 2, 4, true⟩, ⟨4, 2, 5, true⟩, ⟨5, 2, 6, true⟩, ⟨13, 2, 7, true⟩, ⟨6, 2, 8, true⟩, ⟨14, 2, 9, true⟩, ⟨7, 2, 10, true⟩, ⟨8, 2, 11, true⟩, ⟨9, 2, 12, true⟩, ⟨10, 0, 0, false⟩, ⟨11, 0, 0, false⟩, ⟨12, 0, 0, false⟩] (ih0 _ (by omega) _ ⟨wrap64 (x2_7 + 1), x2_1_0, x2_1_4, x2_2_0, x2_2_1, Ax2_2_1, cx2_2_1, x2_2_2, Ax2_2_2, cx2_2_2, x2_2_3, Ax2_2_3, cx2_2_3, x2_2_4, x2_3_0, x2_3_1, Ax2_3_1, cx2_3_1, x2_3_2, Ax2_3_2, cx2_3_2, x2_3_3, Ax2_3_3, cx2_3_3, x2_3_4, x2_5_0, x2_5_1 ++ ([(⟨(rd_T70 l0_1 x2_7).f0, (rd_T70 l0_1 x2_7).f1, (rd_T70 l0_1 x2_7).f2⟩ : S70)] : List S70), A65_11, c65_11, x2_5_2, Ax2_5_2, cx2_5_2, x2_5_3 ++ ([rdOf false l0_3 x2_7] : List Bool), A75_15, c75_15, x2_5_4, x2_6_0, x2_6_1, Ax2_6_1, cx2_6_1, x2_6_2, Ax2_6_2, cx2_6_2, x2_6_3, Ax2_6_3, cx2_6_3, x2_6_4, H, rfl⟩))))))))))))))))))))))))))))))
    ·
     refine gf rfl (dF c8) (gs ?_)
     revert H; refine ggI ?_; intro g16 H
     refine dr [0, 1, 2, 3, 4] [0, 1, 2, 3, 4, 5, 6, 7, 8, 10, 11, 12, 13, 14] [9, 10] 11 rfl rfl rfl rfl (xv 0 [0, 1, 2, 3, 4] [0, 1, 2, 3, 4, 5, 6, 7, 8, 10, 11, 12, 13, 14] rfl (EV.fa 1 rfl) rfl rfl rfl rfl (xv 1 [0, 1, 2, 3, 4] [0, 1, 2, 3, 4, 5, 6, 7, 8, 10, 11, 12, 13, 14] rfl (EV.ld 4 none rfl rfl rfl) rfl rfl rfl rfl (xv 2 [0, 1, 2, 3, 4] [0, 1, 2, 3, 4, 5, 6, 7, 8, 10, 11, 12, 13, 14] rfl (EV.fa 1 rfl) rfl rfl rfl rfl (xv 3 [0, 1, 2, 3, 4] [0, 1, 2, 3, 4, 5, 6, 7, 8, 10, 11, 12, 13, 14] rfl (EV.ld 0 none rfl rfl rfl) rfl rfl rfl rfl (xv 4 [0, 1, 2, 3, 4] [0, 1, 2, 3, 4, 5, 6, 7, 8, 10, 11, 12, 13, 14] rfl (EV.mv rfl) rfl rfl rfl rfl (xv 5 [0, 1, 2, 3, 4] [0, 1, 2, 3, 4, 5, 6, 7, 8, 10, 11, 12, 13, 14] rfl (EV.ix 11 rfl rfl rfl g6 c5 rfl) rfl rfl rfl rfl (xv 6 [0, 1, 2, 3, 4] [0, 1, 2, 3, 4, 5, 6, 7, 8, 10, 11, 12, 13, 14] rfl (EV.le (v := .agg #[.int .i64 ((rd_T70 l0_1 x2_7).f0), .int .i64 ((rd_T70 l0_1 x2_7).f1), .int .i64 ((rd_T70 l0_1 x2_7).f2)]) x2_7 0 (some 3) 11 z70 rfl rfl rfl g6 c5 rfl rfl rfl) rfl rfl rfl rfl (one1 7 rfl rfl (op_lit (s := 3) (by_ := 24) k70 ([(⟨(rd_T70 l0_1 x2_7).f0, (rd_T70 l0_1 x2_7).f1, (rd_T70 l0_1 x2_7).f2⟩ : S70)] : List S70) [[]] [] 13 [.tmp 83] rfl rfl rfl rfl rfl rfl rfl rfl rfl rfl rfl rfl rfl dq rfl fun A84_17 c84_17 => (xs [0, 1, 2, 3, 4] [0, 1, 2, 3, 4, 5, 6, 7, 8, 10, 11, 12, 13, 14] rfl rfl rfl (one1 8 rfl rfl (op_app (k := k70) (s := 3) (by_ := 24) 9 15 rfl rfl rfl rfl (ap1 g16 dq) (ap1n g16 dq) (.inl rfl) true (fun _ => .inl rfl) rfl rfl fun A85_18 c85_18 => (nmE (en := [.sl 2 k70 Ax2_2_1 cx2_2_1 x2_2_1 1 true, .sl 2 k70 Ax2_2_2 cx2_2_2 x2_2_2 2 true, .sl 2 .bool Ax2_2_3 cx2_2_3 x2_2_3 3 true, .sl 2 k70 Ax2_3_1 cx2_3_1 x2_3_1 4 true, .sl 2 k70 Ax2_3_2 cx2_3_2 x2_3_2 5 true, .sl 2 .bool Ax2_3_3 cx2_3_3 x2_3_3 6 true, .sl 2 k70 Ax2_5_1 cx2_5_1 x2_5_1 7 true, .sl 2 k70 Ax2_5_2 cx2_5_2 x2_5_2 8 true, .sl 2 .bool Ax2_5_3 cx2_5_3 x2_5_3 9 true, .sl 2 k70 Ax2_6_2 cx2_6_2 x2_6_2 11 true, .sl 2 .bool Ax2_6_3 cx2_6_3 x2_6_3 12 true, .sl 0 k70 Al0_1 cl0_1 l0_1 0 false, .sl 0 k70 Al0_2 cl0_2 l0_2 0 false, .sl 0 .bool Al0_3 cl0_3 l0_3 0 false, .sl 2 k70 A84_17 c84_17 ([(⟨(rd_T70 l0_1 x2_7).f0, (rd_T70 l0_1 x2_7).f1, (rd_T70 l0_1 x2_7).f2⟩ : S70)] : List S70) 13 true, .sl 2 k70 A85_18 c85_18 (x2_6_1 ++ ([(⟨(rd_T70 l0_1 x2_7).f0, (rd_T70 l0_1 x2_7).f1, (rd_T70 l0_1 x2_7).f2⟩ : S70)] : List S70)) 10 true]) (by kernel_rfl) (xs [0, 1, 2, 3, 4] [0, 1, 2, 3, 4, 5, 6, 7, 8, 9, 10, 11, 12, 13] rfl rfl rfl (one1 9 rfl rfl (ov (EV.fa 1 rfl) rfl (xn rfl (one1 10 rfl rfl (op_st (cs' := [.int .i64 x2_6_0, .slice A85_18 (x2_6_1 ++ ([(⟨(rd_T70 l0_1 x2_7).f0, (rd_T70 l0_1 x2_7).f1, (rd_T70 l0_1 x2_7).f2⟩ : S70)] : List S70)).length c85_18, .slice Ax2_6_2 x2_6_2.length cx2_6_2, .slice Ax2_6_3 x2_6_3.length cx2_6_3, .int .i64 x2_6_4]) 4 rfl rfl rfl rfl rfl rfl (xn rfl (xd (pr [1, 2, 3, 5, 6, 7] [0, 1, 2, 3, 4] [0, 1, 2, 3, 4, 5, 6, 7, 8, 9, 10, 11, 12, 13, 15] rfl rfl rfl rfl ?_))))))))))))))))))))))
     revert H; refine ggI ?_; intro g19 H
     revert H; refine ggI ?_; intro g20 H
     exact dr [0, 1, 2, 3, 4] [0, 1, 2, 3, 4, 5, 6, 7, 8, 9, 11, 12, 13, 14] [9, 10] 11 rfl rfl rfl rfl (xv 0 [0, 1, 2, 3, 4] [0, 1, 2, 3, 4, 5, 6, 7, 8, 9, 11, 12, 13, 14] rfl (EV.fa 3 rfl) rfl rfl rfl rfl (xv 1 [0, 1, 2, 3, 4] [0, 1, 2, 3, 4, 5, 6, 7, 8, 9, 11, 12, 13, 14] rfl (EV.ld 4 none rfl rfl rfl) rfl rfl rfl rfl (xv 2 [0, 1, 2, 3, 4] [0, 1, 2, 3, 4, 5, 6, 7, 8, 9, 11, 12, 13, 14] rfl (EV.fa 3 rfl) rfl rfl rfl rfl (xv 3 [0, 1, 2, 3, 4] [0, 1, 2, 3, 4, 5, 6, 7, 8, 9, 11, 12, 13, 14] rfl (EV.ld 0 none rfl rfl rfl) rfl rfl rfl rfl (xv 4 [0, 1, 2, 3, 4] [0, 1, 2, 3, 4, 5, 6, 7, 8, 9, 11, 12, 13, 14] rfl (EV.mv rfl) rfl rfl rfl rfl (xv 5 [0, 1, 2, 3, 4] [0, 1, 2, 3, 4, 5, 6, 7, 8, 9, 11, 12, 13, 14] rfl (EV.ix 12 rfl rfl rfl g6 g19 rfl) rfl rfl rfl rfl (xv 6 [0, 1, 2, 3, 4] [0, 1, 2, 3, 4, 5, 6, 7, 8, 9, 11, 12, 13, 14] rfl (EV.le (v := .bool (rdOf false l0_3 x2_7)) x2_7 0 none 12 false rfl rfl rfl g6 g19 rfl rfl rfl) rfl rfl rfl rfl (one1 7 rfl rfl (op_lit (s := 1) (by_ := 1) .bool ([rdOf false l0_3 x2_7] : List Bool) [[]] [] 13 [.tmp 93] rfl rfl rfl rfl rfl rfl rfl rfl rfl rfl rfl rfl rfl dq rfl fun A94_21 c94_21 => (xs [0, 1, 2, 3, 4] [0, 1, 2, 3, 4, 5, 6, 7, 8, 9, 11, 12, 13, 14] rfl rfl rfl (one1 8 rfl rfl (op_app (k := .bool) (s := 1) (by_ := 1) 10 15 rfl rfl rfl rfl (ap1 g20 dq) (ap1n g20 dq) (.inl rfl) true (fun _ => .inl rfl) rfl rfl fun A95_22 c95_22 => (nmE (en := [.sl 2 k70 Ax2_2_1 cx2_2_1 x2_2_1 1 true, .sl 2 k70 Ax2_2_2 cx2_2_2 x2_2_2 2 true, .sl 2 .bool Ax2_2_3 cx2_2_3 x2_2_3 3 true, .sl 2 k70 Ax2_3_1 cx2_3_1 x2_3_1 4 true, .sl 2 k70 Ax2_3_2 cx2_3_2 x2_3_2 5 true, .sl 2 .bool Ax2_3_3 cx2_3_3 x2_3_3 6 true, .sl 2 k70 Ax2_5_1 cx2_5_1 x2_5_1 7 true, .sl 2 k70 Ax2_5_2 cx2_5_2 x2_5_2 8 true, .sl 2 .bool Ax2_5_3 cx2_5_3 x2_5_3 9 true, .sl 2 k70 Ax2_6_2 cx2_6_2 x2_6_2 11 true, .sl 0 k70 Al0_1 cl0_1 l0_1 0 false, .sl 0 k70 Al0_2 cl0_2 l0_2 0 false, .sl 0 .bool Al0_3 cl0_3 l0_3 0 false, .sl 2 k70 A85_18 c85_18 (x2_6_1 ++ ([(⟨(rd_T70 l0_1 x2_7).f0, (rd_T70 l0_1 x2_7).f1, (rd_T70 l0_1 x2_7).f2⟩ : S70)] : List S70)) 10 true, .sl 2 .bool A94_21 c94_21 ([rdOf false l0_3 x2_7] : List Bool) 13 true, .sl 2 .bool A95_22 c95_22 (x2_6_3 ++ ([rdOf false l0_3 x2_7] : List Bool)) 12 true]) (by kernel_rfl) (xs [0, 1, 2, 3, 4] [0, 1, 2, 3, 4, 5, 6, 7, 8, 9, 10, 11, 12, 13] rfl rfl rfl (one1 9 rfl rfl (ov (EV.fa 3 rfl) rfl (xn rfl (one1 10 rfl rfl (op_st (cs' := [.int .i64 x2_6_0, .slice A85_18 (x2_6_1 ++ ([(⟨(rd_T70 l0_1 x2_7).f0, (rd_T70 l0_1 x2_7).f1, (rd_T70 l0_1 x2_7).f2⟩ : S70)] : List S70)).length c85_18, .slice Ax2_6_2 x2_6_2.length cx2_6_2, .slice A95_22 (x2_6_3 ++ ([rdOf false l0_3 x2_7] : List Bool)).length c95_22, .int .i64 x2_6_4]) 4 rfl rfl rfl rfl rfl rfl (xn rfl (xd (pr [1, 2, 3, 5, 6, 7] [0, 1, 2, 3, 4] [0, 1, 2, 3, 4, 5, 6, 7, 8, 9, 10, 11, 12, 13, 15] rfl rfl rfl rfl (ge (rg (sv (EV.mv rfl) rfl (sv (EV.add rfl rfl) rfl (sv (EV.as rfl) rfl (re (wk [1, 2, 3, 5, 6, 7] [0, 1, 2, 3, 4] [⟨0, 2, 1, true⟩, ⟨1, 2, 2, true⟩, ⟨2, 2, 3, true⟩, ⟨3, 2, 4, true⟩, ⟨4, 2, 5, true⟩, ⟨5, 2, 6, true⟩, ⟨6, 2, 7, true⟩, ⟨7, 2, 8, true⟩, ⟨8, 2, 9, true⟩, ⟨13, 2, 10, true⟩, ⟨9, 2, 11, true⟩, ⟨14, 2, 12, true⟩, ⟨10, 0, 0, false⟩, ⟨11, 0, 0, false⟩, ⟨12, 0, 0, false⟩] (ih0 _ (by omega) _ ⟨wrap64 (x2_7 + 1), x2_1_0, x2_1_4, x2_2_0, x2_2_1, Ax2_2_1, cx2_2_1, x2_2_2, Ax2_2_2, cx2_2_2, x2_2_3, Ax2_2_3, cx2_2_3, x2_2_4, x2_3_0, x2_3_1, Ax2_3_1, cx2_3_1, x2_3_2, Ax2_3_2, cx2_3_2, x2_3_3, Ax2_3_3, cx2_3_3, x2_3_4, x2_5_0, x2_5_1, Ax2_5_1, cx2_5_1, x2_5_2, Ax2_5_2, cx2_5_2, x2_5_3, Ax2_5_3, cx2_5_3, x2_5_4, x2_6_0, x2_6_1 ++ ([(⟨(rd_T70 l0_1 x2_7).f0, (rd_T70 l0_1 x2_7).f1, (rd_T70 l0_1 x2_7).f2⟩ : S70)] : List S70), A85_18, c85_18, x2_6_2, Ax2_6_2, cx2_6_2, x2_6_3 ++ ([rdOf false l0_3 x2_7] : List Bool), A95_22, c95_22, x2_6_4, H, rfl⟩))))))))))))))))))))))))))))))
   ·
    refine gf rfl (dF c5) (gx rfl (gs (dr [0, 2, 3, 4] [0, 1, 2, 3, 4, 5, 6, 7, 8, 9, 10, 11, 12, 13, 14] [3, 4] 5 rfl rfl rfl rfl (xv 0 [0, 2, 3, 4] [0, 1, 2, 3, 4, 5, 6, 7, 8, 9, 10, 11, 12, 13, 14] rfl (EV.ld (v := .agg #[.int .i64 x2_5_0, .slice Ax2_5_1 x2_5_1.length cx2_5_1, .slice Ax2_5_2 x2_5_2.length cx2_5_2, .slice Ax2_5_3 x2_5_3.length cx2_5_3, .int .i64 x2_5_4]) 2 (some 5) rfl rfl rfl) rfl rfl rfl rfl (xv 1 [0, 2, 3, 4] [0, 1, 2, 3, 4, 5, 6, 7, 8, 9, 10, 11, 12, 13, 14] rfl (EV.ld (v := .agg #[.int .i64 x2_6_0, .slice Ax2_6_1 x2_6_1.length cx2_6_1, .slice Ax2_6_2 x2_6_2.length cx2_6_2, .slice Ax2_6_3 x2_6_3.length cx2_6_3, .int .i64 x2_6_4]) 3 (some 5) rfl rfl rfl) rfl rfl rfl rfl (one1 2 rfl rfl (op_st (cs' := [.int .i64 x2_5_0, .slice Ax2_5_1 x2_5_1.length cx2_5_1, .slice Ax2_5_2 x2_5_2.length cx2_5_2, .slice Ax2_5_3 x2_5_3.length cx2_5_3, .int .i64 x2_5_4]) 1 rfl rfl rfl rfl rfl rfl (xs [0, 2, 3, 4] [0, 1, 2, 3, 4, 5, 6, 7, 8, 9, 10, 11, 12, 13, 14] rfl rfl rfl (one1 3 rfl rfl (op_st (cs' := [.int .i64 x2_6_0, .slice Ax2_6_1 x2_6_1.length cx2_6_1, .slice Ax2_6_2 x2_6_2.length cx2_6_2, .slice Ax2_6_3 x2_6_3.length cx2_6_3, .int .i64 x2_6_4]) 2 rfl rfl rfl rfl rfl rfl (xn rfl (one1 4 rfl rfl (ov (EV.as rfl) rfl (xn rfl (xd (pr [2, 3, 4] [1, 2] [6, 7, 8, 9, 10, 11] rfl rfl rfl rfl ?_))))))))))))))))
    cases H
    exact rt Try.func43 rfl (.cell 0 (some 5) rfl rfl rfl (.cell 1 (some 5) rfl rfl rfl (.tmp rfl .nil))) rfl [] [⟨0, 2, 1, true⟩, ⟨1, 2, 2, true⟩, ⟨2, 2, 3, true⟩, ⟨3, 2, 4, true⟩, ⟨4, 2, 5, true⟩, ⟨5, 2, 6, true⟩] rfl rfl rfl rfl rfl ⟨_, _, _, _, _, _, _, _, _, _, _, _, rfl, rfl, rfl⟩
 ·
  obtain rfl := bF c2
  refine ts 11 rfl rfl (sk rfl (sk rfl (sk rfl (sv (EV.pt rfl rfl rfl) rfl (re (pr [1, 2, 3, 15] [0, 1, 2] [0, 1, 2] rfl rfl rfl rfl (gt rfl rfl (gs (rg (sv (EV.bd (v := .agg #[.int .i64 0, .slice none 0 0, .slice none 0 0, .slice none 0 0, .int .i64 0]) rfl (by kernel_rfl)) rfl (sv (EV.bd (v := .agg #[.int .i64 0, .slice none 0 0, .slice none 0 0, .slice none 0 0, .int .i64 0]) rfl (by kernel_rfl)) rfl (so rfl (op_st (cs' := [.int .i64 0, .slice none 0 0, .slice none 0 0, .slice none 0 0, .int .i64 0]) 1 rfl rfl rfl rfl rfl rfl (so rfl (op_st (cs' := [.int .i64 0, .slice none 0 0, .slice none 0 0, .slice none 0 0, .int .i64 0]) 2 rfl rfl rfl rfl rfl rfl (sv (EV.as rfl) rfl (re (nil_ k70 1 dq (nil_ k70 2 dq (nil_ .bool 3 dq (nil_ k70 4 dq (nil_ k70 5 dq (nil_ .bool 6 dq ?_)))))))))))))))))))))))
  cases H
  exact rt Try.func43 rfl (.cell 1 (some 5) rfl rfl rfl (.cell 2 (some 5) rfl rfl rfl (.tmp rfl .nil))) rfl [] [⟨3, 2, 1, true⟩, ⟨4, 2, 2, true⟩, ⟨5, 2, 3, true⟩, ⟨6, 2, 4, true⟩, ⟨7, 2, 5, true⟩, ⟨8, 2, 6, true⟩] rfl rfl rfl rfl rfl ⟨_, _, _, _, _, _, _, _, _, _, _, _, rfl, rfl, rfl⟩
end Go.Proofs.Ytajjeemkdjfilaa.K
namespace Go.Proofs.Ytajjeemkdjfilaa.K
open Go Go.RowKit
set_option linter.unusedVariables false
set_option linter.unusedSimpArgs false
def spec_AllSameKey.l0 : Nat → Int → (List S70) → Option (Bool)
 | 0, _, _ => none
 | k + 1, x2_3, l0 => if x2_3 < (l0.length : Int) then (if 0 ≤ x2_3 then (if 0 < (l0.length : Int) then (if ((rd_T70 l0 x2_3).f0) = ((rd_T70 l0 0).f0) then (spec_AllSameKey.l0 k (wrap64 (x2_3 + 1)) l0) else (some false)) else none) else none) else (some true)
def spec_AllSameKey.f (k : Nat) (l0 : List S70) : Option (Bool) := spec_AllSameKey.l0 k 1 l0
set_option maxHeartbeats 4000000 in
set_option maxRecDepth 100000 in
theorem spec_AllSameKey.ok (k : Nat) (l0 : List S70) (Al0 : Option Addr) (cl0 : Nat) (r0 : Bool) (H : spec_AllSameKey.f k l0 = some r0) : Fn Try.prog 96 [.slice Al0 l0.length cl0] [] [.sl 0 k70 Al0 cl0 l0 0 false] (fun v bx en => v = .bool r0 ∧ bx = [] ∧ en = []) := by
 refine fn_ 20 Try.func96 rfl rfl rfl (fun base T w0 => ?_)
 rw [spec_AllSameKey.f] at H
 refine gs (rg (sv (EV.as rfl) rfl (re (gs (gs (rg (sv (EV.as rfl) rfl (re (gb ?_)))))))))
 refine lo (fun kk S => ∃ (x2_3 : Int), spec_AllSameKey.l0 kk x2_3 l0 = some r0 ∧ S = ⟨[(0, .slice Al0 l0.length cl0), (3, .int .i64 x2_3)], [], [.sl 0 k70 Al0 cl0 l0 0 false]⟩) (fun S hS => ?_) (fun n0 ih0 S hS => ?_) ⟨1, H, rfl⟩ (fun h => wk [0, 3] [] [⟨0, 0, 0, false⟩] h)
 · clear H; obtain ⟨_, H, _⟩ := hS; rw [spec_AllSameKey.l0] at H; cases H
 clear H
 obtain ⟨x2_3, H, rfl⟩ := hS
 rw [spec_AllSameKey.l0] at H
 refine gs (gs (rg (sv (EV.mv rfl) rfl (sv (EV.mv rfl) rfl (sv (EV.ln rfl) rfl (sv (EV.lss rfl rfl) rfl (re ?_)))))))
 revert H; refine ifsI ?_ ?_ <;> intro c1 H
 ·
  refine gt rfl (dT c1) (gk (gs (gb (gs ?_))))
  revert H; refine ggI ?_; intro g2 H
  revert H; refine ggI ?_; intro g3 H
  refine dr [] [0] [] 10 rfl rfl rfl rfl (xv 0 [] [0] rfl (EV.mv rfl) rfl rfl rfl rfl (xv 1 [] [0] rfl (EV.mv rfl) rfl rfl rfl rfl (xv 2 [] [0] rfl (EV.ix 0 rfl rfl rfl g2 c1 rfl) rfl rfl rfl rfl (xv 3 [] [0] rfl (EV.fa 0 rfl) rfl rfl rfl rfl (xv 4 [] [0] rfl (EV.le (v := .int .i64 ((rd_T70 l0 x2_3).f0)) x2_3 0 none 0 z70 rfl rfl rfl g2 c1 rfl rfl rfl) rfl rfl rfl rfl (xv 5 [] [0] rfl (EV.mv rfl) rfl rfl rfl rfl (xv 6 [] [0] rfl (EV.ix 0 rfl rfl rfl dq g3 rfl) rfl rfl rfl rfl (xv 7 [] [0] rfl (EV.fa 0 rfl) rfl rfl rfl rfl (xv 8 [] [0] rfl (EV.le (v := .int .i64 ((rd_T70 l0 0).f0)) 0 0 none 0 z70 rfl rfl rfl dq g3 rfl rfl rfl) rfl rfl rfl rfl (xv 9 [] [0] rfl (EV.neq rfl rfl) rfl rfl rfl rfl (xd (pr [0, 3, 19] [] [0] rfl rfl rfl rfl ?_))))))))))))
  revert H; refine ifsI ?_ ?_ <;> intro c4 H
  ·
   exact gf rfl (nF c4) (gk (ge (rg (sv (EV.mv rfl) rfl (sv (EV.add rfl rfl) rfl (sv (EV.as rfl) rfl (re (wk [0, 3] [] [⟨0, 0, 0, false⟩] (ih0 _ (by omega) _ ⟨wrap64 (x2_3 + 1), H, rfl⟩)))))))))
  ·
   refine gt rfl (nT c4) (gs (rg (sv (EV.as rfl) rfl (re ?_))))
   cases H
   exact rt Try.func96 rfl (.tmp rfl .nil) rfl [] [] rfl rfl rfl rfl rfl ⟨rfl, rfl, rfl⟩
 ·
  refine gf rfl (dF c1) (gx rfl (gs (rg (sv (EV.as rfl) rfl (re (pr [2] [] [] rfl rfl rfl rfl ?_))))))
  cases H
  exact rt Try.func96 rfl (.tmp rfl .nil) rfl [] [] rfl rfl rfl rfl rfl ⟨rfl, rfl, rfl⟩
end Go.Proofs.Ytajjeemkdjfilaa.K
namespace Go.Proofs.Ytajjeemkdjfilaa.K
open Go Go.RowKit
set_option linter.unusedVariables false
set_option linter.unusedSimpArgs false
def spec_NeedsNestedLoop.f (k : Nat) (a0_0 : Int) (l0_1 : List S70) (l0_2 : List S70) (l0_3 : List Bool) (a0_4 : Int) : Option (Bool) := if a0_4 ≥ 4 then (some true) else ((spec_AllSameKey.f k l0_2).bind fun t2 => (some t2))
set_option maxHeartbeats 4000000 in
set_option maxRecDepth 100000 in
theorem spec_NeedsNestedLoop.ok (k : Nat) (a0_0 : Int) (l0_1 : List S70) (Al0_1 : Option Addr) (cl0_1 : Nat) (l0_2 : List S70) (Al0_2 : Option Addr) (cl0_2 : Nat) (l0_3 : List Bool) (Al0_3 : Option Addr) (cl0_3 : Nat) (a0_4 : Int) (r0 : Bool) (H : spec_NeedsNestedLoop.f k a0_0 l0_1 l0_2 l0_3 a0_4 = some r0) : Fn Try.prog 47 [.agg #[.int .i64 a0_0, .slice Al0_1 l0_1.length cl0_1, .slice Al0_2 l0_2.length cl0_2, .slice Al0_3 l0_3.length cl0_3, .int .i64 a0_4]] [] [.sl 0 k70 Al0_1 cl0_1 l0_1 0 false, .sl 0 k70 Al0_2 cl0_2 l0_2 0 false, .sl 0 .bool Al0_3 cl0_3 l0_3 0 false] (fun v bx en => v = .bool r0 ∧ bx = [] ∧ en = []) := by
 refine fn_ 11 Try.func47 rfl rfl rfl (fun base T w0 => ?_)
 rw [spec_NeedsNestedLoop.f] at H
 refine gs (rg (so rfl (op_box (cs := [.int .i64 a0_0, .slice Al0_1 l0_1.length cl0_1, .slice Al0_2 l0_2.length cl0_2, .slice Al0_3 l0_3.length cl0_3, .int .i64 a0_4]) rfl rfl rfl fun b1 => (sv (EV.as rfl) rfl (re (gs (rg (sv (EV.fa 4 rfl) rfl (sv (EV.ld 0 none rfl rfl rfl) rfl (sv (EV.geq rfl rfl) rfl (sv (EV.mv rfl) rfl ?_)))))))))))
 revert H; refine ifsI ?_ ?_ <;> intro c1 H
 ·
  refine ts 6 rfl (dT c1) (sk rfl (sk rfl (sk rfl (sv (EV.pt rfl rfl rfl) rfl (sv (EV.as rfl) rfl (re (pr [2] [] [] rfl rfl rfl rfl ?_)))))))
  cases H
  exact rt Try.func47 rfl (.tmp rfl .nil) rfl [] [] rfl rfl rfl rfl rfl ⟨rfl, rfl, rfl⟩
 ·
  refine ts 6 rfl (dF c1) (sv (EV.fa 2 rfl) rfl (sv (EV.ld 0 none rfl rfl rfl) rfl ?_))
  revert H; refine bdI ?_; rintro t2 A2 H
  refine so rfl (op_call (spec_AllSameKey.ok k l0_2 Al0_2 cl0_2 _ A2) [⟨1, 0, 0, false⟩] 1 rfl rfl rfl rfl rfl ?_)
  rintro _ _ _ ⟨rfl, rfl, rfl⟩
  refine sv (EV.pf rfl rfl rfl) rfl (sv (EV.as rfl) rfl (re (pr [2] [] [] rfl rfl rfl rfl ?_)))
  cases H
  exact rt Try.func47 rfl (.tmp rfl .nil) rfl [] [] rfl rfl rfl rfl rfl ⟨rfl, rfl, rfl⟩
end Go.Proofs.Ytajjeemkdjfilaa.K
namespace Go.Proofs.Ytajjeemkdjfilaa.K
open Go Go.RowKit
set_option linter.unusedVariables false
set_option linter.unusedSimpArgs false
def spec_TaskCost.f (k : Nat) (a0_0 : Int) (l0_1 : List S70) (l0_2 : List S70) (l0_3 : List Bool) (a0_4 : Int) : Option (Int) := (spec_TotalCost.f k l0_1).bind fun t1 => ((spec_TotalCost.f k l0_2).bind fun t2 => (some (wrap64 (t1 + t2))))
set_option maxHeartbeats 4000000 in
set_option maxRecDepth 100000 in
theorem spec_TaskCost.ok (k : Nat) (a0_0 : Int) (l0_1 : List S70) (Al0_1 : Option Addr) (cl0_1 : Nat) (l0_2 : List S70) (Al0_2 : Option Addr) (cl0_2 : Nat) (l0_3 : List Bool) (Al0_3 : Option Addr) (cl0_3 : Nat) (a0_4 : Int) (r0 : Int) (H : spec_TaskCost.f k a0_0 l0_1 l0_2 l0_3 a0_4 = some r0) : Fn Try.prog 51 [.agg #[.int .i64 a0_0, .slice Al0_1 l0_1.length cl0_1, .slice Al0_2 l0_2.length cl0_2, .slice Al0_3 l0_3.length cl0_3, .int .i64 a0_4]] [] [.sl 0 k70 Al0_1 cl0_1 l0_1 0 false, .sl 0 k70 Al0_2 cl0_2 l0_2 0 false, .sl 0 .bool Al0_3 cl0_3 l0_3 0 false] (fun v bx en => v = .int .i64 r0 ∧ bx = [] ∧ en = []) := by
 refine fn_ 10 Try.func51 rfl rfl rfl (fun base T w0 => ?_)
 rw [spec_TaskCost.f] at H
 refine gs (rg (so rfl (op_box (cs := [.int .i64 a0_0, .slice Al0_1 l0_1.length cl0_1, .slice Al0_2 l0_2.length cl0_2, .slice Al0_3 l0_3.length cl0_3, .int .i64 a0_4]) rfl rfl rfl fun b1 => (sv (EV.as rfl) rfl (re (gs (dr [0] [0, 1, 2] [] 8 rfl rfl rfl rfl (xv 0 [0] [0, 1, 2] rfl (EV.fa 1 rfl) rfl rfl rfl rfl (xv 1 [0] [0, 1, 2] rfl (EV.ld 0 none rfl rfl rfl) rfl rfl rfl rfl (xv 3 [0] [0, 1, 2] rfl (EV.fa 2 rfl) rfl rfl rfl rfl (xv 4 [0] [0, 1, 2] rfl (EV.ld 0 none rfl rfl rfl) rfl rfl rfl rfl (one1 2 rfl rfl ?_))))))))))))
 revert H; refine bdI ?_; rintro t1 A1 H
 refine op_call (spec_TotalCost.ok k l0_1 Al0_1 cl0_1 _ A1) [⟨0, 0, 0, false⟩] 1 rfl rfl rfl rfl rfl ?_
 rintro _ _ _ ⟨rfl, rfl, rfl⟩
 refine xs [0] [0, 1, 2] rfl rfl rfl (one1 5 rfl rfl ?_)
 revert H; refine bdI ?_; rintro t2 A2 H
 refine op_call (spec_TotalCost.ok k l0_2 Al0_2 cl0_2 _ A2) [⟨1, 0, 0, false⟩] 1 rfl rfl rfl rfl rfl ?_
 rintro _ _ _ ⟨rfl, rfl, rfl⟩
 refine xs [0] [0, 1, 2] rfl rfl rfl (xv 6 [0] [0, 1, 2] rfl (EV.add rfl rfl) rfl rfl rfl rfl (xv 7 [0] [0, 1, 2] rfl (EV.as rfl) rfl rfl rfl rfl (xd (pr [2] [] [] rfl rfl rfl rfl ?_))))
 cases H
 exact rt Try.func51 rfl (.tmp rfl .nil) rfl [] [] rfl rfl rfl rfl rfl ⟨rfl, rfl, rfl⟩
end Go.Proofs.Ytajjeemkdjfilaa.K
namespace Go.Proofs.Ytajjeemkdjfilaa.K
open Go Go.RowKit
set_option linter.unusedVariables false
set_option linter.unusedSimpArgs false
def spec_IsValidJoiner.l0 : Nat → Int → Int → Int → Int → Int → (List S44) → Option (Bool)
 | 0, _, _, _, _, _, _ => none
 | k + 1, x2_3, x2_4, x2_5, x2_1_1, x2_1_2, l0_0 => if x2_5 < (l0_0.length : Int) then (if 0 ≤ x2_5 then ((spec_IsValidTask.f k ((rd_T44 l0_0 x2_5).f0) ((rd_T44 l0_0 x2_5).f1) ((rd_T44 l0_0 x2_5).f2) ((rd_T44 l0_0 x2_5).f3) ((rd_T44 l0_0 x2_5).f4)).bind fun t6 => (if t6 = true then (if 0 < (l0_0.length : Int) then (if ((rd_T44 l0_0 x2_5).f0) = ((rd_T44 l0_0 0).f0) then (spec_IsValidJoiner.l0 k (wrap64 (x2_3 + (((rd_T44 l0_0 x2_5).f1).length : Int))) (wrap64 (x2_4 + (((rd_T44 l0_0 x2_5).f2).length : Int))) (wrap64 (x2_5 + 1)) x2_1_1 x2_1_2 l0_0) else (some false)) else none) else (some false))) else none) else (if x2_3 ≤ 24 then (if x2_4 ≤ 24 then (if (l0_0.length : Int) ≤ 40 then ((spec_l1In.f x2_1_1 0 100000).bind fun t19 => (if t19 = true then ((spec_l1In.f x2_1_2 0 1000).bind fun t21 => (some t21)) else (some false))) else (some false)) else (some false)) else (some false))
def spec_IsValidJoiner.f (k : Nat) (l0_0 : List S44) (a0_1 : Int) (a0_2 : Int) : Option (Bool) := spec_IsValidJoiner.l0 k 0 0 0 a0_1 a0_2 l0_0
set_option maxHeartbeats 4000000 in
set_option maxRecDepth 100000 in
theorem spec_IsValidJoiner.ok (k : Nat) (l0_0 : List S44) (Al0_0 : Option Addr) (cl0_0 : Nat) (a0_1 : Int) (a0_2 : Int) (r0 : Bool) (H : spec_IsValidJoiner.f k l0_0 a0_1 a0_2 = some r0) : Fn Try.prog 58 [.agg #[.slice Al0_0 l0_0.length cl0_0, .int .i64 a0_1, .int .i64 a0_2]] [] [.sl 0 k44 Al0_0 cl0_0 l0_0 0 false] (fun v bx en => v = .bool r0 ∧ bx = [] ∧ en = []) := by
 refine fn_ 74 Try.func58 rfl rfl rfl (fun base T w0 => ?_)
 rw [spec_IsValidJoiner.f] at H
 refine gs (rg (so rfl (op_box (cs := [.slice Al0_0 l0_0.length cl0_0, .int .i64 a0_1, .int .i64 a0_2]) rfl rfl rfl fun b1 => (sv (EV.as rfl) rfl (re (gs (rg (sv (EV.as rfl) rfl (re (gs (rg (sv (EV.as rfl) rfl (re (gs (gs (rg (sv (EV.as rfl) rfl (re (gb ?_)))))))))))))))))))
 refine lo (fun kk S => ∃ (x2_3 : Int) (x2_4 : Int) (x2_5 : Int) (x2_1_1 : Int) (x2_1_2 : Int), spec_IsValidJoiner.l0 kk x2_3 x2_4 x2_5 x2_1_1 x2_1_2 l0_0 = some r0 ∧ S = ⟨[(1, .pointer (some ⟨b1, 0, none⟩)), (3, .int .i64 x2_3), (4, .int .i64 x2_4), (5, .int .i64 x2_5)], [⟨b1, 73, [.slice Al0_0 l0_0.length cl0_0, .int .i64 x2_1_1, .int .i64 x2_1_2]⟩], [.sl 0 k44 Al0_0 cl0_0 l0_0 0 false]⟩) (fun S hS => ?_) (fun n0 ih0 S hS => ?_) ⟨0, 0, 0, a0_1, a0_2, H, rfl⟩ (fun h => wk [1, 3, 4, 5] [0] [⟨0, 0, 0, false⟩] h)
 · clear H; obtain ⟨_, _, _, _, _, H, _⟩ := hS; rw [spec_IsValidJoiner.l0] at H; cases H
 clear H
 obtain ⟨x2_3, x2_4, x2_5, x2_1_1, x2_1_2, H, rfl⟩ := hS
 rw [spec_IsValidJoiner.l0] at H
 refine gs (gs (rg (sv (EV.mv rfl) rfl (sv (EV.fa 0 rfl) rfl (sv (EV.ld 0 none rfl rfl rfl) rfl (sv (EV.ln rfl) rfl (sv (EV.lss rfl rfl) rfl (re ?_))))))))
 revert H; refine ifsI ?_ ?_ <;> intro c1 H
 ·
  refine gt rfl (dT c1) (gk (gs (gb (gs (gs ?_)))))
  revert H; refine ggI ?_; intro g2 H
  refine opn (i := x2_5) 0 z44 rfl g2 c1 fun A_3 c_3 A_4 c_4 A_5 c_5 => (dr [0] [0, 1, 2, 3, 4] [] 21 rfl rfl rfl rfl (xv 0 [0] [0, 1, 2, 3, 4] rfl (EV.fa 0 rfl) rfl rfl rfl rfl (xv 1 [0] [0, 1, 2, 3, 4] rfl (EV.ld 0 none rfl rfl rfl) rfl rfl rfl rfl (xv 2 [0] [0, 1, 2, 3, 4] rfl (EV.mv rfl) rfl rfl rfl rfl (xv 3 [0] [0, 1, 2, 3, 4] rfl (EV.ix 0 rfl rfl rfl g2 c1 rfl) rfl rfl rfl rfl (xv 4 [0] [0, 1, 2, 3, 4] rfl (EV.lc (v := .agg #[.int .i64 ((rd_T44 l0_0 x2_5).f0), .slice A_3 ((rd_T44 l0_0 x2_5).f1).length c_3, .slice A_4 ((rd_T44 l0_0 x2_5).f2).length c_4, .slice A_5 ((rd_T44 l0_0 x2_5).f3).length c_5, .int .i64 ((rd_T44 l0_0 x2_5).f4)]) 0 (some 5) 1 rfl rfl rfl rfl) rfl rfl rfl rfl (one1 5 rfl rfl ?_)))))))
  revert H; refine bdI ?_; rintro t6 A6 H
  refine op_call (spec_IsValidTask.ok n0 ((rd_T44 l0_0 x2_5).f0) ((rd_T44 l0_0 x2_5).f1) A_3 c_3 ((rd_T44 l0_0 x2_5).f2) A_4 c_4 ((rd_T44 l0_0 x2_5).f3) A_5 c_5 ((rd_T44 l0_0 x2_5).f4) _ A6) [⟨2, 0, 0, false⟩, ⟨3, 0, 0, false⟩, ⟨4, 0, 0, false⟩] 1 rfl rfl rfl rfl rfl ?_
  rintro _ _ _ ⟨rfl, rfl, rfl⟩
  refine xs [0] [0, 1, 2, 3, 4] rfl rfl rfl (xv 6 [0] [0, 1, 2, 3, 4] rfl (EV.nt rfl) rfl rfl rfl rfl (xv 7 [0] [0, 1, 2, 3, 4] rfl (EV.mv rfl) rfl rfl rfl rfl ?_))
  revert H; refine ifsI ?_ ?_ <;> intro c7 H
  ·
   subst c7
   refine ts 20 rfl rfl (xv 8 [0] [0, 1, 2, 3, 4] rfl (EV.fa 0 rfl) rfl rfl rfl rfl (xv 9 [0] [0, 1, 2, 3, 4] rfl (EV.ld 0 none rfl rfl rfl) rfl rfl rfl rfl (xv 10 [0] [0, 1, 2, 3, 4] rfl (EV.mv rfl) rfl rfl rfl rfl (xv 11 [0] [0, 1, 2, 3, 4] rfl (EV.ix 0 rfl rfl rfl g2 c1 rfl) rfl rfl rfl rfl (xv 12 [0] [0, 1, 2, 3, 4] rfl (EV.fa 0 rfl) rfl rfl rfl rfl (xv 13 [0] [0, 1, 2, 3, 4] rfl (EV.lf (v := .int .i64 ((rd_T44 l0_0 x2_5).f0)) x2_5 0 none 0 z44 rfl rfl rfl g2 c1 rfl (fun _ _ _ _ _ _ => rfl)) rfl rfl rfl rfl (xv 14 [0] [0, 1, 2, 3, 4] rfl (EV.fa 0 rfl) rfl rfl rfl rfl (xv 15 [0] [0, 1, 2, 3, 4] rfl (EV.ld 0 none rfl rfl rfl) rfl rfl rfl rfl ?_))))))))
   revert H; refine ggI ?_; intro g8 H
   refine xv 16 [0] [0, 1, 2, 3, 4] rfl (EV.ix 0 rfl rfl rfl dq g8 rfl) rfl rfl rfl rfl (xv 17 [0] [0, 1, 2, 3, 4] rfl (EV.fa 0 rfl) rfl rfl rfl rfl (xv 18 [0] [0, 1, 2, 3, 4] rfl (EV.lf (v := .int .i64 ((rd_T44 l0_0 0).f0)) 0 0 none 0 z44 rfl rfl rfl dq g8 rfl (fun _ _ _ _ _ _ => rfl)) rfl rfl rfl rfl (xv 19 [0] [0, 1, 2, 3, 4] rfl (EV.neq rfl rfl) rfl rfl rfl rfl (xv 20 [0] [0, 1, 2, 3, 4] rfl (EV.pf rfl rfl rfl) rfl rfl rfl rfl (xd (pr [1, 3, 4, 5, 21, 22, 23, 24, 25, 26, 27, 28, 29, 30, 31, 32, 33] [0] [0] rfl rfl rfl rfl ?_))))))
   revert H; refine ifsI ?_ ?_ <;> intro c9 H
   ·
    refine gf rfl (nF c9) (gk (gs (rg (sv (EV.mv rfl) rfl (sv (EV.fa 0 rfl) rfl (sv (EV.ld 0 none rfl rfl rfl) rfl (sv (EV.mv rfl) rfl (sv (EV.ix 0 rfl rfl rfl g2 c1 rfl) rfl (sv (EV.fa 1 rfl) rfl (opn (i := x2_5) 0 z44 rfl g2 c1 fun A_10 c_10 A_11 c_11 A_12 c_12 => (sv (EV.lc (v := .slice A_10 ((rd_T44 l0_0 x2_5).f1).length c_10) 1 none 1 rfl rfl rfl rfl) rfl (sv (EV.ln rfl) rfl (sv (EV.add rfl rfl) rfl (sv (EV.as rfl) rfl (re (pr [1, 3, 4, 5, 21, 22, 23, 24, 25, 26, 27, 28, 29, 30, 31, 32] [0] [0] rfl rfl rfl rfl (rg (sv (EV.mv rfl) rfl (sv (EV.fa 0 rfl) rfl (sv (EV.ld 0 none rfl rfl rfl) rfl (sv (EV.mv rfl) rfl (sv (EV.ix 0 rfl rfl rfl g2 c1 rfl) rfl (sv (EV.fa 2 rfl) rfl (opn (i := x2_5) 0 z44 rfl g2 c1 fun A_13 c_13 A_14 c_14 A_15 c_15 => (sv (EV.lc (v := .slice A_14 ((rd_T44 l0_0 x2_5).f2).length c_14) 2 none 1 rfl rfl rfl rfl) rfl (sv (EV.ln rfl) rfl (sv (EV.add rfl rfl) rfl (sv (EV.as rfl) rfl (re ?_)))))))))))))))))))))))))))))
    exact pr [1, 3, 4, 5, 21, 22, 23, 24, 25, 26, 27, 28, 29, 30, 31, 32] [0] [0] rfl rfl rfl rfl (ge (rg (sv (EV.mv rfl) rfl (sv (EV.add rfl rfl) rfl (sv (EV.as rfl) rfl (re (wk [1, 3, 4, 5] [0] [⟨0, 0, 0, false⟩] (ih0 _ (by omega) _ ⟨wrap64 (x2_3 + (((rd_T44 l0_0 x2_5).f1).length : Int)), wrap64 (x2_4 + (((rd_T44 l0_0 x2_5).f2).length : Int)), wrap64 (x2_5 + 1), x2_1_1, x2_1_2, H, rfl⟩))))))))
   ·
    refine gt rfl (nT c9) (gs (rg (sv (EV.as rfl) rfl (re (pr [2] [] [] rfl rfl rfl rfl ?_)))))
    cases H
    exact rt Try.func58 rfl (.tmp rfl .nil) rfl [] [] rfl rfl rfl rfl rfl ⟨rfl, rfl, rfl⟩
  ·
   obtain rfl := bF c7
   refine ts 20 rfl rfl (xk 8 [0] [0, 1, 2, 3, 4] rfl rfl rfl rfl rfl (xk 9 [0] [0, 1, 2, 3, 4] rfl rfl rfl rfl rfl (xk 10 [0] [0, 1, 2, 3, 4] rfl rfl rfl rfl rfl (xk 11 [0] [0, 1, 2, 3, 4] rfl rfl rfl rfl rfl (xk 12 [0] [0, 1, 2, 3, 4] rfl rfl rfl rfl rfl (xk 13 [0] [0, 1, 2, 3, 4] rfl rfl rfl rfl rfl (xk 14 [0] [0, 1, 2, 3, 4] rfl rfl rfl rfl rfl (xk 15 [0] [0, 1, 2, 3, 4] rfl rfl rfl rfl rfl (xk 16 [0] [0, 1, 2, 3, 4] rfl rfl rfl rfl rfl (xk 17 [0] [0, 1, 2, 3, 4] rfl rfl rfl rfl rfl (xk 18 [0] [0, 1, 2, 3, 4] rfl rfl rfl rfl rfl (xk 19 [0] [0, 1, 2, 3, 4] rfl rfl rfl rfl rfl (xv 20 [0] [0, 1, 2, 3, 4] rfl (EV.pt rfl rfl rfl) rfl rfl rfl rfl (xd (pr [1, 3, 4, 5, 33] [0] [0] rfl rfl rfl rfl (gt rfl rfl (gs (rg (sv (EV.as rfl) rfl (re ?_))))))))))))))))))))
   cases H
   exact rt Try.func58 rfl (.tmp rfl .nil) rfl [] [] rfl rfl rfl rfl rfl ⟨rfl, rfl, rfl⟩
 ·
  refine gf rfl (dF c1) (gx rfl (gs (rg (sv (EV.mv rfl) rfl (sv (EV.leq rfl rfl) rfl (sv (EV.mv rfl) rfl ?_))))))
  revert H; refine ifsI ?_ ?_ <;> intro c16 H
  ·
   refine ts 54 rfl (dT c16) (sv (EV.mv rfl) rfl (sv (EV.leq rfl rfl) rfl (sv (EV.pt rfl rfl rfl) rfl (sv (EV.mv rfl) rfl ?_))))
   revert H; refine ifsI ?_ ?_ <;> intro c17 H
   ·
    refine ts 58 rfl (dT c17) (sv (EV.fa 0 rfl) rfl (sv (EV.ld 0 none rfl rfl rfl) rfl (sv (EV.ln rfl) rfl (sv (EV.leq rfl rfl) rfl (sv (EV.pt rfl rfl rfl) rfl (sv (EV.mv rfl) rfl ?_))))))
    revert H; refine ifsI ?_ ?_ <;> intro c18 H
    ·
     refine ts 64 rfl (dT c18) (sv (EV.fa 1 rfl) rfl (sv (EV.ld 0 none rfl rfl rfl) rfl ?_))
     revert H; refine bdI ?_; rintro t19 A19 H
     refine so rfl (op_call (spec_l1In.ok x2_1_1 0 100000 _ A19) [] 1 rfl rfl rfl rfl rfl ?_)
     rintro _ _ _ ⟨rfl, rfl, rfl⟩
     refine sv (EV.pt rfl rfl rfl) rfl (sv (EV.mv rfl) rfl ?_)
     revert H; refine ifsI ?_ ?_ <;> intro c20 H
     ·
      subst c20
      refine ts 69 rfl rfl (sv (EV.fa 2 rfl) rfl (sv (EV.ld 0 none rfl rfl rfl) rfl ?_))
      revert H; refine bdI ?_; rintro t21 A21 H
      refine so rfl (op_call (spec_l1In.ok x2_1_2 0 1000 _ A21) [] 1 rfl rfl rfl rfl rfl ?_)
      rintro _ _ _ ⟨rfl, rfl, rfl⟩
      refine sv (EV.pt rfl rfl rfl) rfl (sv (EV.as rfl) rfl (re (pr [2] [] [] rfl rfl rfl rfl ?_)))
      cases H
      exact rt Try.func58 rfl (.tmp rfl .nil) rfl [] [] rfl rfl rfl rfl rfl ⟨rfl, rfl, rfl⟩
     ·
      obtain rfl := bF c20
      refine ts 69 rfl rfl (sk rfl (sk rfl (sk rfl (sv (EV.pf rfl rfl rfl) rfl (sv (EV.as rfl) rfl (re (pr [2] [] [] rfl rfl rfl rfl ?_)))))))
      cases H
      exact rt Try.func58 rfl (.tmp rfl .nil) rfl [] [] rfl rfl rfl rfl rfl ⟨rfl, rfl, rfl⟩
    ·
     refine ts 64 rfl (dF c18) (sk rfl (sk rfl (sk rfl (sv (EV.pf rfl rfl rfl) rfl (sv (EV.mv rfl) rfl (sk rfl (sk rfl (sk rfl (sv (EV.pf rfl rfl rfl) rfl (sv (EV.as rfl) rfl (re (pr [2] [] [] rfl rfl rfl rfl ?_))))))))))))
     cases H
     exact rt Try.func58 rfl (.tmp rfl .nil) rfl [] [] rfl rfl rfl rfl rfl ⟨rfl, rfl, rfl⟩
   ·
    refine ts 58 rfl (dF c17) (sk rfl (sk rfl (sk rfl (sk rfl (sv (EV.pf rfl rfl rfl) rfl (sv (EV.mv rfl) rfl (sk rfl (sk rfl (sk rfl (sv (EV.pf rfl rfl rfl) rfl (sv (EV.mv rfl) rfl (sk rfl (sk rfl (sk rfl (sv (EV.pf rfl rfl rfl) rfl (sv (EV.as rfl) rfl (re (pr [2] [] [] rfl rfl rfl rfl ?_))))))))))))))))))
    cases H
    exact rt Try.func58 rfl (.tmp rfl .nil) rfl [] [] rfl rfl rfl rfl rfl ⟨rfl, rfl, rfl⟩
  ·
   refine ts 54 rfl (dF c16) (sk rfl (sk rfl (sv (EV.pf rfl rfl rfl) rfl (sv (EV.mv rfl) rfl (sk rfl (sk rfl (sk rfl (sk rfl (sv (EV.pf rfl rfl rfl) rfl (sv (EV.mv rfl) rfl (sk rfl (sk rfl (sk rfl (sv (EV.pf rfl rfl rfl) rfl (sv (EV.mv rfl) rfl (sk rfl (sk rfl (sk rfl (sv (EV.pf rfl rfl rfl) rfl (sv (EV.as rfl) rfl (re (pr [2] [] [] rfl rfl rfl rfl ?_))))))))))))))))))))))
   cases H
   exact rt Try.func58 rfl (.tmp rfl .nil) rfl [] [] rfl rfl rfl rfl rfl ⟨rfl, rfl, rfl⟩
end Go.Proofs.Ytajjeemkdjfilaa.K
namespace Go.Proofs.Ytajjeemkdjfilaa.K
open Go Go.RowKit
set_option linter.unusedVariables false
set_option linter.unusedSimpArgs false
def spec_BuildSide.j0 : Nat → Int → Int → Int → (List S70) → (List S70) → (List Bool) → Option (Int)
 | 0, _, _, _, _, _, _ => none
 | k + 1, x1_1, x1_2_0, x1_2_4, l0_1, l0_2, l0_3 => (spec_TotalCost.f k l0_2).bind fun t4 => (if t4 ≤ x1_1 then (some 2) else (some 0))
def spec_BuildSide.f (k : Nat) (a0_0 : Int) (l0_1 : List S70) (l0_2 : List S70) (l0_3 : List Bool) (a0_4 : Int) (a1 : Int) : Option (Int) := (spec_IsValidTask.f k a0_0 l0_1 l0_2 l0_3 a0_4).bind fun t1 => (if t1 = true then (if a0_0 = 1 then ((spec_TotalCost.f k l0_1).bind fun t7 => ((spec_TotalCost.f k l0_2).bind fun t8 => (if t7 < t8 then ((spec_TotalCost.f k l0_1).bind fun t10 => (if t10 ≤ a1 then (some 1) else (spec_BuildSide.j0 k a1 a0_0 a0_4 l0_1 l0_2 l0_3))) else (spec_BuildSide.j0 k a1 a0_0 a0_4 l0_1 l0_2 l0_3)))) else (spec_BuildSide.j0 k a1 a0_0 a0_4 l0_1 l0_2 l0_3)) else (some 0))
set_option maxHeartbeats 4000000 in
set_option maxRecDepth 100000 in
theorem spec_BuildSide.ok (k : Nat) (a0_0 : Int) (l0_1 : List S70) (Al0_1 : Option Addr) (cl0_1 : Nat) (l0_2 : List S70) (Al0_2 : Option Addr) (cl0_2 : Nat) (l0_3 : List Bool) (Al0_3 : Option Addr) (cl0_3 : Nat) (a0_4 : Int) (a1 : Int) (r0 : Int) (H : spec_BuildSide.f k a0_0 l0_1 l0_2 l0_3 a0_4 a1 = some r0) : Fn Try.prog 98 [.agg #[.int .i64 a0_0, .slice Al0_1 l0_1.length cl0_1, .slice Al0_2 l0_2.length cl0_2, .slice Al0_3 l0_3.length cl0_3, .int .i64 a0_4], .int .i64 a1] [] [.sl 0 k70 Al0_1 cl0_1 l0_1 0 false, .sl 0 k70 Al0_2 cl0_2 l0_2 0 false, .sl 0 .bool Al0_3 cl0_3 l0_3 0 false] (fun v bx en => v = .int .i64 r0 ∧ bx = [] ∧ en = []) := by
 refine fn_ 32 Try.func98 rfl rfl rfl (fun base T w0 => ?_)
 rw [spec_BuildSide.f] at H
 refine gs (rg (so rfl (op_box (cs := [.int .i64 a0_0, .slice Al0_1 l0_1.length cl0_1, .slice Al0_2 l0_2.length cl0_2, .slice Al0_3 l0_3.length cl0_3, .int .i64 a0_4]) rfl rfl rfl fun b2 => (sv (EV.as rfl) rfl (re (gs (gs (rg (sv (EV.ld (v := .agg #[.int .i64 a0_0, .slice Al0_1 l0_1.length cl0_1, .slice Al0_2 l0_2.length cl0_2, .slice Al0_3 l0_3.length cl0_3, .int .i64 a0_4]) 0 (some 5) rfl rfl rfl) rfl ?_)))))))))
 revert H; refine bdI ?_; rintro t1 A1 H
 refine so rfl (op_call (spec_IsValidTask.ok k a0_0 l0_1 Al0_1 cl0_1 l0_2 Al0_2 cl0_2 l0_3 Al0_3 cl0_3 a0_4 _ A1) [⟨0, 0, 0, false⟩, ⟨1, 0, 0, false⟩, ⟨2, 0, 0, false⟩] 1 rfl rfl rfl rfl rfl ?_)
 rintro _ _ _ ⟨rfl, rfl, rfl⟩
 refine sv (EV.nt rfl) rfl (re ?_)
 revert H; refine ifsI ?_ ?_ <;> intro c2 H
 ·
  subst c2
  refine gf rfl rfl (gk ?_)
  refine jo (fun S => ∃ (m : Nat) (x1_1 : Int) (x1_2_0 : Int) (x1_2_4 : Int), spec_BuildSide.j0 m x1_1 x1_2_0 x1_2_4 l0_1 l0_2 l0_3 = some r0 ∧ S = ⟨[(1, .int .i64 x1_1), (2, .pointer (some ⟨b2, 0, none⟩))], [⟨b2, 44, [.int .i64 x1_2_0, .slice Al0_1 l0_1.length cl0_1, .slice Al0_2 l0_2.length cl0_2, .slice Al0_3 l0_3.length cl0_3, .int .i64 x1_2_4]⟩], [.sl 0 k70 Al0_1 cl0_1 l0_1 0 false, .sl 0 k70 Al0_2 cl0_2 l0_2 0 false, .sl 0 .bool Al0_3 cl0_3 l0_3 0 false]⟩) (fun S hS => ?_) (fun jh0 => ?_)
  ·
   clear H
   obtain ⟨m3, x1_1, x1_2_0, x1_2_4, H, rfl⟩ := hS
   rcases m3 with _ | m3
   · rw [spec_BuildSide.j0] at H; cases H
   rw [spec_BuildSide.j0] at H
   refine gs (gs (rg (sv (EV.fa 2 rfl) rfl (sv (EV.ld 0 none rfl rfl rfl) rfl ?_))))
   revert H; refine bdI ?_; rintro t4 A4 H
   refine so rfl (op_call (spec_TotalCost.ok m3 l0_2 Al0_2 cl0_2 _ A4) [⟨1, 0, 0, false⟩] 1 rfl rfl rfl rfl rfl ?_)
   rintro _ _ _ ⟨rfl, rfl, rfl⟩
   refine sv (EV.mv rfl) rfl (sv (EV.leq rfl rfl) rfl (re (pr [31] [] [] rfl rfl rfl rfl ?_)))
   revert H; refine ifsI ?_ ?_ <;> intro c5 H
   ·
    refine gt rfl (dT c5) (gs (rg (sv (EV.as rfl) rfl (re ?_))))
    cases H
    exact rt Try.func98 rfl (.tmp rfl .nil) rfl [] [] rfl rfl rfl rfl rfl ⟨rfl, rfl, rfl⟩
   ·
    refine gf rfl (dF c5) (gk (gs (rg (sv (EV.as rfl) rfl (re ?_)))))
    cases H
    exact rt Try.func98 rfl (.tmp rfl .nil) rfl [] [] rfl rfl rfl rfl rfl ⟨rfl, rfl, rfl⟩
  ·
   refine gs (dr [0] [0, 1, 2] [] 19 rfl rfl rfl rfl (xv 0 [0] [0, 1, 2] rfl (EV.fa 0 rfl) rfl rfl rfl rfl (xv 1 [0] [0, 1, 2] rfl (EV.ld 0 none rfl rfl rfl) rfl rfl rfl rfl (xv 2 [0] [0, 1, 2] rfl (EV.eql rfl rfl) rfl rfl rfl rfl (xv 3 [0] [0, 1, 2] rfl (EV.mv rfl) rfl rfl rfl rfl ?_)))))
   revert H; refine ifsI ?_ ?_ <;> intro c6 H
   ·
    refine ts 11 rfl (dT c6) (xv 4 [0] [0, 1, 2] rfl (EV.fa 1 rfl) rfl rfl rfl rfl (xv 5 [0] [0, 1, 2] rfl (EV.ld 0 none rfl rfl rfl) rfl rfl rfl rfl (xv 7 [0] [0, 1, 2] rfl (EV.fa 2 rfl) rfl rfl rfl rfl (xv 8 [0] [0, 1, 2] rfl (EV.ld 0 none rfl rfl rfl) rfl rfl rfl rfl (one1 6 rfl rfl ?_)))))
    revert H; refine bdI ?_; rintro t7 A7 H
    refine op_call (spec_TotalCost.ok k l0_1 Al0_1 cl0_1 _ A7) [⟨0, 0, 0, false⟩] 1 rfl rfl rfl rfl rfl ?_
    rintro _ _ _ ⟨rfl, rfl, rfl⟩
    refine xs [0] [0, 1, 2] rfl rfl rfl (one1 9 rfl rfl ?_)
    revert H; refine bdI ?_; rintro t8 A8 H
    refine op_call (spec_TotalCost.ok k l0_2 Al0_2 cl0_2 _ A8) [⟨1, 0, 0, false⟩] 1 rfl rfl rfl rfl rfl ?_
    rintro _ _ _ ⟨rfl, rfl, rfl⟩
    refine xs [0] [0, 1, 2] rfl rfl rfl (xv 10 [0] [0, 1, 2] rfl (EV.lss rfl rfl) rfl rfl rfl rfl (xv 11 [0] [0, 1, 2] rfl (EV.pt rfl rfl rfl) rfl rfl rfl rfl (xv 12 [0] [0, 1, 2] rfl (EV.mv rfl) rfl rfl rfl rfl ?_)))
    revert H; refine ifsI ?_ ?_ <;> intro c9 H
    ·
     refine ts 20 rfl (dT c9) (xv 13 [0] [0, 1, 2] rfl (EV.fa 1 rfl) rfl rfl rfl rfl (xv 14 [0] [0, 1, 2] rfl (EV.ld 0 none rfl rfl rfl) rfl rfl rfl rfl (xv 16 [0] [0, 1, 2] rfl (EV.mv rfl) rfl rfl rfl rfl (one1 15 rfl rfl ?_))))
     revert H; refine bdI ?_; rintro t10 A10 H
     refine op_call (spec_TotalCost.ok k l0_1 Al0_1 cl0_1 _ A10) [⟨0, 0, 0, false⟩] 1 rfl rfl rfl rfl rfl ?_
     rintro _ _ _ ⟨rfl, rfl, rfl⟩
     refine xs [0] [0, 1, 2] rfl rfl rfl (xv 17 [0] [0, 1, 2] rfl (EV.leq rfl rfl) rfl rfl rfl rfl (xv 18 [0] [0, 1, 2] rfl (EV.pt rfl rfl rfl) rfl rfl rfl rfl (xd (pr [1, 2, 26] [0] [0, 1, 2] rfl rfl rfl rfl ?_))))
     revert H; refine ifsI ?_ ?_ <;> intro c11 H
     ·
      refine gt rfl (dT c11) (gs (rg (sv (EV.as rfl) rfl (re ?_))))
      cases H
      exact rt Try.func98 rfl (.tmp rfl .nil) rfl [] [] rfl rfl rfl rfl rfl ⟨rfl, rfl, rfl⟩
     ·
      exact gf rfl (dF c11) (gk (wk [1, 2] [0] [⟨0, 0, 0, false⟩, ⟨1, 0, 0, false⟩, ⟨2, 0, 0, false⟩] (jh0 _ ⟨_, a1, a0_0, a0_4, H, rfl⟩)))
    ·
     exact ts 20 rfl (dF c9) (xk 13 [0] [0, 1, 2] rfl rfl rfl rfl rfl (xk 14 [0] [0, 1, 2] rfl rfl rfl rfl rfl (xk 16 [0] [0, 1, 2] rfl rfl rfl rfl rfl (xk 15 [0] [0, 1, 2] rfl rfl rfl rfl rfl (xk 17 [0] [0, 1, 2] rfl rfl rfl rfl rfl (xv 18 [0] [0, 1, 2] rfl (EV.pf rfl rfl rfl) rfl rfl rfl rfl (xd (pr [1, 2, 26] [0] [0, 1, 2] rfl rfl rfl rfl (gf rfl rfl (gk (wk [1, 2] [0] [⟨0, 0, 0, false⟩, ⟨1, 0, 0, false⟩, ⟨2, 0, 0, false⟩] (jh0 _ ⟨_, a1, a0_0, a0_4, H, rfl⟩))))))))))))
   ·
    exact ts 11 rfl (dF c6) (xk 4 [0] [0, 1, 2] rfl rfl rfl rfl rfl (xk 5 [0] [0, 1, 2] rfl rfl rfl rfl rfl (xk 7 [0] [0, 1, 2] rfl rfl rfl rfl rfl (xk 8 [0] [0, 1, 2] rfl rfl rfl rfl rfl (xk 6 [0] [0, 1, 2] rfl rfl rfl rfl rfl (xk 9 [0] [0, 1, 2] rfl rfl rfl rfl rfl (xk 10 [0] [0, 1, 2] rfl rfl rfl rfl rfl (xv 11 [0] [0, 1, 2] rfl (EV.pf rfl rfl rfl) rfl rfl rfl rfl (xv 12 [0] [0, 1, 2] rfl (EV.mv rfl) rfl rfl rfl rfl (xk 13 [0] [0, 1, 2] rfl rfl rfl rfl rfl (xk 14 [0] [0, 1, 2] rfl rfl rfl rfl rfl (xk 16 [0] [0, 1, 2] rfl rfl rfl rfl rfl (xk 15 [0] [0, 1, 2] rfl rfl rfl rfl rfl (xk 17 [0] [0, 1, 2] rfl rfl rfl rfl rfl (xv 18 [0] [0, 1, 2] rfl (EV.pf rfl rfl rfl) rfl rfl rfl rfl (xd (pr [1, 2, 26] [0] [0, 1, 2] rfl rfl rfl rfl (gf rfl rfl (gk (wk [1, 2] [0] [⟨0, 0, 0, false⟩, ⟨1, 0, 0, false⟩, ⟨2, 0, 0, false⟩] (jh0 _ ⟨_, a1, a0_0, a0_4, H, rfl⟩)))))))))))))))))))))
 ·
  obtain rfl := bF c2
  refine gt rfl rfl (gs (rg (sv (EV.as rfl) rfl (re (pr [4] [] [] rfl rfl rfl rfl ?_)))))
  cases H
  exact rt Try.func98 rfl (.tmp rfl .nil) rfl [] [] rfl rfl rfl rfl rfl ⟨rfl, rfl, rfl⟩
end Go.Proofs.Ytajjeemkdjfilaa.K
namespace Go.Proofs.Ytajjeemkdjfilaa.K
open Go Go.RowKit
set_option linter.unusedVariables false
set_option linter.unusedSimpArgs false
def spec_StepJoiner.j0 : Nat → (List S92) → Int → (List S44) → Int → Int → (List S44) → Int → Int → Int → (List S70) → (List S70) → (List Bool) → Int → Option ((List S44) × Int × Int × (List S92) × Int × Bool)
 | 0, _, _, _, _, _, _, _, _, _, _, _, _, _ => none
 | k + 1, x2_12, x2_14, x2_4_0, x2_4_1, x2_4_2, x2_8_0, x2_8_1, x2_8_2, x2_13_0, x2_13_1, x2_13_2, x2_13_3, x2_13_4 => (spec_UnmatchedRows.f k x2_13_0 x2_13_1 x2_13_2 x2_13_3 x2_13_4).bind fun t22 => (if x2_12.length + t22.length ≤ 2513169434916 then (some (x2_8_0, x2_8_1, x2_8_2, x2_12 ++ t22, x2_14, true)) else none)
def spec_StepJoiner.f (k : Nat) (l0_0 : List S44) (a0_1 : Int) (a0_2 : Int) (a1 : Int) : Option ((List S44) × Int × Int × (List S92) × Int × Bool) := (spec_l19Copy.f k l0_0 a0_1 a0_2).bind fun bt1 => ((spec_IsValidJoiner.f k l0_0 a0_1 a0_2).bind fun t2 => (if t2 = true then (if (l0_0.length : Int) = 0 then (some (bt1.1, bt1.2.1, bt1.2.2, [], 0, false)) else ((spec_l1In.f a1 8 60).bind fun t6 => (if t6 = true then (if 0 < (bt1.1.length : Int) then (if 1 ≤ (bt1.1.length : Int) then ((spec_BuildSide.f k ((rd_T44 bt1.1 0).f0) ((rd_T44 bt1.1 0).f1) ((rd_T44 bt1.1 0).f2) ((rd_T44 bt1.1 0).f3) ((rd_T44 bt1.1 0).f4) a1).bind fun t13 => (if (((rd_T44 bt1.1 0).f1).length : Int) = 0 then ((spec_UnmatchedRows.f k ((rd_T44 bt1.1 0).f0) ((rd_T44 bt1.1 0).f1) ((rd_T44 bt1.1 0).f2) ((rd_T44 bt1.1 0).f3) ((rd_T44 bt1.1 0).f4)).bind fun t15 => (some (bt1.1.drop (1 : Int).toNat, bt1.2.1, bt1.2.2, t15, 0, true))) else (if (((rd_T44 bt1.1 0).f2).length : Int) = 0 then ((spec_UnmatchedRows.f k ((rd_T44 bt1.1 0).f0) ((rd_T44 bt1.1 0).f1) ((rd_T44 bt1.1 0).f2) ((rd_T44 bt1.1 0).f3) ((rd_T44 bt1.1 0).f4)).bind fun t17 => (some (bt1.1.drop (1 : Int).toNat, bt1.2.1, bt1.2.2, t17, 0, true))) else (if t13 > 0 then ((spec_JoinChunk.f k ((rd_T44 bt1.1 0).f0) ((rd_T44 bt1.1 0).f1) ((rd_T44 bt1.1 0).f2) ((rd_T44 bt1.1 0).f3) ((rd_T44 bt1.1 0).f4) ((rd_T44 bt1.1 0).f2)).bind fun bt19 => ((spec_TotalCost.f k ((rd_T44 bt1.1 0).f2)).bind fun t20 => (if t13 = 1 then ((spec_TotalCost.f k ((rd_T44 bt1.1 0).f1)).bind fun t26 => (spec_StepJoiner.j0 k bt19.1 t26 [] 0 0 (bt1.1.drop (1 : Int).toNat) bt1.2.1 bt1.2.2 bt19.2.1 bt19.2.2.1 bt19.2.2.2.1 bt19.2.2.2.2.1 bt19.2.2.2.2.2)) else (spec_StepJoiner.j0 k bt19.1 t20 [] 0 0 (bt1.1.drop (1 : Int).toNat) bt1.2.1 bt1.2.2 bt19.2.1 bt19.2.2.1 bt19.2.2.2.1 bt19.2.2.2.2.1 bt19.2.2.2.2.2)))) else ((spec_NeedsNestedLoop.f k ((rd_T44 bt1.1 0).f0) ((rd_T44 bt1.1 0).f1) ((rd_T44 bt1.1 0).f2) ((rd_T44 bt1.1 0).f3) ((rd_T44 bt1.1 0).f4)).bind fun t27 => (if t27 = true then ((spec_NextChunk.f k ((rd_T44 bt1.1 0).f2) a1).bind fun bt29 => ((spec_JoinChunk.f k ((rd_T44 bt1.1 0).f0) ((rd_T44 bt1.1 0).f1) ((rd_T44 bt1.1 0).f2) ((rd_T44 bt1.1 0).f3) ((rd_T44 bt1.1 0).f4) bt29.1).bind fun bt30 => (if ([(⟨bt30.2.1, bt30.2.2.1, bt29.2, bt30.2.2.2.2.1, bt30.2.2.2.2.2⟩ : S44)] : List S44).length + (bt1.1.drop (1 : Int).toNat).length ≤ 1599289640401 then ((spec_TotalCost.f k bt29.1).bind fun t34 => (some (([(⟨bt30.2.1, bt30.2.2.1, bt29.2, bt30.2.2.2.2.1, bt30.2.2.2.2.2⟩ : S44)] : List S44) ++ (bt1.1.drop (1 : Int).toNat), bt1.2.1, bt1.2.2, bt30.1, t34, true))) else none))) else ((spec_PartitionTask.f k ((rd_T44 bt1.1 0).f0) ((rd_T44 bt1.1 0).f1) ((rd_T44 bt1.1 0).f2) ((rd_T44 bt1.1 0).f3) ((rd_T44 bt1.1 0).f4)).bind fun bt35 => (if ([(⟨bt35.1, bt35.2.1, bt35.2.2.1, bt35.2.2.2.1, bt35.2.2.2.2.1⟩ : S44), (⟨bt35.2.2.2.2.2.1, bt35.2.2.2.2.2.2.1, bt35.2.2.2.2.2.2.2.1, bt35.2.2.2.2.2.2.2.2.1, bt35.2.2.2.2.2.2.2.2.2.1⟩ : S44)] : List S44).length + (bt1.1.drop (1 : Int).toNat).length ≤ 1599289640401 then ((spec_TaskCost.f k ((rd_T44 bt1.1 0).f0) ((rd_T44 bt1.1 0).f1) ((rd_T44 bt1.1 0).f2) ((rd_T44 bt1.1 0).f3) ((rd_T44 bt1.1 0).f4)).bind fun t39 => (some (([(⟨bt35.1, bt35.2.1, bt35.2.2.1, bt35.2.2.2.1, bt35.2.2.2.2.1⟩ : S44), (⟨bt35.2.2.2.2.2.1, bt35.2.2.2.2.2.2.1, bt35.2.2.2.2.2.2.2.1, bt35.2.2.2.2.2.2.2.2.1, bt35.2.2.2.2.2.2.2.2.2.1⟩ : S44)] : List S44) ++ (bt1.1.drop (1 : Int).toNat), wrap64 (a0_1 + t39), wrap64 (a0_2 + 1), [], 8, true))) else none)))))))) else none) else none) else (some (bt1.1, bt1.2.1, bt1.2.2, [], 0, false))))) else (some (bt1.1, bt1.2.1, bt1.2.2, [], 0, false))))
set_option maxHeartbeats 4000000 in
set_option maxRecDepth 100000 in
theorem spec_StepJoiner.ok (k : Nat) (l0_0 : List S44) (Al0_0 : Option Addr) (cl0_0 : Nat) (a0_1 : Int) (a0_2 : Int) (a1 : Int) (r0 : List S44) (r1 : Int) (r2 : Int) (r3 : List S92) (r4 : Int) (r5 : Bool) (H : spec_StepJoiner.f k l0_0 a0_1 a0_2 a1 = some (r0, r1, r2, r3, r4, r5)) : Fn Try.prog 55 [.agg #[.slice Al0_0 l0_0.length cl0_0, .int .i64 a0_1, .int .i64 a0_2], .int .i64 a1] [] [.sl 0 k44 Al0_0 cl0_0 l0_0 0 false] (fun v bx en => ∃ A0 c0 A3 c3, v = .tuple #[.agg #[.slice A0 r0.length c0, .int .i64 r1, .int .i64 r2], .slice A3 r3.length c3, .int .i64 r4, .bool r5] ∧ bx = [] ∧ en = [.sl 1 k44 A0 c0 r0 1 true, .sl 2 k92 A3 c3 r3 2 true]) := by
 refine fn_ 140 Try.func55 rfl rfl rfl (fun base T w0 => ?_)
 rw [spec_StepJoiner.f] at H
 refine gs (rg (so rfl (op_box (cs := [.slice Al0_0 l0_0.length cl0_0, .int .i64 a0_1, .int .i64 a0_2]) rfl rfl rfl fun b2 => (so rfl (op_alloc (cs := [.slice none 0 0, .int .i64 0, .int .i64 0]) (by kernel_rfl) rfl fun b4 => (sv (EV.as rfl) rfl (sv (EV.as rfl) rfl (sv (EV.as rfl) rfl (re (gs (rg (sv (EV.ld (v := .agg #[.slice Al0_0 l0_0.length cl0_0, .int .i64 a0_1, .int .i64 a0_2]) 0 (some 3) rfl rfl rfl) rfl ?_))))))))))))
 revert H; refine bdI ?_; rintro ⟨t1_0, t1_1, t1_2⟩ A1 H
 refine so rfl (op_call (spec_l19Copy.ok k l0_0 Al0_0 cl0_0 a0_1 a0_2 _ _ _ A1) [⟨0, 0, 0, false⟩] 1 rfl rfl rfl rfl rfl ?_)
 rintro _ _ _ ⟨At1_0, ct1_0, rfl, rfl, rfl⟩
 refine so rfl (op_alloc (cs := [.slice none 0 0, .int .i64 0, .int .i64 0]) (by kernel_rfl) rfl fun b8 => (so rfl (op_st (cs' := [.slice At1_0 t1_0.length ct1_0, .int .i64 t1_1, .int .i64 t1_2]) 2 rfl rfl rfl rfl rfl rfl (re (pr [1, 2, 4, 8] [0, 1, 2] [0, 1] rfl rfl rfl rfl (gs (gs (rg (sv (EV.ld (v := .agg #[.slice Al0_0 l0_0.length cl0_0, .int .i64 a0_1, .int .i64 a0_2]) 0 (some 3) rfl rfl rfl) rfl ?_)))))))))
 revert H; refine bdI ?_; rintro t2 A2 H
 refine so rfl (op_call (spec_IsValidJoiner.ok k l0_0 Al0_0 cl0_0 a0_1 a0_2 _ A2) [⟨0, 0, 0, false⟩] 3 rfl rfl rfl rfl rfl ?_)
 rintro _ _ _ ⟨rfl, rfl, rfl⟩
 refine sv (EV.nt rfl) rfl (sv (EV.mv rfl) rfl ?_)
 revert H; refine ifsI ?_ ?_ <;> intro c3 H
 ·
  subst c3
  refine ts 27 rfl rfl (sv (EV.fa 0 rfl) rfl (sv (EV.ld 0 none rfl rfl rfl) rfl (sv (EV.ln rfl) rfl (sv (EV.eql rfl rfl) rfl (sv (EV.pf rfl rfl rfl) rfl (sv (EV.mv rfl) rfl ?_))))))
  revert H; refine ifsI ?_ ?_ <;> intro c4 H
  ·
   refine ts 33 rfl (dT c4) (sk rfl (sk rfl (sk rfl (sv (EV.pt rfl rfl rfl) rfl (re (pr [1, 2, 4, 8, 37] [0, 1, 2] [0, 1] rfl rfl rfl rfl (gt rfl rfl (gs (rg (sv (EV.ld (v := .agg #[.slice At1_0 t1_0.length ct1_0, .int .i64 t1_1, .int .i64 t1_2]) 2 (some 3) rfl rfl rfl) rfl (so rfl (op_lit (s := 7) (by_ := 56) k92 ([] : List S92) [] [] 3 [] rfl rfl rfl rfl rfl rfl rfl rfl rfl rfl rfl rfl rfl dq rfl fun A39_5 c39_5 => (so rfl (op_st (cs' := [.slice At1_0 t1_0.length ct1_0, .int .i64 t1_1, .int .i64 t1_2]) 1 rfl rfl rfl rfl rfl rfl (sv (EV.as rfl) rfl (sv (EV.as rfl) rfl (sv (EV.as rfl) rfl (re (pr [4, 5, 6, 7] [1] [1, 2] rfl rfl rfl rfl ?_)))))))))))))))))))
   cases H
   exact rt Try.func55 rfl (.cell 0 (some 3) rfl rfl rfl (.tmp rfl (.tmp rfl (.tmp rfl .nil)))) rfl [] [⟨0, 1, 1, true⟩, ⟨1, 2, 2, true⟩] rfl rfl rfl rfl rfl ⟨_, _, _, _, rfl, rfl, rfl⟩
  ·
   refine ts 33 rfl (dF c4) (sv (EV.mv rfl) rfl ?_)
   revert H; refine bdI ?_; rintro t6 A6 H
   refine so rfl (op_call (spec_l1In.ok a1 8 60 _ A6) [] 3 rfl rfl rfl rfl rfl ?_)
   rintro _ _ _ ⟨rfl, rfl, rfl⟩
   refine sv (EV.nt rfl) rfl (sv (EV.pf rfl rfl rfl) rfl (re (pr [1, 2, 4, 8, 37] [0, 1, 2] [0, 1] rfl rfl rfl rfl ?_)))
   revert H; refine ifsI ?_ ?_ <;> intro c7 H
   ·
    subst c7
    refine gf rfl rfl (gk (gs (rg (sv (EV.fa 0 rfl) rfl (sv (EV.ld 2 none rfl rfl rfl) rfl ?_)))))
    revert H; refine ggI ?_; intro g8 H
    refine sv (EV.ix 1 rfl rfl rfl dq g8 rfl) rfl (opn (i := 0) 1 z44 rfl dq g8 fun A_9 c_9 A_10 c_10 A_11 c_11 => (sv (EV.lc (v := .agg #[.int .i64 ((rd_T44 t1_0 0).f0), .slice A_9 ((rd_T44 t1_0 0).f1).length c_9, .slice A_10 ((rd_T44 t1_0 0).f2).length c_10, .slice A_11 ((rd_T44 t1_0 0).f3).length c_11, .int .i64 ((rd_T44 t1_0 0).f4)]) 0 (some 5) 2 rfl rfl rfl rfl) rfl (so rfl (op_alloc (cs := [.int .i64 0, .slice none 0 0, .slice none 0 0, .slice none 0 0, .int .i64 0]) (by kernel_rfl) rfl fun b9 => (so rfl (op_st (cs' := [.int .i64 ((rd_T44 t1_0 0).f0), .slice A_9 ((rd_T44 t1_0 0).f1).length c_9, .slice A_10 ((rd_T44 t1_0 0).f2).length c_10, .slice A_11 ((rd_T44 t1_0 0).f3).length c_11, .int .i64 ((rd_T44 t1_0 0).f4)]) 3 rfl rfl rfl rfl rfl rfl (re (gs (rg (sv (EV.fa 0 rfl) rfl (sv (EV.ld 2 none rfl rfl rfl) rfl ?_)))))))))))
    revert H; refine ggI ?_; intro g12 H
    refine cutp (l' := t1_0.drop (1 : Int).toNat) 1 (t1_0.length : Int) 1 rfl dq g12 (Int.le_refl _) rfl 1 dq (.inl dq) ctl (sv (EV.ct 1 (t1_0.length : Int) 1 rfl rfl rfl rfl dq g12 (Int.le_refl _) rfl rfl ctnl) rfl (sv (EV.as rfl) rfl (re (pr [1, 2, 4, 8, 9, 10] [0, 1, 2, 3] [0, 1, 2, 3, 4, 5, 6] rfl rfl rfl rfl (gs (rg (sv (EV.ld (v := .agg #[.int .i64 ((rd_T44 t1_0 0).f0), .slice A_9 ((rd_T44 t1_0 0).f1).length c_9, .slice A_10 ((rd_T44 t1_0 0).f2).length c_10, .slice A_11 ((rd_T44 t1_0 0).f3).length c_11, .int .i64 ((rd_T44 t1_0 0).f4)]) 3 (some 5) rfl rfl rfl) rfl (sv (EV.mv rfl) rfl ?_))))))))
    revert H; refine bdI ?_; rintro t13 A13 H
    refine so rfl (op_call (spec_BuildSide.ok k ((rd_T44 t1_0 0).f0) ((rd_T44 t1_0 0).f1) A_9 c_9 ((rd_T44 t1_0 0).f2) A_10 c_10 ((rd_T44 t1_0 0).f3) A_11 c_11 ((rd_T44 t1_0 0).f4) a1 _ A13) [⟨3, 0, 0, false⟩, ⟨4, 0, 0, false⟩, ⟨5, 0, 0, false⟩] 3 rfl rfl rfl rfl rfl ?_)
    rintro _ _ _ ⟨rfl, rfl, rfl⟩
    refine sv (EV.as rfl) rfl (re (gs (gs (rg (sv (EV.fa 1 rfl) rfl (sv (EV.ld 3 none rfl rfl rfl) rfl (sv (EV.ln rfl) rfl (sv (EV.eql rfl rfl) rfl (sv (EV.mv rfl) rfl ?_)))))))))
    revert H; refine ifsI ?_ ?_ <;> intro c14 H
    ·
     refine ts 54 rfl (dT c14) (sk rfl (sk rfl (sk rfl (sk rfl (sv (EV.pt rfl rfl rfl) rfl (re (pr [1, 2, 4, 8, 9, 10, 11, 59] [0, 1, 2, 3] [0, 1, 2, 3, 4, 5, 6] rfl rfl rfl rfl (gt rfl rfl (gs (rg (sv (EV.mv rfl) rfl (sv (EV.fa 0 rfl) rfl (so rfl (op_st (cs' := [.slice (cutA At1_0 ct1_0 (1 : Int).toNat 5) (t1_0.drop (1 : Int).toNat).length (ct1_0 - (1 : Int).toNat), .int .i64 t1_1, .int .i64 t1_2]) 2 rfl rfl rfl rfl rfl rfl (re (pr [4, 8, 9] [1, 2, 3] [3, 4, 5, 6] rfl rfl rfl rfl (gs (dr [1, 2] [0, 1, 2, 3] [4, 5, 6] 7 rfl rfl rfl rfl (xv 0 [1, 2] [0, 1, 2, 3] rfl (EV.ld (v := .agg #[.slice (cutA At1_0 ct1_0 (1 : Int).toNat 5) (t1_0.drop (1 : Int).toNat).length (ct1_0 - (1 : Int).toNat), .int .i64 t1_1, .int .i64 t1_2]) 0 (some 3) rfl rfl rfl) rfl rfl rfl rfl (xv 1 [1, 2] [0, 1, 2, 3] rfl (EV.ld (v := .agg #[.int .i64 ((rd_T44 t1_0 0).f0), .slice A_9 ((rd_T44 t1_0 0).f1).length c_9, .slice A_10 ((rd_T44 t1_0 0).f2).length c_10, .slice A_11 ((rd_T44 t1_0 0).f3).length c_11, .int .i64 ((rd_T44 t1_0 0).f4)]) 1 (some 5) rfl rfl rfl) rfl rfl rfl rfl (one1 2 rfl rfl ?_)))))))))))))))))))))
     revert H; refine bdI ?_; rintro t15 A15 H
     refine op_call (spec_UnmatchedRows.ok k ((rd_T44 t1_0 0).f0) ((rd_T44 t1_0 0).f1) A_9 c_9 ((rd_T44 t1_0 0).f2) A_10 c_10 ((rd_T44 t1_0 0).f3) A_11 c_11 ((rd_T44 t1_0 0).f4) _ A15) [⟨0, 0, 0, false⟩, ⟨1, 0, 0, false⟩, ⟨2, 0, 0, false⟩] 3 rfl rfl rfl rfl rfl ?_
     rintro _ _ _ ⟨At15, ct15, rfl, rfl, rfl⟩
     refine xs [1, 2] [0, 1, 2, 3] rfl rfl rfl (one1 3 rfl rfl (op_st (cs' := [.slice (cutA At1_0 ct1_0 (1 : Int).toNat 5) (t1_0.drop (1 : Int).toNat).length (ct1_0 - (1 : Int).toNat), .int .i64 t1_1, .int .i64 t1_2]) 0 rfl rfl rfl rfl rfl rfl (xs [1, 2] [0, 1, 2, 3] rfl rfl rfl (one1 4 rfl rfl (ov (EV.as rfl) rfl (xn rfl (one1 5 rfl rfl (ov (EV.as rfl) rfl (xn rfl (one1 6 rfl rfl (ov (EV.as rfl) rfl (xn rfl (xd ?_)))))))))))))
     cases H
     exact rt Try.func55 rfl (.cell 0 (some 3) rfl rfl rfl (.tmp rfl (.tmp rfl (.tmp rfl .nil)))) rfl [] [⟨3, 1, 1, true⟩, ⟨4, 2, 2, true⟩] rfl rfl rfl rfl rfl ⟨_, _, _, _, rfl, rfl, rfl⟩
    ·
     refine ts 54 rfl (dF c14) (sv (EV.fa 2 rfl) rfl (sv (EV.ld 3 none rfl rfl rfl) rfl (sv (EV.ln rfl) rfl (sv (EV.eql rfl rfl) rfl (sv (EV.pf rfl rfl rfl) rfl (re (pr [1, 2, 4, 8, 9, 10, 11, 59] [0, 1, 2, 3] [0, 1, 2, 3, 4, 5, 6] rfl rfl rfl rfl ?_)))))))
     revert H; refine ifsI ?_ ?_ <;> intro c16 H
     ·
      refine gt rfl (dT c16) (gs (rg (sv (EV.mv rfl) rfl (sv (EV.fa 0 rfl) rfl (so rfl (op_st (cs' := [.slice (cutA At1_0 ct1_0 (1 : Int).toNat 5) (t1_0.drop (1 : Int).toNat).length (ct1_0 - (1 : Int).toNat), .int .i64 t1_1, .int .i64 t1_2]) 2 rfl rfl rfl rfl rfl rfl (re (pr [4, 8, 9] [1, 2, 3] [3, 4, 5, 6] rfl rfl rfl rfl (gs (dr [1, 2] [0, 1, 2, 3] [4, 5, 6] 7 rfl rfl rfl rfl (xv 0 [1, 2] [0, 1, 2, 3] rfl (EV.ld (v := .agg #[.slice (cutA At1_0 ct1_0 (1 : Int).toNat 5) (t1_0.drop (1 : Int).toNat).length (ct1_0 - (1 : Int).toNat), .int .i64 t1_1, .int .i64 t1_2]) 0 (some 3) rfl rfl rfl) rfl rfl rfl rfl (xv 1 [1, 2] [0, 1, 2, 3] rfl (EV.ld (v := .agg #[.int .i64 ((rd_T44 t1_0 0).f0), .slice A_9 ((rd_T44 t1_0 0).f1).length c_9, .slice A_10 ((rd_T44 t1_0 0).f2).length c_10, .slice A_11 ((rd_T44 t1_0 0).f3).length c_11, .int .i64 ((rd_T44 t1_0 0).f4)]) 1 (some 5) rfl rfl rfl) rfl rfl rfl rfl (one1 2 rfl rfl ?_)))))))))))))
      revert H; refine bdI ?_; rintro t17 A17 H
      refine op_call (spec_UnmatchedRows.ok k ((rd_T44 t1_0 0).f0) ((rd_T44 t1_0 0).f1) A_9 c_9 ((rd_T44 t1_0 0).f2) A_10 c_10 ((rd_T44 t1_0 0).f3) A_11 c_11 ((rd_T44 t1_0 0).f4) _ A17) [⟨0, 0, 0, false⟩, ⟨1, 0, 0, false⟩, ⟨2, 0, 0, false⟩] 3 rfl rfl rfl rfl rfl ?_
      rintro _ _ _ ⟨At17, ct17, rfl, rfl, rfl⟩
      refine xs [1, 2] [0, 1, 2, 3] rfl rfl rfl (one1 3 rfl rfl (op_st (cs' := [.slice (cutA At1_0 ct1_0 (1 : Int).toNat 5) (t1_0.drop (1 : Int).toNat).length (ct1_0 - (1 : Int).toNat), .int .i64 t1_1, .int .i64 t1_2]) 0 rfl rfl rfl rfl rfl rfl (xs [1, 2] [0, 1, 2, 3] rfl rfl rfl (one1 4 rfl rfl (ov (EV.as rfl) rfl (xn rfl (one1 5 rfl rfl (ov (EV.as rfl) rfl (xn rfl (one1 6 rfl rfl (ov (EV.as rfl) rfl (xn rfl (xd ?_)))))))))))))
      cases H
      exact rt Try.func55 rfl (.cell 0 (some 3) rfl rfl rfl (.tmp rfl (.tmp rfl (.tmp rfl .nil)))) rfl [] [⟨3, 1, 1, true⟩, ⟨4, 2, 2, true⟩] rfl rfl rfl rfl rfl ⟨_, _, _, _, rfl, rfl, rfl⟩
     ·
      refine gf rfl (dF c16) (gk (gs (gs (rg (sv (EV.mv rfl) rfl (sv (EV.gtr rfl rfl) rfl (re ?_)))))))
      revert H; refine ifsI ?_ ?_ <;> intro c18 H
      ·
       refine gt rfl (dT c18) (gs (rg (sv (EV.ld (v := .agg #[.int .i64 ((rd_T44 t1_0 0).f0), .slice A_9 ((rd_T44 t1_0 0).f1).length c_9, .slice A_10 ((rd_T44 t1_0 0).f2).length c_10, .slice A_11 ((rd_T44 t1_0 0).f3).length c_11, .int .i64 ((rd_T44 t1_0 0).f4)]) 3 (some 5) rfl rfl rfl) rfl (sv (EV.fa 2 rfl) rfl (sv (EV.ld 3 none rfl rfl rfl) rfl ?_)))))
       revert H; refine bdI ?_; rintro ⟨t19_0, t19_1, t19_2, t19_3, t19_4, t19_5⟩ A19 H
       refine so rfl (op_call (spec_JoinChunk.ok k ((rd_T44 t1_0 0).f0) ((rd_T44 t1_0 0).f1) A_9 c_9 ((rd_T44 t1_0 0).f2) A_10 c_10 ((rd_T44 t1_0 0).f3) A_11 c_11 ((rd_T44 t1_0 0).f4) ((rd_T44 t1_0 0).f2) A_10 c_10 _ _ _ _ _ _ A19) [⟨3, 0, 0, false⟩, ⟨4, 0, 0, false⟩, ⟨5, 0, 0, false⟩, ⟨4, 0, 0, false⟩] 3 rfl rfl rfl rfl rfl ?_)
       rintro _ _ _ ⟨At19_0, ct19_0, At19_2, ct19_2, At19_3, ct19_3, At19_4, ct19_4, rfl, rfl, rfl⟩
       refine sv (EV.mv rfl) rfl (sv (EV.ex rfl rfl) rfl (sv (EV.ex rfl rfl) rfl (so rfl (op_alloc (cs := [.int .i64 0, .slice none 0 0, .slice none 0 0, .slice none 0 0, .int .i64 0]) (by kernel_rfl) rfl fun b13 => (sv (EV.as rfl) rfl (so rfl (op_st (cs' := [.int .i64 t19_1, .slice At19_2 t19_2.length ct19_2, .slice At19_3 t19_3.length ct19_3, .slice At19_4 t19_4.length ct19_4, .int .i64 t19_5]) 4 rfl rfl rfl rfl rfl rfl (re (pr [4, 8, 9, 10, 11, 12, 13] [1, 2, 3, 4] [1, 2, 3, 4, 5, 6, 7, 8, 9, 10] rfl rfl rfl rfl (gs (rg (sv (EV.mv rfl) rfl (sv (EV.fa 0 rfl) rfl (so rfl (op_st (cs' := [.slice (cutA At1_0 ct1_0 (1 : Int).toNat 5) (t1_0.drop (1 : Int).toNat).length (ct1_0 - (1 : Int).toNat), .int .i64 t1_1, .int .i64 t1_2]) 1 rfl rfl rfl rfl rfl rfl (re (gs (rg (sv (EV.fa 2 rfl) rfl (sv (EV.ld 2 none rfl rfl rfl) rfl ?_))))))))))))))))))))
       revert H; refine bdI ?_; rintro t20 A20 H
       refine so rfl (op_call (spec_TotalCost.ok k ((rd_T44 t1_0 0).f2) A_10 c_10 _ A20) [⟨3, 0, 0, false⟩] 8 rfl rfl rfl rfl rfl ?_)
       rintro _ _ _ ⟨rfl, rfl, rfl⟩
       refine sv (EV.as rfl) rfl (re (pr [4, 8, 9, 11, 12, 13, 14] [0, 1, 2, 3] [2, 3, 4, 5, 6, 7, 8, 9] rfl rfl rfl rfl ?_))
       refine jo (fun S => ∃ (m : Nat) (x2_12 : List S92) (Ax2_12 : Option Addr) (cx2_12 : Nat) (x2_14 : Int) (x2_4_0 : List S44) (Ax2_4_0 : Option Addr) (cx2_4_0 : Nat) (x2_4_1 : Int) (x2_4_2 : Int) (x2_8_0 : List S44) (Ax2_8_0 : Option Addr) (cx2_8_0 : Nat) (x2_8_1 : Int) (x2_8_2 : Int) (x2_13_0 : Int) (x2_13_1 : List S70) (Ax2_13_1 : Option Addr) (cx2_13_1 : Nat) (x2_13_2 : List S70) (Ax2_13_2 : Option Addr) (cx2_13_2 : Nat) (x2_13_3 : List Bool) (Ax2_13_3 : Option Addr) (cx2_13_3 : Nat) (x2_13_4 : Int), spec_StepJoiner.j0 m x2_12 x2_14 x2_4_0 x2_4_1 x2_4_2 x2_8_0 x2_8_1 x2_8_2 x2_13_0 x2_13_1 x2_13_2 x2_13_3 x2_13_4 = some (r0, r1, r2, r3, r4, r5) ∧ S = ⟨[(4, .pointer (some ⟨b4, 0, none⟩)), (8, .pointer (some ⟨b8, 0, none⟩)), (12, .slice Ax2_12 x2_12.length cx2_12), (13, .pointer (some ⟨b13, 0, none⟩)), (14, .int .i64 x2_14)], [⟨b4, 73, [.slice Ax2_4_0 x2_4_0.length cx2_4_0, .int .i64 x2_4_1, .int .i64 x2_4_2]⟩, ⟨b8, 73, [.slice Ax2_8_0 x2_8_0.length cx2_8_0, .int .i64 x2_8_1, .int .i64 x2_8_2]⟩, ⟨b13, 44, [.int .i64 x2_13_0, .slice Ax2_13_1 x2_13_1.length cx2_13_1, .slice Ax2_13_2 x2_13_2.length cx2_13_2, .slice Ax2_13_3 x2_13_3.length cx2_13_3, .int .i64 x2_13_4]⟩], [.sl 2 k92 Ax2_12 cx2_12 x2_12 1 true, .sl 2 k44 Ax2_4_0 cx2_4_0 x2_4_0 2 true, .sl 1 k44 Ax2_8_0 cx2_8_0 x2_8_0 3 true, .sl 2 k70 Ax2_13_1 cx2_13_1 x2_13_1 4 true, .sl 2 k70 Ax2_13_2 cx2_13_2 x2_13_2 5 true, .sl 2 .bool Ax2_13_3 cx2_13_3 x2_13_3 6 true]⟩) (fun S hS => ?_) (fun jh0 => ?_)
       ·
        clear H
        obtain ⟨m21, x2_12, Ax2_12, cx2_12, x2_14, x2_4_0, Ax2_4_0, cx2_4_0, x2_4_1, x2_4_2, x2_8_0, Ax2_8_0, cx2_8_0, x2_8_1, x2_8_2, x2_13_0, x2_13_1, Ax2_13_1, cx2_13_1, x2_13_2, Ax2_13_2, cx2_13_2, x2_13_3, Ax2_13_3, cx2_13_3, x2_13_4, H, rfl⟩ := hS
        rcases m21 with _ | m21
        · rw [spec_StepJoiner.j0] at H; cases H
        rw [spec_StepJoiner.j0] at H
        refine gs (dr [1, 2] [1, 2, 3, 4, 5] [8, 9] 10 rfl rfl rfl rfl (xv 0 [1, 2] [1, 2, 3, 4, 5] rfl (EV.ld (v := .agg #[.slice Ax2_8_0 x2_8_0.length cx2_8_0, .int .i64 x2_8_1, .int .i64 x2_8_2]) 0 (some 3) rfl rfl rfl) rfl rfl rfl rfl (xv 1 [1, 2] [1, 2, 3, 4, 5] rfl (EV.mv rfl) rfl rfl rfl rfl (xv 2 [1, 2] [1, 2, 3, 4, 5] rfl (EV.ld (v := .agg #[.int .i64 x2_13_0, .slice Ax2_13_1 x2_13_1.length cx2_13_1, .slice Ax2_13_2 x2_13_2.length cx2_13_2, .slice Ax2_13_3 x2_13_3.length cx2_13_3, .int .i64 x2_13_4]) 1 (some 5) rfl rfl rfl) rfl rfl rfl rfl (xv 5 [1, 2] [1, 2, 3, 4, 5] rfl (EV.mv rfl) rfl rfl rfl rfl (one1 3 rfl rfl ?_))))))
        revert H; refine bdI ?_; rintro t22 A22 H
        refine op_call (spec_UnmatchedRows.ok m21 x2_13_0 x2_13_1 Ax2_13_1 cx2_13_1 x2_13_2 Ax2_13_2 cx2_13_2 x2_13_3 Ax2_13_3 cx2_13_3 x2_13_4 _ A22) [⟨3, 0, 0, false⟩, ⟨4, 0, 0, false⟩, ⟨5, 0, 0, false⟩] 7 rfl rfl rfl rfl rfl ?_
        rintro _ _ _ ⟨At22, ct22, rfl, rfl, rfl⟩
        refine xs [1, 2] [1, 2, 3, 4, 5] rfl rfl rfl (one1 4 rfl rfl ?_)
        revert H; refine ggI ?_; intro g23 H
        refine op_app (k := k92) (s := 7) (by_ := 56) 0 6 rfl rfl rfl rfl (ap2 g23 dq) (ap2n g23 dq) (.inl rfl) true (fun _ => .inl rfl) rfl rfl fun A88_24 c88_24 => (nmE (en := [.sl 2 k44 Ax2_4_0 cx2_4_0 x2_4_0 2 true, .sl 1 k44 Ax2_8_0 cx2_8_0 x2_8_0 3 true, .sl 2 k70 Ax2_13_1 cx2_13_1 x2_13_1 4 true, .sl 2 k70 Ax2_13_2 cx2_13_2 x2_13_2 5 true, .sl 2 .bool Ax2_13_3 cx2_13_3 x2_13_3 6 true, .sl 2 k92 At22 ct22 t22 8 true, .sl 2 k92 A88_24 c88_24 (x2_12 ++ t22) 1 true]) (by kernel_rfl) (xs [1, 2] [0, 1, 2, 3, 4] rfl rfl rfl (one1 6 rfl rfl (op_st (cs' := [.slice Ax2_8_0 x2_8_0.length cx2_8_0, .int .i64 x2_8_1, .int .i64 x2_8_2]) 0 rfl rfl rfl rfl rfl rfl (xs [1, 2] [0, 1, 2, 3, 4] rfl rfl rfl (one1 7 rfl rfl (ov (EV.as rfl) rfl (xs [1, 2] [0, 1, 2, 3, 4] rfl rfl rfl (one1 8 rfl rfl (ov (EV.as rfl) rfl (xn rfl (one1 9 rfl rfl (ov (EV.as rfl) rfl (xn rfl (xd (pr [4, 5, 6, 7] [0] [1, 6] rfl rfl rfl rfl ?_))))))))))))))))
        cases H
        exact rt Try.func55 rfl (.cell 0 (some 3) rfl rfl rfl (.tmp rfl (.tmp rfl (.tmp rfl .nil)))) rfl [] [⟨0, 1, 1, true⟩, ⟨1, 2, 2, true⟩] rfl rfl rfl rfl rfl ⟨_, _, _, _, rfl, rfl, rfl⟩
       ·
        refine gs (rg (sv (EV.mv rfl) rfl (sv (EV.eql rfl rfl) rfl (re ?_))))
        revert H; refine ifsI ?_ ?_ <;> intro c25 H
        ·
         refine gt rfl (dT c25) (rg (sv (EV.fa 1 rfl) rfl (sv (EV.ld 2 none rfl rfl rfl) rfl ?_)))
         revert H; refine bdI ?_; rintro t26 A26 H
         refine so rfl (op_call (spec_TotalCost.ok k ((rd_T44 t1_0 0).f1) A_9 c_9 _ A26) [⟨0, 0, 0, false⟩] 8 rfl rfl rfl rfl rfl ?_)
         rintro _ _ _ ⟨rfl, rfl, rfl⟩
         exact sv (EV.as rfl) rfl (re (pr [4, 8, 12, 13, 14] [0, 1, 3] [3, 4, 5, 6, 7] rfl rfl rfl rfl (nil_ k44 8 dq (wk [4, 8, 12, 13, 14] [0, 1, 2] [⟨1, 2, 1, true⟩, ⟨5, 2, 2, true⟩, ⟨0, 1, 3, true⟩, ⟨2, 2, 4, true⟩, ⟨3, 2, 5, true⟩, ⟨4, 2, 6, true⟩] (jh0 _ ⟨_, t19_0, At19_0, ct19_0, t26, [], none, 0, 0, 0, t1_0.drop (1 : Int).toNat, (cutA At1_0 ct1_0 (1 : Int).toNat 5), (ct1_0 - (1 : Int).toNat), t1_1, t1_2, t19_1, t19_2, At19_2, ct19_2, t19_3, At19_3, ct19_3, t19_4, At19_4, ct19_4, t19_5, H, rfl⟩)))))
        ·
         exact gf rfl (dF c25) (gk (nil_ k44 8 dq (wk [4, 8, 12, 13, 14] [0, 1, 3] [⟨4, 2, 1, true⟩, ⟨8, 2, 2, true⟩, ⟨3, 1, 3, true⟩, ⟨5, 2, 4, true⟩, ⟨6, 2, 5, true⟩, ⟨7, 2, 6, true⟩] (jh0 _ ⟨_, t19_0, At19_0, ct19_0, t20, [], none, 0, 0, 0, t1_0.drop (1 : Int).toNat, (cutA At1_0 ct1_0 (1 : Int).toNat 5), (ct1_0 - (1 : Int).toNat), t1_1, t1_2, t19_1, t19_2, At19_2, ct19_2, t19_3, At19_3, ct19_3, t19_4, At19_4, ct19_4, t19_5, H, rfl⟩))))
      ·
       refine gf rfl (dF c18) (gk (gs (gs (rg (sv (EV.ld (v := .agg #[.int .i64 ((rd_T44 t1_0 0).f0), .slice A_9 ((rd_T44 t1_0 0).f1).length c_9, .slice A_10 ((rd_T44 t1_0 0).f2).length c_10, .slice A_11 ((rd_T44 t1_0 0).f3).length c_11, .int .i64 ((rd_T44 t1_0 0).f4)]) 3 (some 5) rfl rfl rfl) rfl ?_)))))
       revert H; refine bdI ?_; rintro t27 A27 H
       refine so rfl (op_call (spec_NeedsNestedLoop.ok k ((rd_T44 t1_0 0).f0) ((rd_T44 t1_0 0).f1) A_9 c_9 ((rd_T44 t1_0 0).f2) A_10 c_10 ((rd_T44 t1_0 0).f3) A_11 c_11 ((rd_T44 t1_0 0).f4) _ A27) [⟨3, 0, 0, false⟩, ⟨4, 0, 0, false⟩, ⟨5, 0, 0, false⟩] 3 rfl rfl rfl rfl rfl ?_)
       rintro _ _ _ ⟨rfl, rfl, rfl⟩
       refine re ?_
       revert H; refine ifsI ?_ ?_ <;> intro c28 H
       ·
        subst c28
        refine gt rfl rfl (gs (rg (sv (EV.fa 2 rfl) rfl (sv (EV.ld 3 none rfl rfl rfl) rfl (sv (EV.mv rfl) rfl ?_)))))
        revert H; refine bdI ?_; rintro ⟨t29_0, t29_1⟩ A29 H
        refine so rfl (op_call (spec_NextChunk.ok k ((rd_T44 t1_0 0).f2) A_10 c_10 a1 _ _ A29) [⟨4, 0, 0, false⟩] 3 rfl rfl rfl rfl rfl ?_)
        rintro _ _ _ ⟨At29_0, ct29_0, At29_1, ct29_1, rfl, rfl, rfl⟩
        refine sv (EV.mv rfl) rfl (sv (EV.ex rfl rfl) rfl (sv (EV.ex rfl rfl) rfl (sv (EV.as rfl) rfl (sv (EV.as rfl) rfl (re (pr [4, 8, 9, 10, 15, 16] [1, 2, 3] [1, 2, 3, 4, 5, 6, 7, 8] rfl rfl rfl rfl (gs (rg (sv (EV.ld (v := .agg #[.int .i64 ((rd_T44 t1_0 0).f0), .slice A_9 ((rd_T44 t1_0 0).f1).length c_9, .slice A_10 ((rd_T44 t1_0 0).f2).length c_10, .slice A_11 ((rd_T44 t1_0 0).f3).length c_11, .int .i64 ((rd_T44 t1_0 0).f4)]) 2 (some 5) rfl rfl rfl) rfl (sv (EV.mv rfl) rfl ?_))))))))))
        revert H; refine bdI ?_; rintro ⟨t30_0, t30_1, t30_2, t30_3, t30_4, t30_5⟩ A30 H
        refine so rfl (op_call (spec_JoinChunk.ok k ((rd_T44 t1_0 0).f0) ((rd_T44 t1_0 0).f1) A_9 c_9 ((rd_T44 t1_0 0).f2) A_10 c_10 ((rd_T44 t1_0 0).f3) A_11 c_11 ((rd_T44 t1_0 0).f4) t29_0 At29_0 ct29_0 _ _ _ _ _ _ A30) [⟨2, 0, 0, false⟩, ⟨3, 0, 0, false⟩, ⟨4, 0, 0, false⟩, ⟨6, 0, 0, false⟩] 6 rfl rfl rfl rfl rfl ?_)
        rintro _ _ _ ⟨At30_0, ct30_0, At30_2, ct30_2, At30_3, ct30_3, At30_4, ct30_4, rfl, rfl, rfl⟩
        refine sv (EV.mv rfl) rfl (sv (EV.ex rfl rfl) rfl (sv (EV.ex rfl rfl) rfl (so rfl (op_alloc (cs := [.int .i64 0, .slice none 0 0, .slice none 0 0, .slice none 0 0, .int .i64 0]) (by kernel_rfl) rfl fun b18 => (sv (EV.as rfl) rfl (so rfl (op_st (cs' := [.int .i64 t30_1, .slice At30_2 t30_2.length ct30_2, .slice At30_3 t30_3.length ct30_3, .slice At30_4 t30_4.length ct30_4, .int .i64 t30_5]) 3 rfl rfl rfl rfl rfl rfl (re (pr [4, 8, 10, 15, 16, 17, 18] [0, 1, 3] [0, 5, 6, 7, 8, 9, 10, 11] rfl rfl rfl rfl (gs (rg (sv (EV.mv rfl) rfl (sv (EV.fa 2 rfl) rfl (so rfl (op_st (cs' := [.int .i64 t30_1, .slice At30_2 t30_2.length ct30_2, .slice At29_1 t29_1.length ct29_1, .slice At30_4 t30_4.length ct30_4, .int .i64 t30_5]) 2 rfl rfl rfl rfl rfl rfl (re (gs (rg (sv (EV.ld (v := .agg #[.int .i64 t30_1, .slice At30_2 t30_2.length ct30_2, .slice At29_1 t29_1.length ct29_1, .slice At30_4 t30_4.length ct30_4, .int .i64 t30_5]) 2 (some 5) rfl rfl rfl) rfl (so rfl (op_lit (s := 5) (by_ := 88) k44 ([(⟨t30_1, t30_2, t29_1, t30_4, t30_5⟩ : S44)] : List S44) [[(At30_2, ct30_2), (At29_1, ct29_1), (At30_4, ct30_4)]] [5, 3, 7] 11 [.tmp 107] rfl rfl rfl rfl rfl rfl rfl rfl rfl rfl rfl rfl rfl dq rfl fun A108_31 c108_31 => (nmE (en := [.sl 2 k44 At1_0 ct1_0 t1_0 2 true, .sl 1 k44 (cutA At1_0 ct1_0 (1 : Int).toNat 5) (ct1_0 - (1 : Int).toNat) (t1_0.drop (1 : Int).toNat) 2 true, .sl 2 k70 At29_0 ct29_0 t29_0 4 true, .sl 2 k70 At29_1 ct29_1 t29_1 11 true, .sl 2 k92 At30_0 ct30_0 t30_0 7 true, .sl 2 k70 At30_2 ct30_2 t30_2 11 true, .sl 2 k70 At30_3 ct30_3 t30_3 9 true, .sl 2 .bool At30_4 ct30_4 t30_4 11 true, .sl 2 k44 A108_31 c108_31 ([(⟨t30_1, t30_2, t29_1, t30_4, t30_5⟩ : S44)] : List S44) 11 true]) (by kernel_rfl) (sv (EV.mv rfl) rfl ?_)))))))))))))))))))))))
        revert H; refine ggI ?_; intro g32 H
        refine so rfl (op_app (k := k44) (s := 5) (by_ := 88) 8 1 rfl rfl rfl rfl (ap2 g32 dq) (ap2n g32 dq) (.inr ⟨dq, dq, rfl, dq⟩) true (fun _ => .inr ⟨rfl, rfl, dq⟩) rfl rfl fun A110_33 c110_33 => (nmE (en := [.sl 2 k44 At1_0 ct1_0 t1_0 11 true, .sl 1 k44 (cutA At1_0 ct1_0 (1 : Int).toNat 5) (ct1_0 - (1 : Int).toNat) (t1_0.drop (1 : Int).toNat) 11 true, .sl 2 k70 At29_0 ct29_0 t29_0 4 true, .sl 2 k92 At30_0 ct30_0 t30_0 7 true, .sl 2 k70 At30_3 ct30_3 t30_3 9 true, .sl 2 k44 A110_33 c110_33 (([(⟨t30_1, t30_2, t29_1, t30_4, t30_5⟩ : S44)] : List S44) ++ (t1_0.drop (1 : Int).toNat)) 11 true]) (by kernel_rfl) (sv (EV.fa 0 rfl) rfl (so rfl (op_st (cs' := [.slice A110_33 (([(⟨t30_1, t30_2, t29_1, t30_4, t30_5⟩ : S44)] : List S44) ++ (t1_0.drop (1 : Int).toNat)).length c110_33, .int .i64 t1_1, .int .i64 t1_2]) 1 rfl rfl rfl rfl rfl rfl (re (pr [4, 8, 15, 17] [0, 1] [2, 3, 5] rfl rfl rfl rfl (gs (dr [1] [0, 1, 2] [6, 7] 8 rfl rfl rfl rfl (xv 0 [1] [0, 1, 2] rfl (EV.ld (v := .agg #[.slice A110_33 (([(⟨t30_1, t30_2, t29_1, t30_4, t30_5⟩ : S44)] : List S44) ++ (t1_0.drop (1 : Int).toNat)).length c110_33, .int .i64 t1_1, .int .i64 t1_2]) 0 (some 3) rfl rfl rfl) rfl rfl rfl rfl (xv 1 [1] [0, 1, 2] rfl (EV.mv rfl) rfl rfl rfl rfl (xv 2 [1] [0, 1, 2] rfl (EV.mv rfl) rfl rfl rfl rfl (one1 3 rfl rfl ?_)))))))))))))
        revert H; refine bdI ?_; rintro t34 A34 H
        refine op_call (spec_TotalCost.ok k t29_0 At29_0 ct29_0 _ A34) [⟨0, 0, 0, false⟩] 12 rfl rfl rfl rfl rfl ?_
        rintro _ _ _ ⟨rfl, rfl, rfl⟩
        refine xs [1] [0, 1, 2] rfl rfl rfl (one1 4 rfl rfl (op_st (cs' := [.slice A110_33 (([(⟨t30_1, t30_2, t29_1, t30_4, t30_5⟩ : S44)] : List S44) ++ (t1_0.drop (1 : Int).toNat)).length c110_33, .int .i64 t1_1, .int .i64 t1_2]) 0 rfl rfl rfl rfl rfl rfl (xs [1] [0, 1, 2] rfl rfl rfl (one1 5 rfl rfl (ov (EV.as rfl) rfl (xs [1] [0, 1, 2] rfl rfl rfl (one1 6 rfl rfl (ov (EV.as rfl) rfl (xn rfl (one1 7 rfl rfl (ov (EV.as rfl) rfl (xn rfl (xd (pr [4, 5, 6, 7] [0] [1, 2] rfl rfl rfl rfl ?_))))))))))))))
        cases H
        exact rt Try.func55 rfl (.cell 0 (some 3) rfl rfl rfl (.tmp rfl (.tmp rfl (.tmp rfl .nil)))) rfl [] [⟨1, 1, 1, true⟩, ⟨0, 2, 2, true⟩] rfl rfl rfl rfl rfl ⟨_, _, _, _, rfl, rfl, rfl⟩
       ·
        obtain rfl := bF c28
        refine gf rfl rfl (gk (gs (rg (sv (EV.ld (v := .agg #[.int .i64 ((rd_T44 t1_0 0).f0), .slice A_9 ((rd_T44 t1_0 0).f1).length c_9, .slice A_10 ((rd_T44 t1_0 0).f2).length c_10, .slice A_11 ((rd_T44 t1_0 0).f3).length c_11, .int .i64 ((rd_T44 t1_0 0).f4)]) 3 (some 5) rfl rfl rfl) rfl ?_))))
        revert H; refine bdI ?_; rintro ⟨t35_0, t35_1, t35_2, t35_3, t35_4, t35_5, t35_6, t35_7, t35_8, t35_9, t35_10⟩ A35 H
        refine so rfl (op_call (spec_PartitionTask.ok k ((rd_T44 t1_0 0).f0) ((rd_T44 t1_0 0).f1) A_9 c_9 ((rd_T44 t1_0 0).f2) A_10 c_10 ((rd_T44 t1_0 0).f3) A_11 c_11 ((rd_T44 t1_0 0).f4) _ _ _ _ _ _ _ _ _ _ _ A35) [⟨3, 0, 0, false⟩, ⟨4, 0, 0, false⟩, ⟨5, 0, 0, false⟩] 3 rfl rfl rfl rfl rfl ?_)
        rintro _ _ _ ⟨At35_1, ct35_1, At35_2, ct35_2, At35_3, ct35_3, At35_6, ct35_6, At35_7, ct35_7, At35_8, ct35_8, rfl, rfl, rfl⟩
        refine sv (EV.mv rfl) rfl (sv (EV.ex rfl rfl) rfl (sv (EV.ex rfl rfl) rfl (sv (EV.ex rfl rfl) rfl (so rfl (op_alloc (cs := [.int .i64 0, .slice none 0 0, .slice none 0 0, .slice none 0 0, .int .i64 0]) (by kernel_rfl) rfl fun b19 => (so rfl (op_alloc (cs := [.int .i64 0, .slice none 0 0, .slice none 0 0, .slice none 0 0, .int .i64 0]) (by kernel_rfl) rfl fun b20 => (so rfl (op_st (cs' := [.int .i64 t35_0, .slice At35_1 t35_1.length ct35_1, .slice At35_2 t35_2.length ct35_2, .slice At35_3 t35_3.length ct35_3, .int .i64 t35_4]) 4 rfl rfl rfl rfl rfl rfl (so rfl (op_st (cs' := [.int .i64 t35_5, .slice At35_6 t35_6.length ct35_6, .slice At35_7 t35_7.length ct35_7, .slice At35_8 t35_8.length ct35_8, .int .i64 t35_9]) 5 rfl rfl rfl rfl rfl rfl (sv (EV.as rfl) rfl (re (pr [2, 4, 8, 9, 10, 19, 20] [0, 1, 2, 3, 4, 5] [0, 1, 2, 3, 4, 5, 6, 7, 8, 9, 10, 11, 12] rfl rfl rfl rfl (gs (rg (sv (EV.ld (v := .agg #[.int .i64 t35_0, .slice At35_1 t35_1.length ct35_1, .slice At35_2 t35_2.length ct35_2, .slice At35_3 t35_3.length ct35_3, .int .i64 t35_4]) 4 (some 5) rfl rfl rfl) rfl (sv (EV.ld (v := .agg #[.int .i64 t35_5, .slice At35_6 t35_6.length ct35_6, .slice At35_7 t35_7.length ct35_7, .slice At35_8 t35_8.length ct35_8, .int .i64 t35_9]) 5 (some 5) rfl rfl rfl) rfl (so rfl (op_lit (s := 5) (by_ := 88) k44 ([(⟨t35_0, t35_1, t35_2, t35_3, t35_4⟩ : S44), (⟨t35_5, t35_6, t35_7, t35_8, t35_9⟩ : S44)] : List S44) [[(At35_1, ct35_1), (At35_2, ct35_2), (At35_3, ct35_3)], [(At35_6, ct35_6), (At35_7, ct35_7), (At35_8, ct35_8)]] [7, 8, 9, 10, 11, 12] 10 [.tmp 122, .tmp 123] rfl rfl rfl rfl rfl rfl rfl rfl rfl rfl rfl rfl rfl dq rfl fun A124_36 c124_36 => (nmE (en := [.sl 0 k44 Al0_0 cl0_0 l0_0 0 false, .sl 2 k44 At1_0 ct1_0 t1_0 2 true, celE At1_0 ((0 : Int).toNat * 5) [.int .i64 ((rd_T44 t1_0 0).f0), .slice A_9 ((rd_T44 t1_0 0).f1).length c_9, .slice A_10 ((rd_T44 t1_0 0).f2).length c_10, .slice A_11 ((rd_T44 t1_0 0).f3).length c_11, .int .i64 ((rd_T44 t1_0 0).f4)] 2, .sl 1 k70 A_9 c_9 ((rd_T44 t1_0 0).f1) 2 true, .sl 1 k70 A_10 c_10 ((rd_T44 t1_0 0).f2) 2 true, .sl 1 .bool A_11 c_11 ((rd_T44 t1_0 0).f3) 2 true, .sl 1 k44 (cutA At1_0 ct1_0 (1 : Int).toNat 5) (ct1_0 - (1 : Int).toNat) (t1_0.drop (1 : Int).toNat) 2 true, .sl 2 k70 At35_1 ct35_1 t35_1 10 true, .sl 2 k70 At35_2 ct35_2 t35_2 10 true, .sl 2 .bool At35_3 ct35_3 t35_3 10 true, .sl 2 k70 At35_6 ct35_6 t35_6 10 true, .sl 2 k70 At35_7 ct35_7 t35_7 10 true, .sl 2 .bool At35_8 ct35_8 t35_8 10 true, .sl 2 k44 A124_36 c124_36 ([(⟨t35_0, t35_1, t35_2, t35_3, t35_4⟩ : S44), (⟨t35_5, t35_6, t35_7, t35_8, t35_9⟩ : S44)] : List S44) 10 true]) (by kernel_rfl) (sv (EV.mv rfl) rfl ?_))))))))))))))))))))))
        revert H; refine ggI ?_; intro g37 H
        refine so rfl (op_app (k := k44) (s := 5) (by_ := 88) 13 6 rfl rfl rfl rfl (ap2 g37 dq) (ap2n g37 dq) (.inr ⟨dq, dq, rfl, dq⟩) true (fun _ => .inr ⟨rfl, rfl, dq⟩) rfl rfl fun A126_38 c126_38 => (nmE (en := [.sl 0 k44 Al0_0 cl0_0 l0_0 0 false, .sl 2 k44 At1_0 ct1_0 t1_0 10 true, celE At1_0 ((0 : Int).toNat * 5) [.int .i64 ((rd_T44 t1_0 0).f0), .slice A_9 ((rd_T44 t1_0 0).f1).length c_9, .slice A_10 ((rd_T44 t1_0 0).f2).length c_10, .slice A_11 ((rd_T44 t1_0 0).f3).length c_11, .int .i64 ((rd_T44 t1_0 0).f4)] 10, .sl 1 k70 A_9 c_9 ((rd_T44 t1_0 0).f1) 10 true, .sl 1 k70 A_10 c_10 ((rd_T44 t1_0 0).f2) 10 true, .sl 1 .bool A_11 c_11 ((rd_T44 t1_0 0).f3) 10 true, .sl 1 k44 (cutA At1_0 ct1_0 (1 : Int).toNat 5) (ct1_0 - (1 : Int).toNat) (t1_0.drop (1 : Int).toNat) 10 true, .sl 2 k44 A126_38 c126_38 (([(⟨t35_0, t35_1, t35_2, t35_3, t35_4⟩ : S44), (⟨t35_5, t35_6, t35_7, t35_8, t35_9⟩ : S44)] : List S44) ++ (t1_0.drop (1 : Int).toNat)) 10 true]) (by kernel_rfl) (sv (EV.fa 0 rfl) rfl (so rfl (op_st (cs' := [.slice A126_38 (([(⟨t35_0, t35_1, t35_2, t35_3, t35_4⟩ : S44), (⟨t35_5, t35_6, t35_7, t35_8, t35_9⟩ : S44)] : List S44) ++ (t1_0.drop (1 : Int).toNat)).length c126_38, .int .i64 t1_1, .int .i64 t1_2]) 2 rfl rfl rfl rfl rfl rfl (re (pr [2, 4, 8, 9] [0, 1, 2, 3] [0, 3, 4, 5, 7] rfl rfl rfl rfl (gs (dr [0, 1, 2, 3] [0, 1, 2, 3, 4] [6] 7 rfl rfl rfl rfl (xv 0 [0, 1, 2, 3] [0, 1, 2, 3, 4] rfl (EV.fa 1 rfl) rfl rfl rfl rfl (xv 1 [0, 1, 2, 3] [0, 1, 2, 3, 4] rfl (EV.ld 0 none rfl rfl rfl) rfl rfl rfl rfl (xv 2 [0, 1, 2, 3] [0, 1, 2, 3, 4] rfl (EV.ld (v := .agg #[.int .i64 ((rd_T44 t1_0 0).f0), .slice A_9 ((rd_T44 t1_0 0).f1).length c_9, .slice A_10 ((rd_T44 t1_0 0).f2).length c_10, .slice A_11 ((rd_T44 t1_0 0).f3).length c_11, .int .i64 ((rd_T44 t1_0 0).f4)]) 3 (some 5) rfl rfl rfl) rfl rfl rfl rfl (one1 3 rfl rfl ?_)))))))))))))
        revert H; refine bdI ?_; rintro t39 A39 H
        refine op_call (spec_TaskCost.ok k ((rd_T44 t1_0 0).f0) ((rd_T44 t1_0 0).f1) A_9 c_9 ((rd_T44 t1_0 0).f2) A_10 c_10 ((rd_T44 t1_0 0).f3) A_11 c_11 ((rd_T44 t1_0 0).f4) _ A39) [⟨1, 0, 0, false⟩, ⟨2, 0, 0, false⟩, ⟨3, 0, 0, false⟩] 11 rfl rfl rfl rfl rfl ?_
        rintro _ _ _ ⟨rfl, rfl, rfl⟩
        refine xs [0, 1, 2, 3] [0, 1, 2, 3, 4] rfl rfl rfl (xv 4 [0, 1, 2, 3] [0, 1, 2, 3, 4] rfl (EV.add rfl rfl) rfl rfl rfl rfl (xv 5 [0, 1, 2, 3] [0, 1, 2, 3, 4] rfl (EV.fa 1 rfl) rfl rfl rfl rfl (one1 6 rfl rfl (op_st (cs' := [.slice A126_38 (([(⟨t35_0, t35_1, t35_2, t35_3, t35_4⟩ : S44), (⟨t35_5, t35_6, t35_7, t35_8, t35_9⟩ : S44)] : List S44) ++ (t1_0.drop (1 : Int).toNat)).length c126_38, .int .i64 (wrap64 (a0_1 + t39)), .int .i64 t1_2]) 2 rfl rfl rfl rfl rfl rfl (xn rfl (xd (pr [2, 4, 8] [0, 1, 2] [0, 4] rfl rfl rfl rfl (gs (rg (sv (EV.fa 2 rfl) rfl (sv (EV.ld 0 none rfl rfl rfl) rfl (sv (EV.add rfl rfl) rfl (sv (EV.fa 2 rfl) rfl (so rfl (op_st (cs' := [.slice A126_38 (([(⟨t35_0, t35_1, t35_2, t35_3, t35_4⟩ : S44), (⟨t35_5, t35_6, t35_7, t35_8, t35_9⟩ : S44)] : List S44) ++ (t1_0.drop (1 : Int).toNat)).length c126_38, .int .i64 (wrap64 (a0_1 + t39)), .int .i64 (wrap64 (a0_2 + 1))]) 2 rfl rfl rfl rfl rfl rfl (re (gs (rg (sv (EV.ld (v := .agg #[.slice A126_38 (([(⟨t35_0, t35_1, t35_2, t35_3, t35_4⟩ : S44), (⟨t35_5, t35_6, t35_7, t35_8, t35_9⟩ : S44)] : List S44) ++ (t1_0.drop (1 : Int).toNat)).length c126_38, .int .i64 (wrap64 (a0_1 + t39)), .int .i64 (wrap64 (a0_2 + 1))]) 2 (some 3) rfl rfl rfl) rfl (so rfl (op_lit (s := 7) (by_ := 56) k92 ([] : List S92) [] [] 11 [] rfl rfl rfl rfl rfl rfl rfl rfl rfl rfl rfl rfl rfl dq rfl fun A139_40 c139_40 => (so rfl (op_st (cs' := [.slice A126_38 (([(⟨t35_0, t35_1, t35_2, t35_3, t35_4⟩ : S44), (⟨t35_5, t35_6, t35_7, t35_8, t35_9⟩ : S44)] : List S44) ++ (t1_0.drop (1 : Int).toNat)).length c126_38, .int .i64 (wrap64 (a0_1 + t39)), .int .i64 (wrap64 (a0_2 + 1))]) 1 rfl rfl rfl rfl rfl rfl (sv (EV.as rfl) rfl (sv (EV.as rfl) rfl (sv (EV.as rfl) rfl (re (pr [4, 5, 6, 7] [1] [1, 2] rfl rfl rfl rfl ?_))))))))))))))))))))))))))))
        cases H
        exact rt Try.func55 rfl (.cell 0 (some 3) rfl rfl rfl (.tmp rfl (.tmp rfl (.tmp rfl .nil)))) rfl [] [⟨0, 1, 1, true⟩, ⟨1, 2, 2, true⟩] rfl rfl rfl rfl rfl ⟨_, _, _, _, rfl, rfl, rfl⟩
   ·
    obtain rfl := bF c7
    refine gt rfl rfl (gs (rg (sv (EV.ld (v := .agg #[.slice At1_0 t1_0.length ct1_0, .int .i64 t1_1, .int .i64 t1_2]) 2 (some 3) rfl rfl rfl) rfl (so rfl (op_lit (s := 7) (by_ := 56) k92 ([] : List S92) [] [] 3 [] rfl rfl rfl rfl rfl rfl rfl rfl rfl rfl rfl rfl rfl dq rfl fun A39_41 c39_41 => (so rfl (op_st (cs' := [.slice At1_0 t1_0.length ct1_0, .int .i64 t1_1, .int .i64 t1_2]) 1 rfl rfl rfl rfl rfl rfl (sv (EV.as rfl) rfl (sv (EV.as rfl) rfl (sv (EV.as rfl) rfl (re (pr [4, 5, 6, 7] [1] [1, 2] rfl rfl rfl rfl ?_))))))))))))
    cases H
    exact rt Try.func55 rfl (.cell 0 (some 3) rfl rfl rfl (.tmp rfl (.tmp rfl (.tmp rfl .nil)))) rfl [] [⟨0, 1, 1, true⟩, ⟨1, 2, 2, true⟩] rfl rfl rfl rfl rfl ⟨_, _, _, _, rfl, rfl, rfl⟩
 ·
  obtain rfl := bF c3
  refine ts 27 rfl rfl (sk rfl (sk rfl (sk rfl (sk rfl (sv (EV.pt rfl rfl rfl) rfl (sv (EV.mv rfl) rfl (sk rfl (sk rfl (sk rfl (sv (EV.pt rfl rfl rfl) rfl (re (pr [1, 2, 4, 8, 37] [0, 1, 2] [0, 1] rfl rfl rfl rfl (gt rfl rfl (gs (rg (sv (EV.ld (v := .agg #[.slice At1_0 t1_0.length ct1_0, .int .i64 t1_1, .int .i64 t1_2]) 2 (some 3) rfl rfl rfl) rfl (so rfl (op_lit (s := 7) (by_ := 56) k92 ([] : List S92) [] [] 3 [] rfl rfl rfl rfl rfl rfl rfl rfl rfl rfl rfl rfl rfl dq rfl fun A39_42 c39_42 => (so rfl (op_st (cs' := [.slice At1_0 t1_0.length ct1_0, .int .i64 t1_1, .int .i64 t1_2]) 1 rfl rfl rfl rfl rfl rfl (sv (EV.as rfl) rfl (sv (EV.as rfl) rfl (sv (EV.as rfl) rfl (re (pr [4, 5, 6, 7] [1] [1, 2] rfl rfl rfl rfl ?_)))))))))))))))))))))))))
  cases H
  exact rt Try.func55 rfl (.cell 0 (some 3) rfl rfl rfl (.tmp rfl (.tmp rfl (.tmp rfl .nil)))) rfl [] [⟨0, 1, 1, true⟩, ⟨1, 2, 2, true⟩] rfl rfl rfl rfl rfl ⟨_, _, _, _, rfl, rfl, rfl⟩
end Go.Proofs.Ytajjeemkdjfilaa.K
namespace Go.Proofs.Ytajjeemkdjfilaa.K
open Go Go.RowKit
set_option linter.unusedVariables false
set_option linter.unusedSimpArgs false
def spec_l20Go.l0 : Nat → (List S44) → Int → Int → (List S92) → Int → Int → Int → (List S92) → Int → Int → Int → (List Int) → Option ((List S92) × Int × Int × Int)
 | 0, _, _, _, _, _, _, _, _, _, _, _, _ => none
 | k + 1, x4_2_0, x4_2_1, x4_2_2, x4_4_0, x4_4_1, x4_4_2, x4_4_3, x4_5_0, x4_5_1, x4_5_2, x4_5_3, l1 => if (x4_2_0.length : Int) > 0 then (if (l1.length : Int) ≠ 0 then (if 0 ≤ (Int.tmod x4_5_1 (l1.length : Int)) then (if (Int.tmod x4_5_1 (l1.length : Int)) < (l1.length : Int) then ((spec_StepJoiner.f k x4_2_0 x4_2_1 x4_2_2 (rdOf 0 l1 (Int.tmod x4_5_1 (l1.length : Int)))).bind fun bt5 => (if bt5.2.2.2.2.2 = true then (if x4_5_0.length + bt5.2.2.2.1.length ≤ 2513169434916 then (spec_l20Go.l0 k bt5.1 bt5.2.1 bt5.2.2.1 x4_4_0 x4_4_1 x4_4_2 x4_4_3 (x4_5_0 ++ bt5.2.2.2.1) (wrap64 (x4_5_1 + 1)) (mx x4_5_2 bt5.2.2.2.2.1) x4_5_3 l1) else none) else (some (x4_5_0, x4_5_1, x4_5_2, x4_5_3)))) else none) else none) else none) else (some (x4_5_0, x4_5_1, x4_5_2, x4_2_1))
def spec_l20Go.f (k : Nat) (l0_0 : List S44) (a0_1 : Int) (a0_2 : Int) (l1 : List Int) : Option ((List S92) × Int × Int × Int) := spec_l20Go.l0 k l0_0 a0_1 a0_2 [] 0 0 0 [] 0 0 0 l1
set_option maxHeartbeats 4000000 in
set_option maxRecDepth 100000 in
theorem spec_l20Go.ok (k : Nat) (l0_0 : List S44) (Al0_0 : Option Addr) (cl0_0 : Nat) (a0_1 : Int) (a0_2 : Int) (l1 : List Int) (Al1 : Option Addr) (cl1 : Nat) (r0 : List S92) (r1 : Int) (r2 : Int) (r3 : Int) (H : spec_l20Go.f k l0_0 a0_1 a0_2 l1 = some (r0, r1, r2, r3)) : Fn Try.prog 70 [.agg #[.slice Al0_0 l0_0.length cl0_0, .int .i64 a0_1, .int .i64 a0_2], .slice Al1 l1.length cl1] [] [.sl 0 k44 Al0_0 cl0_0 l0_0 0 false, .sl 0 (.int .i64) Al1 cl1 l1 0 false] (fun v bx en => ∃ A0 c0, v = .agg #[.slice A0 r0.length c0, .int .i64 r1, .int .i64 r2, .int .i64 r3] ∧ bx = [] ∧ en = [.sl 2 k92 A0 c0 r0 1 true]) := by
 refine fn_ 52 Try.func70 rfl rfl rfl (fun base T w0 => ?_)
 rw [spec_l20Go.f] at H
 refine gs (rg (so rfl (op_box (cs := [.slice Al0_0 l0_0.length cl0_0, .int .i64 a0_1, .int .i64 a0_2]) rfl rfl rfl fun b2 => (so rfl (op_alloc (cs := [.slice none 0 0, .int .i64 0, .int .i64 0, .int .i64 0]) (by kernel_rfl) rfl fun b4 => (re (gs (rg (sv (EV.bd (v := .agg #[.slice none 0 0, .int .i64 0, .int .i64 0, .int .i64 0]) rfl (by kernel_rfl)) rfl (so rfl (op_alloc (cs := [.slice none 0 0, .int .i64 0, .int .i64 0, .int .i64 0]) (by kernel_rfl) rfl fun b5 => (so rfl (op_st (cs' := [.slice none 0 0, .int .i64 0, .int .i64 0, .int .i64 0]) 2 rfl rfl rfl rfl rfl rfl (re (gs (gb (nil_ k92 1 dq (nil_ k92 2 dq ?_))))))))))))))))))
 refine lo (fun kk S => ∃ (x4_2_0 : List S44) (Ax4_2_0 : Option Addr) (cx4_2_0 : Nat) (x4_2_1 : Int) (x4_2_2 : Int) (x4_4_0 : List S92) (Ax4_4_0 : Option Addr) (cx4_4_0 : Nat) (x4_4_1 : Int) (x4_4_2 : Int) (x4_4_3 : Int) (x4_5_0 : List S92) (Ax4_5_0 : Option Addr) (cx4_5_0 : Nat) (x4_5_1 : Int) (x4_5_2 : Int) (x4_5_3 : Int), spec_l20Go.l0 kk x4_2_0 x4_2_1 x4_2_2 x4_4_0 x4_4_1 x4_4_2 x4_4_3 x4_5_0 x4_5_1 x4_5_2 x4_5_3 l1 = some (r0, r1, r2, r3) ∧ S = ⟨[(1, .slice Al1 l1.length cl1), (2, .pointer (some ⟨b2, 0, none⟩)), (4, .pointer (some ⟨b4, 0, none⟩)), (5, .pointer (some ⟨b5, 0, none⟩))], [⟨b2, 73, [.slice Ax4_2_0 x4_2_0.length cx4_2_0, .int .i64 x4_2_1, .int .i64 x4_2_2]⟩, ⟨b4, 30, [.slice Ax4_4_0 x4_4_0.length cx4_4_0, .int .i64 x4_4_1, .int .i64 x4_4_2, .int .i64 x4_4_3]⟩, ⟨b5, 30, [.slice Ax4_5_0 x4_5_0.length cx4_5_0, .int .i64 x4_5_1, .int .i64 x4_5_2, .int .i64 x4_5_3]⟩], [.sl 0 k44 Ax4_2_0 cx4_2_0 x4_2_0 0 false, .sl 2 k92 Ax4_4_0 cx4_4_0 x4_4_0 1 true, .sl 2 k92 Ax4_5_0 cx4_5_0 x4_5_0 2 true, .sl 0 (.int .i64) Al1 cl1 l1 0 false]⟩) (fun S hS => ?_) (fun n0 ih0 S hS => ?_) ⟨l0_0, Al0_0, cl0_0, a0_1, a0_2, [], none, 0, 0, 0, 0, [], none, 0, 0, 0, 0, H, rfl⟩ (fun h => wk [1, 2, 4, 5] [0, 1, 2] [⟨0, 0, 0, false⟩, ⟨2, 2, 1, true⟩, ⟨3, 2, 2, true⟩, ⟨1, 0, 0, false⟩] h)
 · clear H; obtain ⟨_, _, _, _, _, _, _, _, _, _, _, _, _, _, _, _, _, H, _⟩ := hS; rw [spec_l20Go.l0] at H; cases H
 clear H
 obtain ⟨x4_2_0, Ax4_2_0, cx4_2_0, x4_2_1, x4_2_2, x4_4_0, Ax4_4_0, cx4_4_0, x4_4_1, x4_4_2, x4_4_3, x4_5_0, Ax4_5_0, cx4_5_0, x4_5_1, x4_5_2, x4_5_3, H, rfl⟩ := hS
 rw [spec_l20Go.l0] at H
 refine gs (gs (rg (sv (EV.fa 0 rfl) rfl (sv (EV.ld 0 none rfl rfl rfl) rfl (sv (EV.ln rfl) rfl (sv (EV.gtr rfl rfl) rfl (re ?_)))))))
 revert H; refine ifsI ?_ ?_ <;> intro c1 H
 ·
  refine gt rfl (dT c1) (gk (gb (gs ?_)))
  revert H; refine ggI ?_; intro g2 H
  refine dr [0, 1, 2] [0, 1, 2, 3] [19] 20 rfl rfl rfl rfl (xv 0 [0, 1, 2] [0, 1, 2, 3] rfl (EV.ld (v := .agg #[.slice Ax4_2_0 x4_2_0.length cx4_2_0, .int .i64 x4_2_1, .int .i64 x4_2_2]) 0 (some 3) rfl rfl rfl) rfl rfl rfl rfl (xv 1 [0, 1, 2] [0, 1, 2, 3] rfl (EV.mv rfl) rfl rfl rfl rfl (xv 2 [0, 1, 2] [0, 1, 2, 3] rfl (EV.fa 1 rfl) rfl rfl rfl rfl (xv 3 [0, 1, 2] [0, 1, 2, 3] rfl (EV.ld 2 none rfl rfl rfl) rfl rfl rfl rfl (xv 4 [0, 1, 2] [0, 1, 2, 3] rfl (EV.mv rfl) rfl rfl rfl rfl (xv 5 [0, 1, 2] [0, 1, 2, 3] rfl (EV.ln rfl) rfl rfl rfl rfl (xv 6 [0, 1, 2] [0, 1, 2, 3] rfl (EV.rem rfl rfl g2) rfl rfl rfl rfl ?_)))))))
  revert H; refine ggI ?_; intro g3 H
  revert H; refine ggI ?_; intro g4 H
  refine xv 7 [0, 1, 2] [0, 1, 2, 3] rfl (EV.ix 3 rfl rfl rfl g3 g4 rfl) rfl rfl rfl rfl (xv 8 [0, 1, 2] [0, 1, 2, 3] rfl (EV.le (v := .int .i64 (rdOf 0 l1 (Int.tmod x4_5_1 (l1.length : Int)))) (Int.tmod x4_5_1 (l1.length : Int)) 0 none 3 0 rfl rfl rfl g3 g4 rfl rfl rfl) rfl rfl rfl rfl ?_)
  refine one2 9 15 rfl rfl rfl rfl ?_ ?_
  ·
   revert H; refine bdI ?_; rintro ⟨t5_0, t5_1, t5_2, t5_3, t5_4, t5_5⟩ A5 H
   refine op_call (spec_StepJoiner.ok n0 x4_2_0 Ax4_2_0 cx4_2_0 x4_2_1 x4_2_2 (rdOf 0 l1 (Int.tmod x4_5_1 (l1.length : Int))) _ _ _ _ _ _ A5) [⟨0, 0, 0, false⟩] 3 rfl rfl rfl rfl rfl ?_
   rintro _ _ _ ⟨At5_0, ct5_0, At5_3, ct5_3, rfl, rfl, rfl⟩
   refine xs [0, 1, 2] [0, 1, 2, 3] rfl rfl rfl (xv 10 [0, 1, 2] [0, 1, 2, 3] rfl (EV.mv rfl) rfl rfl rfl rfl (xv 11 [0, 1, 2] [0, 1, 2, 3] rfl (EV.ex rfl rfl) rfl rfl rfl rfl (xv 12 [0, 1, 2] [0, 1, 2, 3] rfl (EV.ex rfl rfl) rfl rfl rfl rfl (xv 13 [0, 1, 2] [0, 1, 2, 3] rfl (EV.ex rfl rfl) rfl rfl rfl rfl (xv 14 [0, 1, 2] [0, 1, 2, 3] rfl (EV.ex rfl rfl) rfl rfl rfl rfl (one1 15 rfl rfl (op_alloc (cs := [.slice none 0 0, .int .i64 0, .int .i64 0]) (by kernel_rfl) rfl fun b6 => (xs [0, 1, 2] [0, 1, 2, 3] rfl rfl rfl (one1 16 rfl rfl (op_st (cs' := [.slice At5_0 t5_0.length ct5_0, .int .i64 t5_1, .int .i64 t5_2]) 3 rfl rfl rfl rfl rfl rfl (xs [0, 1, 2] [0, 1, 2, 3] rfl rfl rfl (one1 17 rfl rfl (ov (EV.as rfl) rfl (xs [0, 1, 2] [0, 1, 2, 3] rfl rfl rfl (one1 18 rfl rfl (ov (EV.as rfl) rfl (xs [0, 1, 2] [0, 1, 2, 3] rfl rfl rfl (one1 19 rfl rfl (ov (EV.as rfl) rfl (xn rfl (xd (pr [1, 2, 4, 5, 6, 7, 8, 9] [0, 1, 2, 3] [0, 1, 2, 3, 4, 5] rfl rfl rfl rfl (gs (gs (rg (sv (EV.mv rfl) rfl (sv (EV.nt rfl) rfl (re ?_))))))))))))))))))))))))))))
   revert H; refine ifsI ?_ ?_ <;> intro c6 H
   ·
    subst c6
    refine gf rfl rfl (gk (gs (rg (sv (EV.fa 1 rfl) rfl (sv (EV.ld 2 none rfl rfl rfl) rfl (sv (EV.add rfl rfl) rfl (sv (EV.fa 1 rfl) rfl (so rfl (op_st (cs' := [.slice Ax4_5_0 x4_5_0.length cx4_5_0, .int .i64 (wrap64 (x4_5_1 + 1)), .int .i64 x4_5_2, .int .i64 x4_5_3]) 2 rfl rfl rfl rfl rfl rfl (re (pr [1, 2, 4, 5, 6, 7, 8] [0, 1, 2, 3] [0, 1, 2, 3, 4, 5] rfl rfl rfl rfl (gs (rg (sv (EV.fa 0 rfl) rfl (sv (EV.ld 2 none rfl rfl rfl) rfl (sv (EV.mv rfl) rfl ?_))))))))))))))))
    revert H; refine ggI ?_; intro g7 H
    exact so rfl (op_app (k := k92) (s := 7) (by_ := 56) 2 5 rfl rfl rfl rfl (ap2 g7 dq) (ap2n g7 dq) (.inl rfl) true (fun _ => .inl rfl) rfl rfl fun A40_8 c40_8 => (nmE (en := [.sl 0 k44 Ax4_2_0 cx4_2_0 x4_2_0 0 false, .sl 2 k92 Ax4_4_0 cx4_4_0 x4_4_0 1 true, .sl 0 (.int .i64) Al1 cl1 l1 0 false, .sl 1 k44 At5_0 ct5_0 t5_0 4 true, .sl 2 k92 At5_3 ct5_3 t5_3 5 true, .sl 2 k92 A40_8 c40_8 (x4_5_0 ++ t5_3) 2 true]) (by kernel_rfl) (sv (EV.fa 0 rfl) rfl (so rfl (op_st (cs' := [.slice A40_8 (x4_5_0 ++ t5_3).length c40_8, .int .i64 (wrap64 (x4_5_1 + 1)), .int .i64 x4_5_2, .int .i64 x4_5_3]) 2 rfl rfl rfl rfl rfl rfl (re (pr [1, 2, 4, 5, 6, 8] [0, 1, 2, 3] [0, 1, 2, 3, 5] rfl rfl rfl rfl (gs (rg (sv (EV.fa 2 rfl) rfl (sv (EV.ld 2 none rfl rfl rfl) rfl (sv (EV.mv rfl) rfl (sv (EV.mx rfl rfl) rfl (sv (EV.fa 2 rfl) rfl (so rfl (op_st (cs' := [.slice A40_8 (x4_5_0 ++ t5_3).length c40_8, .int .i64 (wrap64 (x4_5_1 + 1)), .int .i64 (mx x4_5_2 t5_4), .int .i64 x4_5_3]) 2 rfl rfl rfl rfl rfl rfl (re (pr [1, 2, 4, 5, 6] [0, 1, 2, 3] [0, 1, 2, 3, 4] rfl rfl rfl rfl (rg (sv (EV.ld (v := .agg #[.slice At5_0 t5_0.length ct5_0, .int .i64 t5_1, .int .i64 t5_2]) 3 (some 3) rfl rfl rfl) rfl (so rfl (op_st (cs' := [.slice At5_0 t5_0.length ct5_0, .int .i64 t5_1, .int .i64 t5_2]) 0 rfl rfl rfl rfl rfl rfl (re (ge (wk [1, 2, 4, 5] [0, 1, 2] [⟨3, 0, 0, false⟩, ⟨1, 2, 1, true⟩, ⟨4, 2, 2, true⟩, ⟨2, 0, 0, false⟩] (ih0 _ (by omega) _ ⟨t5_0, At5_0, ct5_0, t5_1, t5_2, x4_4_0, Ax4_4_0, cx4_4_0, x4_4_1, x4_4_2, x4_4_3, x4_5_0 ++ t5_3, A40_8, c40_8, wrap64 (x4_5_1 + 1), mx x4_5_2 t5_4, x4_5_3, H, rfl⟩))))))))))))))))))))))))))
   ·
    obtain rfl := bF c6
    refine gt rfl rfl (gs (rg (sv (EV.ld (v := .agg #[.slice Ax4_5_0 x4_5_0.length cx4_5_0, .int .i64 x4_5_1, .int .i64 x4_5_2, .int .i64 x4_5_3]) 2 (some 4) rfl rfl rfl) rfl (so rfl (op_st (cs' := [.slice Ax4_5_0 x4_5_0.length cx4_5_0, .int .i64 x4_5_1, .int .i64 x4_5_2, .int .i64 x4_5_3]) 1 rfl rfl rfl rfl rfl rfl (re (pr [4] [1] [2] rfl rfl rfl rfl ?_)))))))
    cases H
    exact rt Try.func70 rfl (.cell 0 (some 4) rfl rfl rfl .nil) rfl [] [⟨0, 2, 1, true⟩] rfl rfl rfl rfl rfl ⟨_, _, rfl, rfl, rfl⟩
  ·
   refine op_alloc (cs := [.slice none 0 0, .int .i64 0, .int .i64 0]) (by kernel_rfl) rfl fun b6 => (xs [0, 1, 2] [0, 1, 2, 3] rfl rfl rfl (one1 9 rfl rfl ?_))
   revert H; refine bdI ?_; rintro ⟨t9_0, t9_1, t9_2, t9_3, t9_4, t9_5⟩ A9 H
   refine op_call (spec_StepJoiner.ok n0 x4_2_0 Ax4_2_0 cx4_2_0 x4_2_1 x4_2_2 (rdOf 0 l1 (Int.tmod x4_5_1 (l1.length : Int))) _ _ _ _ _ _ A9) [⟨0, 0, 0, false⟩] 3 rfl rfl rfl rfl rfl ?_
   rintro _ _ _ ⟨At9_0, ct9_0, At9_3, ct9_3, rfl, rfl, rfl⟩
   refine xs [0, 1, 2] [0, 1, 2, 3] rfl rfl rfl (xv 10 [0, 1, 2] [0, 1, 2, 3] rfl (EV.mv rfl) rfl rfl rfl rfl (xv 11 [0, 1, 2] [0, 1, 2, 3] rfl (EV.ex rfl rfl) rfl rfl rfl rfl (xv 12 [0, 1, 2] [0, 1, 2, 3] rfl (EV.ex rfl rfl) rfl rfl rfl rfl (xv 13 [0, 1, 2] [0, 1, 2, 3] rfl (EV.ex rfl rfl) rfl rfl rfl rfl (xv 14 [0, 1, 2] [0, 1, 2, 3] rfl (EV.ex rfl rfl) rfl rfl rfl rfl (one1 16 rfl rfl (op_st (cs' := [.slice At9_0 t9_0.length ct9_0, .int .i64 t9_1, .int .i64 t9_2]) 3 rfl rfl rfl rfl rfl rfl (xs [0, 1, 2] [0, 1, 2, 3] rfl rfl rfl (one1 17 rfl rfl (ov (EV.as rfl) rfl (xs [0, 1, 2] [0, 1, 2, 3] rfl rfl rfl (one1 18 rfl rfl (ov (EV.as rfl) rfl (xs [0, 1, 2] [0, 1, 2, 3] rfl rfl rfl (one1 19 rfl rfl (ov (EV.as rfl) rfl (xn rfl (xd (pr [1, 2, 4, 5, 6, 7, 8, 9] [0, 1, 2, 3] [0, 1, 2, 3, 4, 5] rfl rfl rfl rfl (gs (gs (rg (sv (EV.mv rfl) rfl (sv (EV.nt rfl) rfl (re ?_)))))))))))))))))))))))))
   revert H; refine ifsI ?_ ?_ <;> intro c10 H
   ·
    subst c10
    refine gf rfl rfl (gk (gs (rg (sv (EV.fa 1 rfl) rfl (sv (EV.ld 2 none rfl rfl rfl) rfl (sv (EV.add rfl rfl) rfl (sv (EV.fa 1 rfl) rfl (so rfl (op_st (cs' := [.slice Ax4_5_0 x4_5_0.length cx4_5_0, .int .i64 (wrap64 (x4_5_1 + 1)), .int .i64 x4_5_2, .int .i64 x4_5_3]) 2 rfl rfl rfl rfl rfl rfl (re (pr [1, 2, 4, 5, 6, 7, 8] [0, 1, 2, 3] [0, 1, 2, 3, 4, 5] rfl rfl rfl rfl (gs (rg (sv (EV.fa 0 rfl) rfl (sv (EV.ld 2 none rfl rfl rfl) rfl (sv (EV.mv rfl) rfl ?_))))))))))))))))
    revert H; refine ggI ?_; intro g11 H
    exact so rfl (op_app (k := k92) (s := 7) (by_ := 56) 2 5 rfl rfl rfl rfl (ap2 g11 dq) (ap2n g11 dq) (.inl rfl) true (fun _ => .inl rfl) rfl rfl fun A40_12 c40_12 => (nmE (en := [.sl 0 k44 Ax4_2_0 cx4_2_0 x4_2_0 0 false, .sl 2 k92 Ax4_4_0 cx4_4_0 x4_4_0 1 true, .sl 0 (.int .i64) Al1 cl1 l1 0 false, .sl 1 k44 At9_0 ct9_0 t9_0 4 true, .sl 2 k92 At9_3 ct9_3 t9_3 5 true, .sl 2 k92 A40_12 c40_12 (x4_5_0 ++ t9_3) 2 true]) (by kernel_rfl) (sv (EV.fa 0 rfl) rfl (so rfl (op_st (cs' := [.slice A40_12 (x4_5_0 ++ t9_3).length c40_12, .int .i64 (wrap64 (x4_5_1 + 1)), .int .i64 x4_5_2, .int .i64 x4_5_3]) 2 rfl rfl rfl rfl rfl rfl (re (pr [1, 2, 4, 5, 6, 8] [0, 1, 2, 3] [0, 1, 2, 3, 5] rfl rfl rfl rfl (gs (rg (sv (EV.fa 2 rfl) rfl (sv (EV.ld 2 none rfl rfl rfl) rfl (sv (EV.mv rfl) rfl (sv (EV.mx rfl rfl) rfl (sv (EV.fa 2 rfl) rfl (so rfl (op_st (cs' := [.slice A40_12 (x4_5_0 ++ t9_3).length c40_12, .int .i64 (wrap64 (x4_5_1 + 1)), .int .i64 (mx x4_5_2 t9_4), .int .i64 x4_5_3]) 2 rfl rfl rfl rfl rfl rfl (re (pr [1, 2, 4, 5, 6] [0, 1, 2, 3] [0, 1, 2, 3, 4] rfl rfl rfl rfl (rg (sv (EV.ld (v := .agg #[.slice At9_0 t9_0.length ct9_0, .int .i64 t9_1, .int .i64 t9_2]) 3 (some 3) rfl rfl rfl) rfl (so rfl (op_st (cs' := [.slice At9_0 t9_0.length ct9_0, .int .i64 t9_1, .int .i64 t9_2]) 0 rfl rfl rfl rfl rfl rfl (re (ge (wk [1, 2, 4, 5] [0, 1, 2] [⟨3, 0, 0, false⟩, ⟨1, 2, 1, true⟩, ⟨4, 2, 2, true⟩, ⟨2, 0, 0, false⟩] (ih0 _ (by omega) _ ⟨t9_0, At9_0, ct9_0, t9_1, t9_2, x4_4_0, Ax4_4_0, cx4_4_0, x4_4_1, x4_4_2, x4_4_3, x4_5_0 ++ t9_3, A40_12, c40_12, wrap64 (x4_5_1 + 1), mx x4_5_2 t9_4, x4_5_3, H, rfl⟩))))))))))))))))))))))))))
   ·
    obtain rfl := bF c10
    refine gt rfl rfl (gs (rg (sv (EV.ld (v := .agg #[.slice Ax4_5_0 x4_5_0.length cx4_5_0, .int .i64 x4_5_1, .int .i64 x4_5_2, .int .i64 x4_5_3]) 2 (some 4) rfl rfl rfl) rfl (so rfl (op_st (cs' := [.slice Ax4_5_0 x4_5_0.length cx4_5_0, .int .i64 x4_5_1, .int .i64 x4_5_2, .int .i64 x4_5_3]) 1 rfl rfl rfl rfl rfl rfl (re (pr [4] [1] [2] rfl rfl rfl rfl ?_)))))))
    cases H
    exact rt Try.func70 rfl (.cell 0 (some 4) rfl rfl rfl .nil) rfl [] [⟨0, 2, 1, true⟩] rfl rfl rfl rfl rfl ⟨_, _, rfl, rfl, rfl⟩
 ·
  refine gf rfl (dF c1) (gx rfl (gs (rg (sv (EV.fa 1 rfl) rfl (sv (EV.ld 0 none rfl rfl rfl) rfl (sv (EV.fa 3 rfl) rfl (so rfl (op_st (cs' := [.slice Ax4_5_0 x4_5_0.length cx4_5_0, .int .i64 x4_5_1, .int .i64 x4_5_2, .int .i64 x4_2_1]) 2 rfl rfl rfl rfl rfl rfl (re (pr [4, 5] [1, 2] [1, 2] rfl rfl rfl rfl (gs (rg (sv (EV.ld (v := .agg #[.slice Ax4_5_0 x4_5_0.length cx4_5_0, .int .i64 x4_5_1, .int .i64 x4_5_2, .int .i64 x4_2_1]) 1 (some 4) rfl rfl rfl) rfl (so rfl (op_st (cs' := [.slice Ax4_5_0 x4_5_0.length cx4_5_0, .int .i64 x4_5_1, .int .i64 x4_5_2, .int .i64 x4_2_1]) 0 rfl rfl rfl rfl rfl rfl (re ?_))))))))))))))))
  cases H
  exact rt Try.func70 rfl (.cell 0 (some 4) rfl rfl rfl .nil) rfl [] [⟨1, 2, 1, true⟩] rfl rfl rfl rfl rfl ⟨_, _, rfl, rfl, rfl⟩
end Go.Proofs.Ytajjeemkdjfilaa.K
namespace Go.Proofs.Ytajjeemkdjfilaa.K
open Go Go.RowKit
set_option linter.unusedVariables false
set_option linter.unusedSimpArgs false
def spec_RunJoin.f (k : Nat) (a0 : Int) (l1 : List S70) (l2 : List S70) (l3 : List Int) : Option ((List S92) × Int × Int × Int × Bool) := (spec_NewJoiner.f k a0 l1 l2).bind fun bt1 => (if bt1.2.2.2 = true then ((spec_l14Grants.f k l3).bind fun t3 => (if t3 = true then ((spec_l20Go.f k bt1.1 bt1.2.1 bt1.2.2.1 l3).bind fun bt5 => (some (bt5.1, bt5.2.1, bt5.2.2.1, bt5.2.2.2, true))) else (some ([], 0, 0, 0, false)))) else (some ([], 0, 0, 0, false)))
set_option maxHeartbeats 4000000 in
set_option maxRecDepth 100000 in
theorem spec_RunJoin.ok (k : Nat) (a0 : Int) (l1 : List S70) (Al1 : Option Addr) (cl1 : Nat) (l2 : List S70) (Al2 : Option Addr) (cl2 : Nat) (l3 : List Int) (Al3 : Option Addr) (cl3 : Nat) (r0 : List S92) (r1 : Int) (r2 : Int) (r3 : Int) (r4 : Bool) (H : spec_RunJoin.f k a0 l1 l2 l3 = some (r0, r1, r2, r3, r4)) : Fn Try.prog 12 [.int .i64 a0, .slice Al1 l1.length cl1, .slice Al2 l2.length cl2, .slice Al3 l3.length cl3] [] [.sl 0 k70 Al1 cl1 l1 0 false, .sl 0 k70 Al2 cl2 l2 0 false, .sl 0 (.int .i64) Al3 cl3 l3 0 false] (fun v bx en => ∃ A0 c0, v = .tuple #[.agg #[.slice A0 r0.length c0, .int .i64 r1, .int .i64 r2, .int .i64 r3], .bool r4] ∧ bx = [] ∧ en = [.sl 2 k92 A0 c0 r0 1 true]) := by
 refine fn_ 30 Try.func12 rfl rfl rfl (fun base T w0 => ?_)
 rw [spec_RunJoin.f] at H
 refine gs (rg (so rfl (op_alloc (cs := [.slice none 0 0, .int .i64 0, .int .i64 0, .int .i64 0]) (by kernel_rfl) rfl fun b8 => (sv (EV.as rfl) rfl (re (gs (rg (sv (EV.mv rfl) rfl (sv (EV.mv rfl) rfl (sv (EV.mv rfl) rfl ?_))))))))))
 revert H; refine bdI ?_; rintro ⟨t1_0, t1_1, t1_2, t1_3⟩ A1 H
 refine so rfl (op_call (spec_NewJoiner.ok k a0 l1 Al1 cl1 l2 Al2 cl2 _ _ _ _ A1) [⟨0, 0, 0, false⟩, ⟨1, 0, 0, false⟩] 1 rfl rfl rfl rfl rfl ?_)
 rintro _ _ _ ⟨At1_0, ct1_0, rfl, rfl, rfl⟩
 refine sv (EV.mv rfl) rfl (sv (EV.ex rfl rfl) rfl (sv (EV.ex rfl rfl) rfl (so rfl (op_alloc (cs := [.slice none 0 0, .int .i64 0, .int .i64 0]) (by kernel_rfl) rfl fun b10 => (so rfl (op_st (cs' := [.slice At1_0 t1_0.length ct1_0, .int .i64 t1_1, .int .i64 t1_2]) 1 rfl rfl rfl rfl rfl rfl (sv (EV.as rfl) rfl (re (pr [3, 8, 10, 11] [0, 1] [2, 3] rfl rfl rfl rfl (gs (gs (rg (sv (EV.mv rfl) rfl (sv (EV.nt rfl) rfl (sv (EV.mv rfl) rfl ?_)))))))))))))))
 revert H; refine ifsI ?_ ?_ <;> intro c2 H
 ·
  subst c2
  refine ts 21 rfl rfl (sv (EV.mv rfl) rfl ?_)
  revert H; refine bdI ?_; rintro t3 A3 H
  refine so rfl (op_call (spec_l14Grants.ok k l3 Al3 cl3 _ A3) [⟨0, 0, 0, false⟩] 3 rfl rfl rfl rfl rfl ?_)
  rintro _ _ _ ⟨rfl, rfl, rfl⟩
  refine sv (EV.nt rfl) rfl (sv (EV.pf rfl rfl rfl) rfl (re (pr [3, 8, 10, 25] [0, 1] [0, 1] rfl rfl rfl rfl ?_)))
  revert H; refine ifsI ?_ ?_ <;> intro c4 H
  ·
   subst c4
   refine gf rfl rfl (gk (gs (rg (sv (EV.ld (v := .agg #[.slice At1_0 t1_0.length ct1_0, .int .i64 t1_1, .int .i64 t1_2]) 1 (some 3) rfl rfl rfl) rfl (sv (EV.mv rfl) rfl ?_)))))
   revert H; refine bdI ?_; rintro ⟨t5_0, t5_1, t5_2, t5_3⟩ A5 H
   refine so rfl (op_call (spec_l20Go.ok k t1_0 At1_0 ct1_0 t1_1 t1_2 l3 Al3 cl3 _ _ _ _ A5) [⟨1, 0, 0, false⟩, ⟨0, 0, 0, false⟩] 3 rfl rfl rfl rfl rfl ?_)
   rintro _ _ _ ⟨At5_0, ct5_0, rfl, rfl, rfl⟩
   refine so rfl (op_st (cs' := [.slice At5_0 t5_0.length ct5_0, .int .i64 t5_1, .int .i64 t5_2, .int .i64 t5_3]) 0 rfl rfl rfl rfl rfl rfl (sv (EV.as rfl) rfl (re (pr [8, 9] [0] [2] rfl rfl rfl rfl ?_))))
   cases H
   exact rt Try.func12 rfl (.cell 0 (some 4) rfl rfl rfl (.tmp rfl .nil)) rfl [] [⟨0, 2, 1, true⟩] rfl rfl rfl rfl rfl ⟨_, _, rfl, rfl, rfl⟩
  ·
   obtain rfl := bF c4
   refine gt rfl rfl (gs (rg (sv (EV.bd (v := .agg #[.slice none 0 0, .int .i64 0, .int .i64 0, .int .i64 0]) rfl (by kernel_rfl)) rfl (so rfl (op_st (cs' := [.slice none 0 0, .int .i64 0, .int .i64 0, .int .i64 0]) 0 rfl rfl rfl rfl rfl rfl (sv (EV.as rfl) rfl (re (nil_ k92 3 dq ?_))))))))
   cases H
   exact rt Try.func12 rfl (.cell 0 (some 4) rfl rfl rfl (.tmp rfl .nil)) rfl [] [⟨2, 2, 1, true⟩] rfl rfl rfl rfl rfl ⟨_, _, rfl, rfl, rfl⟩
 ·
  obtain rfl := bF c2
  refine ts 21 rfl rfl (sk rfl (sk rfl (sk rfl (sv (EV.pt rfl rfl rfl) rfl (re (pr [3, 8, 10, 25] [0, 1] [0, 1] rfl rfl rfl rfl (gt rfl rfl (gs (rg (sv (EV.bd (v := .agg #[.slice none 0 0, .int .i64 0, .int .i64 0, .int .i64 0]) rfl (by kernel_rfl)) rfl (so rfl (op_st (cs' := [.slice none 0 0, .int .i64 0, .int .i64 0, .int .i64 0]) 0 rfl rfl rfl rfl rfl rfl (sv (EV.as rfl) rfl (re (nil_ k92 3 dq ?_)))))))))))))))
  cases H
  exact rt Try.func12 rfl (.cell 0 (some 4) rfl rfl rfl (.tmp rfl .nil)) rfl [] [⟨2, 2, 1, true⟩] rfl rfl rfl rfl rfl ⟨_, _, rfl, rfl, rfl⟩
end Go.Proofs.Ytajjeemkdjfilaa.K
namespace Go.Proofs.Ytajjeemkdjfilaa.K
open Go Go.RowKit
set_option linter.unusedVariables false
set_option linter.unusedSimpArgs false
def spec_CompareRows.l0 : Nat → (List Int) → (List Int) → Int → Option (Int)
 | 0, _, _, _ => none
 | k + 1, x2_5, x2_6, x2_7 => if x2_7 < 3 then (if 0 ≤ x2_7 then (if x2_7 < (x2_5.length : Int) then (if x2_7 < (x2_6.length : Int) then (if (rdOf 0 x2_5 x2_7) < (rdOf 0 x2_6 x2_7) then (some (-1)) else (if (rdOf 0 x2_5 x2_7) > (rdOf 0 x2_6 x2_7) then (some 1) else (spec_CompareRows.l0 k x2_5 x2_6 (wrap64 (x2_7 + 1))))) else none) else none) else none) else (some 0)
def spec_CompareRows.f (k : Nat) (a0_0 : Int) (a0_1 : Int) (a0_2 : Int) (a1_0 : Int) (a1_1 : Int) (a1_2 : Int) : Option (Int) := spec_CompareRows.l0 k ([a0_0, a0_1, a0_2] : List Int) ([a1_0, a1_1, a1_2] : List Int) 0
set_option maxHeartbeats 4000000 in
set_option maxRecDepth 100000 in
theorem spec_CompareRows.ok (k : Nat) (a0_0 : Int) (a0_1 : Int) (a0_2 : Int) (a1_0 : Int) (a1_1 : Int) (a1_2 : Int) (r0 : Int) (H : spec_CompareRows.f k a0_0 a0_1 a0_2 a1_0 a1_1 a1_2 = some r0) : Fn Try.prog 115 [.agg #[.int .i64 a0_0, .int .i64 a0_1, .int .i64 a0_2], .agg #[.int .i64 a1_0, .int .i64 a1_1, .int .i64 a1_2]] [] [] (fun v bx en => v = .int .i64 r0 ∧ bx = [] ∧ en = []) := by
 refine fn_ 44 Try.func115 rfl rfl rfl (fun base T w0 => ?_)
 rw [spec_CompareRows.f] at H
 refine gs (rg (so rfl (op_box (cs := [.int .i64 a0_0, .int .i64 a0_1, .int .i64 a0_2]) rfl rfl rfl fun b2 => (so rfl (op_box (cs := [.int .i64 a1_0, .int .i64 a1_1, .int .i64 a1_2]) rfl rfl rfl fun b3 => (sv (EV.as rfl) rfl (re (gs (rg (sv (EV.fa 0 rfl) rfl (sv (EV.ld 0 none rfl rfl rfl) rfl (sv (EV.fa 1 rfl) rfl (sv (EV.ld 0 none rfl rfl rfl) rfl (sv (EV.fa 2 rfl) rfl (sv (EV.ld 0 none rfl rfl rfl) rfl (so rfl (op_lit (s := 1) (by_ := 8) (.int .i64) ([a0_0, a0_1, a0_2] : List Int) [[], [], []] [] 1 [.tmp 9, .tmp 11, .tmp 13] rfl rfl rfl rfl rfl rfl rfl rfl rfl rfl rfl rfl rfl dq rfl fun A14_1 c14_1 => (sv (EV.as rfl) rfl (re (pr [3, 5] [1] [0] rfl rfl rfl rfl (gs (rg (sv (EV.fa 0 rfl) rfl (sv (EV.ld 0 none rfl rfl rfl) rfl (sv (EV.fa 1 rfl) rfl (sv (EV.ld 0 none rfl rfl rfl) rfl (sv (EV.fa 2 rfl) rfl (sv (EV.ld 0 none rfl rfl rfl) rfl (so rfl ?_)))))))))))))))))))))))))))))
 refine op_lit (s := 1) (by_ := 8) (.int .i64) ([a1_0, a1_1, a1_2] : List Int) [[], [], []] [] 2 [.tmp 16, .tmp 18, .tmp 20] rfl rfl rfl rfl rfl rfl rfl rfl rfl rfl rfl rfl rfl dq rfl fun A21_2 c21_2 => (sv (EV.as rfl) rfl (re (pr [5, 6] [] [0, 1] rfl rfl rfl rfl (gs (gs (rg (sv (EV.as rfl) rfl (re (gb ?_)))))))))
 refine lo (fun kk S => ∃ (x2_5 : List Int) (Ax2_5 : Option Addr) (cx2_5 : Nat) (x2_6 : List Int) (Ax2_6 : Option Addr) (cx2_6 : Nat) (x2_7 : Int), spec_CompareRows.l0 kk x2_5 x2_6 x2_7 = some r0 ∧ S = ⟨[(5, .slice Ax2_5 x2_5.length cx2_5), (6, .slice Ax2_6 x2_6.length cx2_6), (7, .int .i64 x2_7)], [], [.sl 2 (.int .i64) Ax2_5 cx2_5 x2_5 1 true, .sl 2 (.int .i64) Ax2_6 cx2_6 x2_6 2 true]⟩) (fun S hS => ?_) (fun n0 ih0 S hS => ?_) ⟨([a0_0, a0_1, a0_2] : List Int), A14_1, c14_1, ([a1_0, a1_1, a1_2] : List Int), A21_2, c21_2, 0, H, rfl⟩ (fun h => wk [5, 6, 7] [] [⟨0, 2, 1, true⟩, ⟨1, 2, 2, true⟩] h)
 · clear H; obtain ⟨_, _, _, _, _, _, _, H, _⟩ := hS; rw [spec_CompareRows.l0] at H; cases H
 clear H
 obtain ⟨x2_5, Ax2_5, cx2_5, x2_6, Ax2_6, cx2_6, x2_7, H, rfl⟩ := hS
 rw [spec_CompareRows.l0] at H
 refine gs (gs (rg (sv (EV.mv rfl) rfl (sv (EV.lss rfl rfl) rfl (re ?_)))))
 revert H; refine ifsI ?_ ?_ <;> intro c3 H
 ·
  refine gt rfl (dT c3) (gk (gs (gb (gs (gs ?_)))))
  revert H; refine ggI ?_; intro g4 H
  revert H; refine ggI ?_; intro g5 H
  revert H; refine ggI ?_; intro g6 H
  refine dr [] [0, 1] [] 9 rfl rfl rfl rfl (xv 0 [] [0, 1] rfl (EV.mv rfl) rfl rfl rfl rfl (xv 1 [] [0, 1] rfl (EV.mv rfl) rfl rfl rfl rfl (xv 2 [] [0, 1] rfl (EV.ix 0 rfl rfl rfl g4 g5 rfl) rfl rfl rfl rfl (xv 3 [] [0, 1] rfl (EV.le (v := .int .i64 (rdOf 0 x2_5 x2_7)) x2_7 0 none 0 0 rfl rfl rfl g4 g5 rfl rfl rfl) rfl rfl rfl rfl (xv 4 [] [0, 1] rfl (EV.mv rfl) rfl rfl rfl rfl (xv 5 [] [0, 1] rfl (EV.mv rfl) rfl rfl rfl rfl (xv 6 [] [0, 1] rfl (EV.ix 1 rfl rfl rfl g4 g6 rfl) rfl rfl rfl rfl (xv 7 [] [0, 1] rfl (EV.le (v := .int .i64 (rdOf 0 x2_6 x2_7)) x2_7 0 none 1 0 rfl rfl rfl g4 g6 rfl rfl rfl) rfl rfl rfl rfl (xv 8 [] [0, 1] rfl (EV.lss rfl rfl) rfl rfl rfl rfl (xd (pr [5, 6, 7, 34] [] [0, 1] rfl rfl rfl rfl ?_)))))))))))
  revert H; refine ifsI ?_ ?_ <;> intro c7 H
  ·
   refine gt rfl (dT c7) (gs (rg (sv (EV.as rfl) rfl (re ?_))))
   cases H
   exact rt Try.func115 rfl (.tmp rfl .nil) rfl [] [] rfl rfl rfl rfl rfl ⟨rfl, rfl, rfl⟩
  ·
   refine gf rfl (dF c7) (gk (gs (dr [] [0, 1] [] 9 rfl rfl rfl rfl (xv 0 [] [0, 1] rfl (EV.mv rfl) rfl rfl rfl rfl (xv 1 [] [0, 1] rfl (EV.mv rfl) rfl rfl rfl rfl (xv 2 [] [0, 1] rfl (EV.ix 0 rfl rfl rfl g4 g5 rfl) rfl rfl rfl rfl (xv 3 [] [0, 1] rfl (EV.le (v := .int .i64 (rdOf 0 x2_5 x2_7)) x2_7 0 none 0 0 rfl rfl rfl g4 g5 rfl rfl rfl) rfl rfl rfl rfl (xv 4 [] [0, 1] rfl (EV.mv rfl) rfl rfl rfl rfl (xv 5 [] [0, 1] rfl (EV.mv rfl) rfl rfl rfl rfl (xv 6 [] [0, 1] rfl (EV.ix 1 rfl rfl rfl g4 g6 rfl) rfl rfl rfl rfl (xv 7 [] [0, 1] rfl (EV.le (v := .int .i64 (rdOf 0 x2_6 x2_7)) x2_7 0 none 1 0 rfl rfl rfl g4 g6 rfl rfl rfl) rfl rfl rfl rfl (xv 8 [] [0, 1] rfl (EV.gtr rfl rfl) rfl rfl rfl rfl (xd (pr [5, 6, 7, 43] [] [0, 1] rfl rfl rfl rfl ?_))))))))))))))
   revert H; refine ifsI ?_ ?_ <;> intro c8 H
   ·
    refine gt rfl (dT c8) (gs (rg (sv (EV.as rfl) rfl (re ?_))))
    cases H
    exact rt Try.func115 rfl (.tmp rfl .nil) rfl [] [] rfl rfl rfl rfl rfl ⟨rfl, rfl, rfl⟩
   ·
    exact gf rfl (dF c8) (gk (ge (rg (sv (EV.mv rfl) rfl (sv (EV.add rfl rfl) rfl (sv (EV.as rfl) rfl (re (wk [5, 6, 7] [] [⟨0, 2, 1, true⟩, ⟨1, 2, 2, true⟩] (ih0 _ (by omega) _ ⟨x2_5, Ax2_5, cx2_5, x2_6, Ax2_6, cx2_6, wrap64 (x2_7 + 1), H, rfl⟩)))))))))
 ·
  refine gf rfl (dF c3) (gx rfl (gs (rg (sv (EV.as rfl) rfl (re ?_)))))
  cases H
  exact rt Try.func115 rfl (.tmp rfl .nil) rfl [] [] rfl rfl rfl rfl rfl ⟨rfl, rfl, rfl⟩
end Go.Proofs.Ytajjeemkdjfilaa.K
namespace Go.Proofs.Ytajjeemkdjfilaa.K
open Go Go.RowKit
set_option linter.unusedVariables false
set_option linter.unusedSimpArgs false
def spec_ComparePairs.f (k : Nat) (a0_0 : Int) (a0_1 : Int) (a0_2 : Int) (a0_3 : Int) (a0_4 : Int) (a0_5 : Int) (a0_6 : Bool) (a1_0 : Int) (a1_1 : Int) (a1_2 : Int) (a1_3 : Int) (a1_4 : Int) (a1_5 : Int) (a1_6 : Bool) : Option (Int) := (spec_CompareRows.f k a0_0 a0_1 a0_2 a1_0 a1_1 a1_2).bind fun t1 => (if t1 = 0 then (if (a0_6 == a1_6) = true then ((spec_CompareRows.f k a0_3 a0_4 a0_5 a1_3 a1_4 a1_5).bind fun t4 => (some t4)) else (if a1_6 = true then (some (-1)) else (some 1))) else (some t1))
set_option maxHeartbeats 4000000 in
set_option maxRecDepth 100000 in
theorem spec_ComparePairs.ok (k : Nat) (a0_0 : Int) (a0_1 : Int) (a0_2 : Int) (a0_3 : Int) (a0_4 : Int) (a0_5 : Int) (a0_6 : Bool) (a1_0 : Int) (a1_1 : Int) (a1_2 : Int) (a1_3 : Int) (a1_4 : Int) (a1_5 : Int) (a1_6 : Bool) (r0 : Int) (H : spec_ComparePairs.f k a0_0 a0_1 a0_2 a0_3 a0_4 a0_5 a0_6 a1_0 a1_1 a1_2 a1_3 a1_4 a1_5 a1_6 = some r0) : Fn Try.prog 108 [.agg #[.int .i64 a0_0, .int .i64 a0_1, .int .i64 a0_2, .int .i64 a0_3, .int .i64 a0_4, .int .i64 a0_5, .bool a0_6], .agg #[.int .i64 a1_0, .int .i64 a1_1, .int .i64 a1_2, .int .i64 a1_3, .int .i64 a1_4, .int .i64 a1_5, .bool a1_6]] [] [] (fun v bx en => v = .int .i64 r0 ∧ bx = [] ∧ en = []) := by
 refine fn_ 26 Try.func108 rfl rfl rfl (fun base T w0 => ?_)
 rw [spec_ComparePairs.f] at H
 refine gs (rg (so rfl (op_box (cs := [.int .i64 a0_0, .int .i64 a0_1, .int .i64 a0_2, .int .i64 a0_3, .int .i64 a0_4, .int .i64 a0_5, .bool a0_6]) rfl rfl rfl fun b2 => (so rfl (op_box (cs := [.int .i64 a1_0, .int .i64 a1_1, .int .i64 a1_2, .int .i64 a1_3, .int .i64 a1_4, .int .i64 a1_5, .bool a1_6]) rfl rfl rfl fun b3 => (sv (EV.as rfl) rfl (re (gs (rg (sv (EV.fa 0 rfl) rfl (sv (EV.ld (v := .agg #[.int .i64 a0_0, .int .i64 a0_1, .int .i64 a0_2]) 0 (some 3) rfl rfl rfl) rfl (sv (EV.fa 0 rfl) rfl (sv (EV.ld (v := .agg #[.int .i64 a1_0, .int .i64 a1_1, .int .i64 a1_2]) 1 (some 3) rfl rfl rfl) rfl ?_)))))))))))))
 revert H; refine bdI ?_; rintro t1 A1 H
 refine so rfl (op_call (spec_CompareRows.ok k a0_0 a0_1 a0_2 a1_0 a1_1 a1_2 _ A1) [] 1 rfl rfl rfl rfl rfl ?_)
 rintro _ _ _ ⟨rfl, rfl, rfl⟩
 refine sv (EV.as rfl) rfl (re (pr [2, 3, 5] [0, 1] [] rfl rfl rfl rfl (gs (gs (rg (sv (EV.mv rfl) rfl (sv (EV.neq rfl rfl) rfl (re ?_))))))))
 revert H; refine ifsI ?_ ?_ <;> intro c2 H
 ·
  refine gf rfl (nF c2) (gk (gs (gs (rg (sv (EV.fa 6 rfl) rfl (sv (EV.ld 0 none rfl rfl rfl) rfl (sv (EV.fa 6 rfl) rfl (sv (EV.ld 1 none rfl rfl rfl) rfl (sv (EV.neb rfl rfl) rfl (re (pr [2, 3, 18] [0, 1] [] rfl rfl rfl rfl ?_)))))))))))
  revert H; refine ifsI ?_ ?_ <;> intro c3 H
  ·
   refine gf rfl (bN c3) (gk (gs (rg (sv (EV.fa 3 rfl) rfl (sv (EV.ld (v := .agg #[.int .i64 a0_3, .int .i64 a0_4, .int .i64 a0_5]) 0 (some 3) rfl rfl rfl) rfl (sv (EV.fa 3 rfl) rfl (sv (EV.ld (v := .agg #[.int .i64 a1_3, .int .i64 a1_4, .int .i64 a1_5]) 1 (some 3) rfl rfl rfl) rfl ?_)))))))
   revert H; refine bdI ?_; rintro t4 A4 H
   refine so rfl (op_call (spec_CompareRows.ok k a0_3 a0_4 a0_5 a1_3 a1_4 a1_5 _ A4) [] 1 rfl rfl rfl rfl rfl ?_)
   rintro _ _ _ ⟨rfl, rfl, rfl⟩
   refine sv (EV.as rfl) rfl (re (pr [4] [] [] rfl rfl rfl rfl ?_))
   cases H
   exact rt Try.func108 rfl (.tmp rfl .nil) rfl [] [] rfl rfl rfl rfl rfl ⟨rfl, rfl, rfl⟩
  ·
   refine gt rfl (bM c3) (gs (gs (rg (sv (EV.fa 6 rfl) rfl (sv (EV.ld 1 none rfl rfl rfl) rfl (re ?_))))))
   revert H; refine ifsI ?_ ?_ <;> intro c5 H
   ·
    subst c5
    refine gt rfl rfl (gs (rg (sv (EV.as rfl) rfl (re ?_))))
    cases H
    exact rt Try.func108 rfl (.tmp rfl .nil) rfl [] [] rfl rfl rfl rfl rfl ⟨rfl, rfl, rfl⟩
   ·
    obtain rfl := bF c5
    refine gf rfl rfl (gk (gs (rg (sv (EV.as rfl) rfl (re ?_)))))
    cases H
    exact rt Try.func108 rfl (.tmp rfl .nil) rfl [] [] rfl rfl rfl rfl rfl ⟨rfl, rfl, rfl⟩
 ·
  refine gt rfl (nT c2) (gs (rg (sv (EV.mv rfl) rfl (sv (EV.as rfl) rfl (re (pr [4] [] [] rfl rfl rfl rfl ?_))))))
  cases H
  exact rt Try.func108 rfl (.tmp rfl .nil) rfl [] [] rfl rfl rfl rfl rfl ⟨rfl, rfl, rfl⟩
end Go.Proofs.Ytajjeemkdjfilaa.K
namespace Go.Proofs.Ytajjeemkdjfilaa.K
open Go Go.RowKit
set_option linter.unusedVariables false
set_option linter.unusedSimpArgs false
mutual
def spec_l7Sorted.j0 : Nat → (List S92) → Int → Int → (List S92) → Option ((List S92))
 | 0, _, _, _, _ => none
 | k + 1, x25_3, x25_4, x25_5, l0 => if 0 ≤ x25_4 then (if x25_4 < (l0.length : Int) then (if 0 ≤ x25_5 then (if x25_5 ≤ (x25_3.length : Int) then (if ([(⟨(⟨(rd_T92 l0 x25_4).f0.f0, (rd_T92 l0 x25_4).f0.f1, (rd_T92 l0 x25_4).f0.f2⟩ : S70), (⟨(rd_T92 l0 x25_4).f1.f0, (rd_T92 l0 x25_4).f1.f1, (rd_T92 l0 x25_4).f1.f2⟩ : S70), (rd_T92 l0 x25_4).f2⟩ : S92)] : List S92).length + (x25_3.drop x25_5.toNat).length ≤ 2513169434916 then (if (x25_3.take x25_5.toNat).length ≤ 2513169434916 then (if (x25_3.take x25_5.toNat).length + (([(⟨(⟨(rd_T92 l0 x25_4).f0.f0, (rd_T92 l0 x25_4).f0.f1, (rd_T92 l0 x25_4).f0.f2⟩ : S70), (⟨(rd_T92 l0 x25_4).f1.f0, (rd_T92 l0 x25_4).f1.f1, (rd_T92 l0 x25_4).f1.f2⟩ : S70), (rd_T92 l0 x25_4).f2⟩ : S92)] : List S92) ++ (x25_3.drop x25_5.toNat)).length ≤ 2513169434916 then (spec_l7Sorted.l0 k ((x25_3.take x25_5.toNat) ++ (([(⟨(⟨(rd_T92 l0 x25_4).f0.f0, (rd_T92 l0 x25_4).f0.f1, (rd_T92 l0 x25_4).f0.f2⟩ : S70), (⟨(rd_T92 l0 x25_4).f1.f0, (rd_T92 l0 x25_4).f1.f1, (rd_T92 l0 x25_4).f1.f2⟩ : S70), (rd_T92 l0 x25_4).f2⟩ : S92)] : List S92) ++ (x25_3.drop x25_5.toNat))) (wrap64 (x25_4 + 1)) l0) else none) else none) else none) else none) else none) else none) else none
def spec_l7Sorted.l1 : Nat → (List S92) → Int → Int → (List S92) → Option ((List S92))
 | 0, _, _, _, _ => none
 | k + 1, x26_3, x26_4, x26_5, l0 => if x26_5 > 0 then (if 0 ≤ (wrap64 (x26_5 - 1)) then (if (wrap64 (x26_5 - 1)) < (x26_3.length : Int) then (if 0 ≤ x26_4 then (if x26_4 < (l0.length : Int) then ((spec_ComparePairs.f k ((rd_T92 x26_3 (wrap64 (x26_5 - 1))).f0.f0) ((rd_T92 x26_3 (wrap64 (x26_5 - 1))).f0.f1) ((rd_T92 x26_3 (wrap64 (x26_5 - 1))).f0.f2) ((rd_T92 x26_3 (wrap64 (x26_5 - 1))).f1.f0) ((rd_T92 x26_3 (wrap64 (x26_5 - 1))).f1.f1) ((rd_T92 x26_3 (wrap64 (x26_5 - 1))).f1.f2) ((rd_T92 x26_3 (wrap64 (x26_5 - 1))).f2) ((rd_T92 l0 x26_4).f0.f0) ((rd_T92 l0 x26_4).f0.f1) ((rd_T92 l0 x26_4).f0.f2) ((rd_T92 l0 x26_4).f1.f0) ((rd_T92 l0 x26_4).f1.f1) ((rd_T92 l0 x26_4).f1.f2) ((rd_T92 l0 x26_4).f2)).bind fun t21 => (if t21 > 0 then (spec_l7Sorted.l1 k x26_3 x26_4 (wrap64 (x26_5 - 1)) l0) else (spec_l7Sorted.j0 k x26_3 x26_4 x26_5 l0))) else none) else none) else none) else none) else (spec_l7Sorted.j0 k x26_3 x26_4 x26_5 l0)
def spec_l7Sorted.l0 : Nat → (List S92) → Int → (List S92) → Option ((List S92))
 | 0, _, _, _ => none
 | k + 1, x14_3, x14_4, l0 => if x14_4 < (l0.length : Int) then (spec_l7Sorted.l1 k x14_3 x14_4 (x14_3.length : Int) l0) else (some x14_3)
end
def spec_l7Sorted.f (k : Nat) (l0 : List S92) : Option ((List S92)) := spec_l7Sorted.l0 k [] 0 l0
set_option maxHeartbeats 4000000 in
set_option maxRecDepth 100000 in
theorem spec_l7Sorted.ok (k : Nat) (l0 : List S92) (Al0 : Option Addr) (cl0 : Nat) (r0 : List S92) (H : spec_l7Sorted.f k l0 = some r0) : Fn Try.prog 71 [.slice Al0 l0.length cl0] [] [.sl 0 k92 Al0 cl0 l0 0 false] (fun v bx en => ∃ A0 c0, v = .slice A0 r0.length c0 ∧ bx = [] ∧ en = [.sl 2 k92 A0 c0 r0 1 true]) := by
 refine fn_ 50 Try.func71 rfl rfl rfl (fun base T w0 => ?_)
 rw [spec_l7Sorted.f] at H
 refine gs (rg (sv (EV.as rfl) rfl (re (gs (rg (so rfl (op_lit (s := 7) (by_ := 56) k92 ([] : List S92) [] [] 1 [] rfl rfl rfl rfl rfl rfl rfl rfl rfl rfl rfl rfl rfl dq rfl fun A7_1 c7_1 => (sv (EV.as rfl) rfl (re (gs (gs (rg (sv (EV.as rfl) rfl (re (gb ?_)))))))))))))))
 refine lo (fun kk S => ∃ (x14_3 : List S92) (Ax14_3 : Option Addr) (cx14_3 : Nat) (x14_4 : Int), spec_l7Sorted.l0 kk x14_3 x14_4 l0 = some r0 ∧ S = ⟨[(0, .slice Al0 l0.length cl0), (3, .slice Ax14_3 x14_3.length cx14_3), (4, .int .i64 x14_4)], [], [.sl 2 k92 Ax14_3 cx14_3 x14_3 1 true, .sl 0 k92 Al0 cl0 l0 0 false]⟩) (fun S hS => ?_) (fun n0 ih0 S hS => ?_) ⟨[], A7_1, c7_1, 0, H, rfl⟩ (fun h => wk [0, 3, 4] [] [⟨1, 2, 1, true⟩, ⟨0, 0, 0, false⟩] h)
 · clear H; obtain ⟨_, _, _, _, H, _⟩ := hS; rw [spec_l7Sorted.l0] at H; cases H
 clear H
 obtain ⟨x14_3, Ax14_3, cx14_3, x14_4, H, rfl⟩ := hS
 rw [spec_l7Sorted.l0] at H
 refine gs (gs (rg (sv (EV.mv rfl) rfl (sv (EV.mv rfl) rfl (sv (EV.ln rfl) rfl (sv (EV.lss rfl rfl) rfl (re ?_)))))))
 revert H; refine ifsI ?_ ?_ <;> intro c2 H
 ·
  refine gt rfl (dT c2) (gk (gs (gb (gs (rg (sv (EV.mv rfl) rfl (sv (EV.ln rfl) rfl (sv (EV.as rfl) rfl (re (pr [0, 3, 4, 5] [] [0, 1] rfl rfl rfl rfl ?_))))))))))
  refine jo (fun S => ∃ (m : Nat) (x25_3 : List S92) (Ax25_3 : Option Addr) (cx25_3 : Nat) (x25_4 : Int) (x25_5 : Int), m ≤ n0 ∧ spec_l7Sorted.j0 m x25_3 x25_4 x25_5 l0 = some r0 ∧ S = ⟨[(0, .slice Al0 l0.length cl0), (3, .slice Ax25_3 x25_3.length cx25_3), (4, .int .i64 x25_4), (5, .int .i64 x25_5)], [], [.sl 2 k92 Ax25_3 cx25_3 x25_3 1 true, .sl 0 k92 Al0 cl0 l0 0 false]⟩) (fun S hS => ?_) (fun jh0 => ?_)
  ·
   clear H
   obtain ⟨m3, x25_3, Ax25_3, cx25_3, x25_4, x25_5, lm3, H, rfl⟩ := hS
   rcases m3 with _ | m3
   · rw [spec_l7Sorted.j0] at H; cases H
   rw [spec_l7Sorted.j0] at H
   refine gs ?_
   revert H; refine ggI ?_; intro g4 H
   revert H; refine ggI ?_; intro g5 H
   revert H; refine ggI ?_; intro g6 H
   revert H; refine ggI ?_; intro g7 H
   refine dr [] [0, 1] [9] 10 rfl rfl rfl rfl (xv 0 [] [0, 1] rfl (EV.mv rfl) rfl rfl rfl rfl (xv 1 [] [0, 1] rfl (EV.mv rfl) rfl rfl rfl rfl (xv 2 [] [0, 1] rfl (EV.ix 1 rfl rfl rfl g4 g5 rfl) rfl rfl rfl rfl (xv 3 [] [0, 1] rfl (EV.le (v := .agg #[.int .i64 ((rd_T92 l0 x25_4).f0.f0), .int .i64 ((rd_T92 l0 x25_4).f0.f1), .int .i64 ((rd_T92 l0 x25_4).f0.f2), .int .i64 ((rd_T92 l0 x25_4).f1.f0), .int .i64 ((rd_T92 l0 x25_4).f1.f1), .int .i64 ((rd_T92 l0 x25_4).f1.f2), .bool ((rd_T92 l0 x25_4).f2)]) x25_4 0 (some 7) 1 z92 rfl rfl rfl g4 g5 rfl rfl rfl) rfl rfl rfl rfl (xv 5 [] [0, 1] rfl (EV.mv rfl) rfl rfl rfl rfl (xv 6 [] [0, 1] rfl (EV.mv rfl) rfl rfl rfl rfl (cutp (l' := x25_3.drop x25_5.toNat) x25_5 (x25_3.length : Int) 0 rfl g6 g7 (Int.le_refl _) rfl 1 dq (.inl dq) ctl (xv 7 [] [0, 1] rfl (EV.ct x25_5 (x25_3.length : Int) 0 rfl rfl rfl rfl g6 g7 (Int.le_refl _) rfl rfl ctnl) rfl rfl rfl rfl (one1 4 rfl rfl (op_lit (s := 7) (by_ := 56) k92 ([(⟨(⟨(rd_T92 l0 x25_4).f0.f0, (rd_T92 l0 x25_4).f0.f1, (rd_T92 l0 x25_4).f0.f2⟩ : S70), (⟨(rd_T92 l0 x25_4).f1.f0, (rd_T92 l0 x25_4).f1.f1, (rd_T92 l0 x25_4).f1.f2⟩ : S70), (rd_T92 l0 x25_4).f2⟩ : S92)] : List S92) [[]] [] 2 [.tmp 36] rfl rfl rfl rfl rfl rfl rfl rfl rfl rfl rfl rfl rfl dq rfl fun A37_8 c37_8 => (xs [] [0, 1] rfl rfl rfl (one1 8 rfl rfl ?_))))))))))))
   revert H; refine ggI ?_; intro g9 H
   refine op_app (k := k92) (s := 7) (by_ := 56) 3 2 rfl rfl rfl rfl (ap2 g9 dq) (ap2n g9 dq) (.inl rfl) true (fun _ => .inl rfl) rfl rfl fun A41_10 c41_10 => (nmE (en := [.sl 2 k92 Ax25_3 cx25_3 x25_3 1 true, .sl 0 k92 Al0 cl0 l0 0 false, .sl 1 k92 (cutA Ax25_3 cx25_3 x25_5.toNat 7) (cx25_3 - x25_5.toNat) (x25_3.drop x25_5.toNat) 1 true, .sl 2 k92 A41_10 c41_10 (([(⟨(⟨(rd_T92 l0 x25_4).f0.f0, (rd_T92 l0 x25_4).f0.f1, (rd_T92 l0 x25_4).f0.f2⟩ : S70), (⟨(rd_T92 l0 x25_4).f1.f0, (rd_T92 l0 x25_4).f1.f1, (rd_T92 l0 x25_4).f1.f2⟩ : S70), (rd_T92 l0 x25_4).f2⟩ : S92)] : List S92) ++ (x25_3.drop x25_5.toNat)) 2 true]) (by kernel_rfl) (xs [] [0, 1] rfl rfl rfl (one1 9 rfl rfl (ov (EV.as rfl) rfl (xn rfl (xd (pr [0, 3, 4, 5, 6] [] [0, 1, 3] rfl rfl rfl rfl (rg (so rfl (op_lit (s := 7) (by_ := 56) k92 ([] : List S92) [] [] 3 [] rfl rfl rfl rfl rfl rfl rfl rfl rfl rfl rfl rfl rfl dq rfl fun A42_11 c42_11 => (sv (EV.mv rfl) rfl (sv (EV.mv rfl) rfl (cutp (l' := x25_3.take x25_5.toNat) 0 x25_5 0 rfl (Int.le_refl 0) g6 g7 rfl 2 dq (.inr rfl) rfl (sv (EV.ct 0 x25_5 0 rfl rfl rfl rfl (Int.le_refl 0) g6 g7 rfl rfl ctnh) rfl ?_))))))))))))))
   revert H; refine ggI ?_; intro g12 H
   refine so rfl (op_app (k := k92) (s := 7) (by_ := 56) 3 4 rfl rfl rfl rfl (ap0 g12 dq) (ap0n g12 dq) (.inl rfl) true (fun _ => .inl rfl) rfl rfl fun A46_13 c46_13 => (nmE (en := [.sl 2 k92 Ax25_3 cx25_3 x25_3 1 true, .sl 0 k92 Al0 cl0 l0 0 false, .sl 2 k92 A41_10 c41_10 (([(⟨(⟨(rd_T92 l0 x25_4).f0.f0, (rd_T92 l0 x25_4).f0.f1, (rd_T92 l0 x25_4).f0.f2⟩ : S70), (⟨(rd_T92 l0 x25_4).f1.f0, (rd_T92 l0 x25_4).f1.f1, (rd_T92 l0 x25_4).f1.f2⟩ : S70), (rd_T92 l0 x25_4).f2⟩ : S92)] : List S92) ++ (x25_3.drop x25_5.toNat)) 2 true, .sl 2 k92 (cutA Ax25_3 cx25_3 (0 : Int).toNat 7) (cx25_3 - (0 : Int).toNat) (x25_3.take x25_5.toNat) 1 true, .sl 2 k92 A46_13 c46_13 (x25_3.take x25_5.toNat) 3 true]) (by kernel_rfl) (sv (EV.mv rfl) rfl ?_)))
   revert H; refine ggI ?_; intro g14 H
   exact so rfl (op_app (k := k92) (s := 7) (by_ := 56) 4 2 rfl rfl rfl rfl (ap2 g14 dq) (ap2n g14 dq) (.inl rfl) true (fun _ => .inl rfl) rfl rfl fun A48_15 c48_15 => (nmE (en := [.sl 2 k92 Ax25_3 cx25_3 x25_3 1 true, .sl 0 k92 Al0 cl0 l0 0 false, .sl 2 k92 A41_10 c41_10 (([(⟨(⟨(rd_T92 l0 x25_4).f0.f0, (rd_T92 l0 x25_4).f0.f1, (rd_T92 l0 x25_4).f0.f2⟩ : S70), (⟨(rd_T92 l0 x25_4).f1.f0, (rd_T92 l0 x25_4).f1.f1, (rd_T92 l0 x25_4).f1.f2⟩ : S70), (rd_T92 l0 x25_4).f2⟩ : S92)] : List S92) ++ (x25_3.drop x25_5.toNat)) 2 true, .sl 2 k92 (cutA Ax25_3 cx25_3 (0 : Int).toNat 7) (cx25_3 - (0 : Int).toNat) (x25_3.take x25_5.toNat) 1 true, .sl 2 k92 A48_15 c48_15 ((x25_3.take x25_5.toNat) ++ (([(⟨(⟨(rd_T92 l0 x25_4).f0.f0, (rd_T92 l0 x25_4).f0.f1, (rd_T92 l0 x25_4).f0.f2⟩ : S70), (⟨(rd_T92 l0 x25_4).f1.f0, (rd_T92 l0 x25_4).f1.f1, (rd_T92 l0 x25_4).f1.f2⟩ : S70), (rd_T92 l0 x25_4).f2⟩ : S92)] : List S92) ++ (x25_3.drop x25_5.toNat))) 3 true]) (by kernel_rfl) (sv (EV.as rfl) rfl (re (pr [0, 3, 4] [] [1, 4] rfl rfl rfl rfl (ge (rg (sv (EV.mv rfl) rfl (sv (EV.add rfl rfl) rfl (sv (EV.as rfl) rfl (re (wk [0, 3, 4] [] [⟨1, 2, 1, true⟩, ⟨0, 0, 0, false⟩] (ih0 _ (by omega) _ ⟨(x25_3.take x25_5.toNat) ++ (([(⟨(⟨(rd_T92 l0 x25_4).f0.f0, (rd_T92 l0 x25_4).f0.f1, (rd_T92 l0 x25_4).f0.f2⟩ : S70), (⟨(rd_T92 l0 x25_4).f1.f0, (rd_T92 l0 x25_4).f1.f1, (rd_T92 l0 x25_4).f1.f2⟩ : S70), (rd_T92 l0 x25_4).f2⟩ : S92)] : List S92) ++ (x25_3.drop x25_5.toNat)), A48_15, c48_15, wrap64 (x25_4 + 1), H, rfl⟩)))))))))))))
  ·
   refine gb ?_
   refine lo (fun kk S => ∃ (x26_3 : List S92) (Ax26_3 : Option Addr) (cx26_3 : Nat) (x26_4 : Int) (x26_5 : Int), kk ≤ n0 ∧ spec_l7Sorted.l1 kk x26_3 x26_4 x26_5 l0 = some r0 ∧ S = ⟨[(0, .slice Al0 l0.length cl0), (3, .slice Ax26_3 x26_3.length cx26_3), (4, .int .i64 x26_4), (5, .int .i64 x26_5)], [], [.sl 2 k92 Ax26_3 cx26_3 x26_3 1 true, .sl 0 k92 Al0 cl0 l0 0 false]⟩) (fun S hS => ?_) (fun n1 ih1 S hS => ?_) ⟨x14_3, Ax14_3, cx14_3, x14_4, (x14_3.length : Int), by omega, H, rfl⟩ (fun h => wk [0, 3, 4, 5] [] [⟨0, 2, 1, true⟩, ⟨1, 0, 0, false⟩] h)
   · clear H; obtain ⟨_, _, _, _, _, _, H, _⟩ := hS; rw [spec_l7Sorted.l1] at H; cases H
   clear H
   obtain ⟨x26_3, Ax26_3, cx26_3, x26_4, x26_5, lk1, H, rfl⟩ := hS
   rw [spec_l7Sorted.l1] at H
   refine gs (gs (dr [] [0, 1] [] 15 rfl rfl rfl rfl (xv 0 [] [0, 1] rfl (EV.mv rfl) rfl rfl rfl rfl (xv 1 [] [0, 1] rfl (EV.gtr rfl rfl) rfl rfl rfl rfl (xv 2 [] [0, 1] rfl (EV.mv rfl) rfl rfl rfl rfl ?_)))))
   revert H; refine ifsI ?_ ?_ <;> intro c16 H
   ·
    refine ts 18 rfl (dT c16) (xv 3 [] [0, 1] rfl (EV.mv rfl) rfl rfl rfl rfl (xv 4 [] [0, 1] rfl (EV.mv rfl) rfl rfl rfl rfl (xv 5 [] [0, 1] rfl (EV.sub rfl rfl) rfl rfl rfl rfl ?_)))
    revert H; refine ggI ?_; intro g17 H
    revert H; refine ggI ?_; intro g18 H
    refine xv 6 [] [0, 1] rfl (EV.ix 0 rfl rfl rfl g17 g18 rfl) rfl rfl rfl rfl (xv 7 [] [0, 1] rfl (EV.le (v := .agg #[.int .i64 ((rd_T92 x26_3 (wrap64 (x26_5 - 1))).f0.f0), .int .i64 ((rd_T92 x26_3 (wrap64 (x26_5 - 1))).f0.f1), .int .i64 ((rd_T92 x26_3 (wrap64 (x26_5 - 1))).f0.f2), .int .i64 ((rd_T92 x26_3 (wrap64 (x26_5 - 1))).f1.f0), .int .i64 ((rd_T92 x26_3 (wrap64 (x26_5 - 1))).f1.f1), .int .i64 ((rd_T92 x26_3 (wrap64 (x26_5 - 1))).f1.f2), .bool ((rd_T92 x26_3 (wrap64 (x26_5 - 1))).f2)]) (wrap64 (x26_5 - 1)) 0 (some 7) 0 z92 rfl rfl rfl g17 g18 rfl rfl rfl) rfl rfl rfl rfl (xv 8 [] [0, 1] rfl (EV.mv rfl) rfl rfl rfl rfl (xv 9 [] [0, 1] rfl (EV.mv rfl) rfl rfl rfl rfl ?_)))
    revert H; refine ggI ?_; intro g19 H
    revert H; refine ggI ?_; intro g20 H
    refine xv 10 [] [0, 1] rfl (EV.ix 1 rfl rfl rfl g19 g20 rfl) rfl rfl rfl rfl (xv 11 [] [0, 1] rfl (EV.le (v := .agg #[.int .i64 ((rd_T92 l0 x26_4).f0.f0), .int .i64 ((rd_T92 l0 x26_4).f0.f1), .int .i64 ((rd_T92 l0 x26_4).f0.f2), .int .i64 ((rd_T92 l0 x26_4).f1.f0), .int .i64 ((rd_T92 l0 x26_4).f1.f1), .int .i64 ((rd_T92 l0 x26_4).f1.f2), .bool ((rd_T92 l0 x26_4).f2)]) x26_4 0 (some 7) 1 z92 rfl rfl rfl g19 g20 rfl rfl rfl) rfl rfl rfl rfl (one1 12 rfl rfl ?_))
    revert H; refine bdI ?_; rintro t21 A21 H
    refine op_call (spec_ComparePairs.ok n1 ((rd_T92 x26_3 (wrap64 (x26_5 - 1))).f0.f0) ((rd_T92 x26_3 (wrap64 (x26_5 - 1))).f0.f1) ((rd_T92 x26_3 (wrap64 (x26_5 - 1))).f0.f2) ((rd_T92 x26_3 (wrap64 (x26_5 - 1))).f1.f0) ((rd_T92 x26_3 (wrap64 (x26_5 - 1))).f1.f1) ((rd_T92 x26_3 (wrap64 (x26_5 - 1))).f1.f2) ((rd_T92 x26_3 (wrap64 (x26_5 - 1))).f2) ((rd_T92 l0 x26_4).f0.f0) ((rd_T92 l0 x26_4).f0.f1) ((rd_T92 l0 x26_4).f0.f2) ((rd_T92 l0 x26_4).f1.f0) ((rd_T92 l0 x26_4).f1.f1) ((rd_T92 l0 x26_4).f1.f2) ((rd_T92 l0 x26_4).f2) _ A21) [] 2 rfl rfl rfl rfl rfl ?_
    rintro _ _ _ ⟨rfl, rfl, rfl⟩
    refine xs [] [0, 1] rfl rfl rfl (xv 13 [] [0, 1] rfl (EV.gtr rfl rfl) rfl rfl rfl rfl (xv 14 [] [0, 1] rfl (EV.pt rfl rfl rfl) rfl rfl rfl rfl (xd ?_)))
    revert H; refine ifsI ?_ ?_ <;> intro c22 H
    ·
     exact gt rfl (dT c22) (gk (gb (rg (sv (EV.mv rfl) rfl (sv (EV.sub rfl rfl) rfl (sv (EV.as rfl) rfl (re (pr [0, 3, 4, 5, 19, 20, 21, 22, 23, 24, 25, 26, 27, 28, 29] [] [0, 1] rfl rfl rfl rfl (ge (wk [0, 3, 4, 5] [] [⟨0, 2, 1, true⟩, ⟨1, 0, 0, false⟩] (ih1 _ (by omega) _ ⟨x26_3, Ax26_3, cx26_3, x26_4, wrap64 (x26_5 - 1), by omega, H, rfl⟩)))))))))))
    ·
     exact gf rfl (dF c22) (gx rfl (wk [0, 3, 4, 5] [] [⟨0, 2, 1, true⟩, ⟨1, 0, 0, false⟩] (jh0 _ ⟨_, x26_3, Ax26_3, cx26_3, x26_4, x26_5, by omega, H, rfl⟩)))
   ·
    exact ts 18 rfl (dF c16) (xk 3 [] [0, 1] rfl rfl rfl rfl rfl (xk 4 [] [0, 1] rfl rfl rfl rfl rfl (xk 5 [] [0, 1] rfl rfl rfl rfl rfl (xk 6 [] [0, 1] rfl rfl rfl rfl rfl (xk 7 [] [0, 1] rfl rfl rfl rfl rfl (xk 8 [] [0, 1] rfl rfl rfl rfl rfl (xk 9 [] [0, 1] rfl rfl rfl rfl rfl (xk 10 [] [0, 1] rfl rfl rfl rfl rfl (xk 11 [] [0, 1] rfl rfl rfl rfl rfl (xk 12 [] [0, 1] rfl rfl rfl rfl rfl (xk 13 [] [0, 1] rfl rfl rfl rfl rfl (xv 14 [] [0, 1] rfl (EV.pf rfl rfl rfl) rfl rfl rfl rfl (xd (pr [0, 3, 4, 5, 30] [] [0, 1] rfl rfl rfl rfl (gf rfl rfl (gx rfl (wk [0, 3, 4, 5] [] [⟨0, 2, 1, true⟩, ⟨1, 0, 0, false⟩] (jh0 _ ⟨_, x26_3, Ax26_3, cx26_3, x26_4, x26_5, by omega, H, rfl⟩))))))))))))))))))
 ·
  refine gf rfl (dF c2) (gx rfl (gs (rg (sv (EV.mv rfl) rfl (sv (EV.as rfl) rfl (re (pr [2] [] [0] rfl rfl rfl rfl ?_)))))))
  cases H
  exact rt Try.func71 rfl (.tmp rfl .nil) rfl [] [⟨0, 2, 1, true⟩] rfl rfl rfl rfl rfl ⟨_, _, rfl, rfl, rfl⟩
end Go.Proofs.Ytajjeemkdjfilaa.K
namespace Go.Proofs.Ytajjeemkdjfilaa.K
open Go Go.RowKit
set_option linter.unusedVariables false
set_option linter.unusedSimpArgs false
def spec_EqualPairBags.l0 : Nat → (List S92) → (List S92) → Int → Option (Bool)
 | 0, _, _, _ => none
 | k + 1, x2_5, x2_6, x2_7 => if x2_7 < (x2_5.length : Int) then (if 0 ≤ x2_7 then (if x2_7 < (x2_6.length : Int) then (if ((((rd_T92 x2_5 x2_7).f0.f0) == ((rd_T92 x2_6 x2_7).f0.f0) && (((rd_T92 x2_5 x2_7).f0.f1) == ((rd_T92 x2_6 x2_7).f0.f1) && (((rd_T92 x2_5 x2_7).f0.f2) == ((rd_T92 x2_6 x2_7).f0.f2)))) && ((((rd_T92 x2_5 x2_7).f1.f0) == ((rd_T92 x2_6 x2_7).f1.f0) && (((rd_T92 x2_5 x2_7).f1.f1) == ((rd_T92 x2_6 x2_7).f1.f1) && (((rd_T92 x2_5 x2_7).f1.f2) == ((rd_T92 x2_6 x2_7).f1.f2)))) && (((rd_T92 x2_5 x2_7).f2) == ((rd_T92 x2_6 x2_7).f2)))) = true then (spec_EqualPairBags.l0 k x2_5 x2_6 (wrap64 (x2_7 + 1))) else (some false)) else none) else none) else (some true)
def spec_EqualPairBags.f (k : Nat) (l0 : List S92) (l1 : List S92) : Option (Bool) := (spec_l7Sorted.f k l0).bind fun t1 => ((spec_l7Sorted.f k l1).bind fun t2 => (if (t1.length : Int) = (t2.length : Int) then (spec_EqualPairBags.l0 k t1 t2 0) else (some false)))
set_option maxHeartbeats 4000000 in
set_option maxRecDepth 100000 in
theorem spec_EqualPairBags.ok (k : Nat) (l0 : List S92) (Al0 : Option Addr) (cl0 : Nat) (l1 : List S92) (Al1 : Option Addr) (cl1 : Nat) (r0 : Bool) (H : spec_EqualPairBags.f k l0 l1 = some r0) : Fn Try.prog 13 [.slice Al0 l0.length cl0, .slice Al1 l1.length cl1] [] [.sl 0 k92 Al0 cl0 l0 0 false, .sl 0 k92 Al1 cl1 l1 0 false] (fun v bx en => v = .bool r0 ∧ bx = [] ∧ en = []) := by
 refine fn_ 32 Try.func13 rfl rfl rfl (fun base T w0 => ?_)
 rw [spec_EqualPairBags.f] at H
 refine gs (rg (sv (EV.as rfl) rfl (re (gs (rg (sv (EV.mv rfl) rfl ?_))))))
 revert H; refine bdI ?_; rintro t1 A1 H
 refine so rfl (op_call (spec_l7Sorted.ok k l0 Al0 cl0 _ A1) [⟨0, 0, 0, false⟩] 1 rfl rfl rfl rfl rfl ?_)
 rintro _ _ _ ⟨At1, ct1, rfl, rfl, rfl⟩
 refine sv (EV.as rfl) rfl (re (gs (rg (sv (EV.mv rfl) rfl ?_))))
 revert H; refine bdI ?_; rintro t2 A2 H
 refine so rfl (op_call (spec_l7Sorted.ok k l1 Al1 cl1 _ A2) [⟨1, 0, 0, false⟩] 3 rfl rfl rfl rfl rfl ?_)
 rintro _ _ _ ⟨At2, ct2, rfl, rfl, rfl⟩
 refine sv (EV.as rfl) rfl (re (pr [5, 6] [] [2, 3] rfl rfl rfl rfl (gs (gs (rg (sv (EV.mv rfl) rfl (sv (EV.ln rfl) rfl (sv (EV.mv rfl) rfl (sv (EV.ln rfl) rfl (sv (EV.neq rfl rfl) rfl (re ?_)))))))))))
 revert H; refine ifsI ?_ ?_ <;> intro c3 H
 ·
  refine gf rfl (nF c3) (gk (gs (gs (rg (sv (EV.as rfl) rfl (re (gb ?_)))))))
  refine lo (fun kk S => ∃ (x2_5 : List S92) (Ax2_5 : Option Addr) (cx2_5 : Nat) (x2_6 : List S92) (Ax2_6 : Option Addr) (cx2_6 : Nat) (x2_7 : Int), spec_EqualPairBags.l0 kk x2_5 x2_6 x2_7 = some r0 ∧ S = ⟨[(5, .slice Ax2_5 x2_5.length cx2_5), (6, .slice Ax2_6 x2_6.length cx2_6), (7, .int .i64 x2_7)], [], [.sl 2 k92 Ax2_5 cx2_5 x2_5 1 true, .sl 2 k92 Ax2_6 cx2_6 x2_6 2 true]⟩) (fun S hS => ?_) (fun n0 ih0 S hS => ?_) ⟨t1, At1, ct1, t2, At2, ct2, 0, H, rfl⟩ (fun h => wk [5, 6, 7] [] [⟨0, 2, 1, true⟩, ⟨1, 2, 2, true⟩] h)
  · clear H; obtain ⟨_, _, _, _, _, _, _, H, _⟩ := hS; rw [spec_EqualPairBags.l0] at H; cases H
  clear H
  obtain ⟨x2_5, Ax2_5, cx2_5, x2_6, Ax2_6, cx2_6, x2_7, H, rfl⟩ := hS
  rw [spec_EqualPairBags.l0] at H
  refine gs (gs (rg (sv (EV.mv rfl) rfl (sv (EV.mv rfl) rfl (sv (EV.ln rfl) rfl (sv (EV.lss rfl rfl) rfl (re ?_)))))))
  revert H; refine ifsI ?_ ?_ <;> intro c4 H
  ·
   refine gt rfl (dT c4) (gk (gs (gb (gs ?_))))
   revert H; refine ggI ?_; intro g5 H
   revert H; refine ggI ?_; intro g6 H
   refine dr [] [0, 1] [] 9 rfl rfl rfl rfl (xv 0 [] [0, 1] rfl (EV.mv rfl) rfl rfl rfl rfl (xv 1 [] [0, 1] rfl (EV.mv rfl) rfl rfl rfl rfl (xv 2 [] [0, 1] rfl (EV.ix 0 rfl rfl rfl g5 c4 rfl) rfl rfl rfl rfl (xv 3 [] [0, 1] rfl (EV.le (v := .agg #[.int .i64 ((rd_T92 x2_5 x2_7).f0.f0), .int .i64 ((rd_T92 x2_5 x2_7).f0.f1), .int .i64 ((rd_T92 x2_5 x2_7).f0.f2), .int .i64 ((rd_T92 x2_5 x2_7).f1.f0), .int .i64 ((rd_T92 x2_5 x2_7).f1.f1), .int .i64 ((rd_T92 x2_5 x2_7).f1.f2), .bool ((rd_T92 x2_5 x2_7).f2)]) x2_7 0 (some 7) 0 z92 rfl rfl rfl g5 c4 rfl rfl rfl) rfl rfl rfl rfl (xv 4 [] [0, 1] rfl (EV.mv rfl) rfl rfl rfl rfl (xv 5 [] [0, 1] rfl (EV.mv rfl) rfl rfl rfl rfl (xv 6 [] [0, 1] rfl (EV.ix 1 rfl rfl rfl g5 g6 rfl) rfl rfl rfl rfl (xv 7 [] [0, 1] rfl (EV.le (v := .agg #[.int .i64 ((rd_T92 x2_6 x2_7).f0.f0), .int .i64 ((rd_T92 x2_6 x2_7).f0.f1), .int .i64 ((rd_T92 x2_6 x2_7).f0.f2), .int .i64 ((rd_T92 x2_6 x2_7).f1.f0), .int .i64 ((rd_T92 x2_6 x2_7).f1.f1), .int .i64 ((rd_T92 x2_6 x2_7).f1.f2), .bool ((rd_T92 x2_6 x2_7).f2)]) x2_7 0 (some 7) 1 z92 rfl rfl rfl g5 g6 rfl rfl rfl) rfl rfl rfl rfl (xv 8 [] [0, 1] rfl (EV.neS rfl rfl (fun d w => eq92 d w ((rd_T92 x2_5 x2_7).f0.f0) ((rd_T92 x2_6 x2_7).f0.f0) ((rd_T92 x2_5 x2_7).f0.f1) ((rd_T92 x2_6 x2_7).f0.f1) ((rd_T92 x2_5 x2_7).f0.f2) ((rd_T92 x2_6 x2_7).f0.f2) ((rd_T92 x2_5 x2_7).f1.f0) ((rd_T92 x2_6 x2_7).f1.f0) ((rd_T92 x2_5 x2_7).f1.f1) ((rd_T92 x2_6 x2_7).f1.f1) ((rd_T92 x2_5 x2_7).f1.f2) ((rd_T92 x2_6 x2_7).f1.f2) ((rd_T92 x2_5 x2_7).f2) ((rd_T92 x2_6 x2_7).f2))) rfl rfl rfl rfl (xd (pr [5, 6, 7, 31] [] [0, 1] rfl rfl rfl rfl ?_)))))))))))
   revert H; refine ifsI ?_ ?_ <;> intro c7 H
   ·
    exact gf rfl (bN c7) (gk (ge (rg (sv (EV.mv rfl) rfl (sv (EV.add rfl rfl) rfl (sv (EV.as rfl) rfl (re (wk [5, 6, 7] [] [⟨0, 2, 1, true⟩, ⟨1, 2, 2, true⟩] (ih0 _ (by omega) _ ⟨x2_5, Ax2_5, cx2_5, x2_6, Ax2_6, cx2_6, wrap64 (x2_7 + 1), H, rfl⟩)))))))))
   ·
    refine gt rfl (bM c7) (gs (rg (sv (EV.as rfl) rfl (re ?_))))
    cases H
    exact rt Try.func13 rfl (.tmp rfl .nil) rfl [] [] rfl rfl rfl rfl rfl ⟨rfl, rfl, rfl⟩
  ·
   refine gf rfl (dF c4) (gx rfl (gs (rg (sv (EV.as rfl) rfl (re (pr [4] [] [] rfl rfl rfl rfl ?_))))))
   cases H
   exact rt Try.func13 rfl (.tmp rfl .nil) rfl [] [] rfl rfl rfl rfl rfl ⟨rfl, rfl, rfl⟩
 ·
  refine gt rfl (nT c3) (gs (rg (sv (EV.as rfl) rfl (re (pr [4] [] [] rfl rfl rfl rfl ?_)))))
  cases H
  exact rt Try.func13 rfl (.tmp rfl .nil) rfl [] [] rfl rfl rfl rfl rfl ⟨rfl, rfl, rfl⟩
end Go.Proofs.Ytajjeemkdjfilaa.K
namespace Go.Proofs.Ytajjeemkdjfilaa.K
open Go Go.RowKit
set_option linter.unusedVariables false
set_option linter.unusedSimpArgs false
def laws_grantsOk.l0 : Nat → Int → (List Int) → Option (Bool)
 | 0, _, _ => none
 | k + 1, x2_3, l0 => if x2_3 < (l0.length : Int) then (if 0 ≤ x2_3 then (if (rdOf 0 l0 x2_3) < 8 then (some false) else (if (rdOf 0 l0 x2_3) > 60 then (some false) else (laws_grantsOk.l0 k (wrap64 (x2_3 + 1)) l0))) else none) else (some (decide ((l0.length : Int) > 0)))
def laws_grantsOk.f (k : Nat) (l0 : List Int) : Option (Bool) := laws_grantsOk.l0 k 0 l0
set_option maxHeartbeats 4000000 in
set_option maxRecDepth 100000 in
theorem laws_grantsOk.ok (k : Nat) (l0 : List Int) (Al0 : Option Addr) (cl0 : Nat) (r0 : Bool) (H : laws_grantsOk.f k l0 = some r0) : Fn Try.prog 16 [.slice Al0 l0.length cl0] [] [.sl 0 (.int .i64) Al0 cl0 l0 0 false] (fun v bx en => v = .bool r0 ∧ bx = [] ∧ en = []) := by
 refine fn_ 25 Try.func16 rfl rfl rfl (fun base T w0 => ?_)
 rw [laws_grantsOk.f] at H
 refine gs (rg (sv (EV.as rfl) rfl (re (gs (gs (rg (sv (EV.as rfl) rfl (re (gb ?_)))))))))
 refine lo (fun kk S => ∃ (x2_3 : Int), laws_grantsOk.l0 kk x2_3 l0 = some r0 ∧ S = ⟨[(0, .slice Al0 l0.length cl0), (3, .int .i64 x2_3)], [], [.sl 0 (.int .i64) Al0 cl0 l0 0 false]⟩) (fun S hS => ?_) (fun n0 ih0 S hS => ?_) ⟨0, H, rfl⟩ (fun h => wk [0, 3] [] [⟨0, 0, 0, false⟩] h)
 · clear H; obtain ⟨_, H, _⟩ := hS; rw [laws_grantsOk.l0] at H; cases H
 clear H
 obtain ⟨x2_3, H, rfl⟩ := hS
 rw [laws_grantsOk.l0] at H
 refine gs (gs (rg (sv (EV.mv rfl) rfl (sv (EV.mv rfl) rfl (sv (EV.ln rfl) rfl (sv (EV.lss rfl rfl) rfl (re ?_)))))))
 revert H; refine ifsI ?_ ?_ <;> intro c1 H
 ·
  refine gt rfl (dT c1) (gk (gs (gb (gs (rg (sv (EV.mv rfl) rfl (sv (EV.mv rfl) rfl ?_)))))))
  revert H; refine ggI ?_; intro g2 H
  refine sv (EV.ix 0 rfl rfl rfl g2 c1 rfl) rfl (sv (EV.le (v := .int .i64 (rdOf 0 l0 x2_3)) x2_3 0 none 0 0 rfl rfl rfl g2 c1 rfl rfl rfl) rfl (sv (EV.lss rfl rfl) rfl (sv (EV.mv rfl) rfl ?_)))
  revert H; refine ifsI ?_ ?_ <;> intro c3 H
  ·
   refine ts 15 rfl (dT c3) (sk rfl (sk rfl (sk rfl (sk rfl (sk rfl (sv (EV.pt rfl rfl rfl) rfl (re (pr [0, 3, 21] [] [0] rfl rfl rfl rfl (gt rfl rfl (gs (rg (sv (EV.as rfl) rfl (re ?_)))))))))))))
   cases H
   exact rt Try.func16 rfl (.tmp rfl .nil) rfl [] [] rfl rfl rfl rfl rfl ⟨rfl, rfl, rfl⟩
  ·
   refine ts 15 rfl (dF c3) (sv (EV.mv rfl) rfl (sv (EV.mv rfl) rfl (sv (EV.ix 0 rfl rfl rfl g2 c1 rfl) rfl (sv (EV.le (v := .int .i64 (rdOf 0 l0 x2_3)) x2_3 0 none 0 0 rfl rfl rfl g2 c1 rfl rfl rfl) rfl (sv (EV.gtr rfl rfl) rfl (sv (EV.pf rfl rfl rfl) rfl (re (pr [0, 3, 16, 17, 18, 19, 20, 21] [] [0] rfl rfl rfl rfl ?_))))))))
   revert H; refine ifsI ?_ ?_ <;> intro c4 H
   ·
    refine gt rfl (dT c4) (gs (rg (sv (EV.as rfl) rfl (re (pr [2] [] [] rfl rfl rfl rfl ?_)))))
    cases H
    exact rt Try.func16 rfl (.tmp rfl .nil) rfl [] [] rfl rfl rfl rfl rfl ⟨rfl, rfl, rfl⟩
   ·
    exact gf rfl (dF c4) (gk (ge (rg (sv (EV.mv rfl) rfl (sv (EV.add rfl rfl) rfl (sv (EV.as rfl) rfl (re (wk [0, 3] [] [⟨0, 0, 0, false⟩] (ih0 _ (by omega) _ ⟨wrap64 (x2_3 + 1), H, rfl⟩)))))))))
 ·
  refine gf rfl (dF c1) (gx rfl (gs (rg (sv (EV.mv rfl) rfl (sv (EV.ln rfl) rfl (sv (EV.gtr rfl rfl) rfl (sv (EV.as rfl) rfl (re (pr [2] [] [] rfl rfl rfl rfl ?_)))))))))
  cases H
  exact rt Try.func16 rfl (.tmp rfl .nil) rfl [] [] rfl rfl rfl rfl rfl ⟨rfl, rfl, rfl⟩
end Go.Proofs.Ytajjeemkdjfilaa.K
namespace Go.Proofs.Ytajjeemkdjfilaa.K
open Go Go.RowKit
set_option linter.unusedVariables false
set_option linter.unusedSimpArgs false
def spec_DrawJoinStepBound.f (k : Nat) (l0 : List Int) : Option ((List S70) × (List S70)) := (spec_DrawRunJoin.f k l0).bind fun bt1 => (some (bt1.2.1, bt1.2.2.1))
set_option maxHeartbeats 4000000 in
set_option maxRecDepth 100000 in
theorem spec_DrawJoinStepBound.ok (k : Nat) (l0 : List Int) (Al0 : Option Addr) (cl0 : Nat) (r0 : List S70) (r1 : List S70) (H : spec_DrawJoinStepBound.f k l0 = some (r0, r1)) : Fn Try.prog 17 [.slice Al0 l0.length cl0] [] [.sl 0 (.int .u8) Al0 cl0 l0 0 false] (fun v bx en => ∃ A0 c0 A1 c1, v = .tuple #[.slice A0 r0.length c0, .slice A1 r1.length c1] ∧ bx = [] ∧ en = [.sl 2 k70 A0 c0 r0 1 true, .sl 2 k70 A1 c1 r1 2 true]) := by
 refine fn_ 17 Try.func17 rfl rfl rfl (fun base T w0 => ?_)
 rw [spec_DrawJoinStepBound.f] at H
 refine gs (rg (sv (EV.as rfl) rfl (sv (EV.as rfl) rfl (re (gs (rg (sv (EV.mv rfl) rfl ?_)))))))
 revert H; refine bdI ?_; rintro ⟨t1_0, t1_1, t1_2, t1_3⟩ A1 H
 refine so rfl (op_call (spec_DrawRunJoin.ok k l0 Al0 cl0 _ _ _ _ A1) [⟨0, 0, 0, false⟩] 1 rfl rfl rfl rfl rfl ?_)
 rintro _ _ _ ⟨At1_1, ct1_1, At1_2, ct1_2, At1_3, ct1_3, rfl, rfl, rfl⟩
 refine sv (EV.mv rfl) rfl (sv (EV.ex rfl rfl) rfl (sv (EV.ex rfl rfl) rfl (sv (EV.ex rfl rfl) rfl (sv (EV.ex rfl rfl) rfl (sv (EV.as rfl) rfl (sv (EV.as rfl) rfl (sv (EV.as rfl) rfl (sv (EV.as rfl) rfl (re (pr [5, 6] [] [1, 2] rfl rfl rfl rfl (gs (rg (sv (EV.mv rfl) rfl (sv (EV.mv rfl) rfl (sv (EV.as rfl) rfl (sv (EV.as rfl) rfl (re ?_)))))))))))))))))
 cases H
 exact rt Try.func17 rfl (.tmp rfl (.tmp rfl .nil)) rfl [] [⟨0, 2, 1, true⟩, ⟨1, 2, 2, true⟩] rfl rfl rfl rfl rfl ⟨_, _, _, _, rfl, rfl, rfl⟩
end Go.Proofs.Ytajjeemkdjfilaa.K
namespace Go.Proofs.Ytajjeemkdjfilaa.K
open Go Go.RowKit
set_option linter.unusedVariables false
set_option linter.unusedSimpArgs false
def spec_ReferenceJoin.l0 : Nat → Int → (List S92) → Int → (List S70) → (List S70) → Option ((List S92))
 | 0, _, _, _, _, _ => none
 | k + 1, x2_0, x2_7, x2_8, l1, l2 => if x2_8 < (l1.length : Int) then ((spec_IsValidJoinKind.f x2_0).bind fun t3 => (if t3 = true then (if 0 ≤ x2_8 then ((spec_l7One.f k x2_0 ((rd_T70 l1 x2_8).f0) ((rd_T70 l1 x2_8).f1) ((rd_T70 l1 x2_8).f2) l2).bind fun t6 => (if x2_7.length + t6.length ≤ 2513169434916 then (spec_ReferenceJoin.l0 k x2_0 (x2_7 ++ t6) (wrap64 (x2_8 + 1)) l1 l2) else none)) else none) else (some x2_7))) else (some x2_7)
def spec_ReferenceJoin.f (k : Nat) (a0 : Int) (l1 : List S70) (l2 : List S70) : Option ((List S92)) := spec_ReferenceJoin.l0 k a0 [] 0 l1 l2
set_option maxHeartbeats 4000000 in
set_option maxRecDepth 100000 in
theorem spec_ReferenceJoin.ok (k : Nat) (a0 : Int) (l1 : List S70) (Al1 : Option Addr) (cl1 : Nat) (l2 : List S70) (Al2 : Option Addr) (cl2 : Nat) (r0 : List S92) (H : spec_ReferenceJoin.f k a0 l1 l2 = some r0) : Fn Try.prog 18 [.int .i64 a0, .slice Al1 l1.length cl1, .slice Al2 l2.length cl2] [] [.sl 0 k70 Al1 cl1 l1 0 false, .sl 0 k70 Al2 cl2 l2 0 false] (fun v bx en => ∃ A0 c0, v = .slice A0 r0.length c0 ∧ bx = [] ∧ en = [.sl 2 k92 A0 c0 r0 1 true]) := by
 refine fn_ 30 Try.func18 rfl rfl rfl (fun base T w0 => ?_)
 rw [spec_ReferenceJoin.f] at H
 refine gs (rg (sv (EV.as rfl) rfl (re (gs (rg (so rfl (op_lit (s := 7) (by_ := 56) k92 ([] : List S92) [] [] 1 [] rfl rfl rfl rfl rfl rfl rfl rfl rfl rfl rfl rfl rfl dq rfl fun A9_1 c9_1 => (sv (EV.as rfl) rfl (re (gs (gs (rg (sv (EV.as rfl) rfl (re (gb ?_)))))))))))))))
 refine lo (fun kk S => ∃ (x2_0 : Int) (x2_7 : List S92) (Ax2_7 : Option Addr) (cx2_7 : Nat) (x2_8 : Int), spec_ReferenceJoin.l0 kk x2_0 x2_7 x2_8 l1 l2 = some r0 ∧ S = ⟨[(0, .int .i64 x2_0), (1, .slice Al1 l1.length cl1), (2, .slice Al2 l2.length cl2), (7, .slice Ax2_7 x2_7.length cx2_7), (8, .int .i64 x2_8)], [], [.sl 2 k92 Ax2_7 cx2_7 x2_7 1 true, .sl 0 k70 Al1 cl1 l1 0 false, .sl 0 k70 Al2 cl2 l2 0 false]⟩) (fun S hS => ?_) (fun n0 ih0 S hS => ?_) ⟨a0, [], A9_1, c9_1, 0, H, rfl⟩ (fun h => wk [0, 1, 2, 7, 8] [] [⟨2, 2, 1, true⟩, ⟨0, 0, 0, false⟩, ⟨1, 0, 0, false⟩] h)
 · clear H; obtain ⟨_, _, _, _, _, H, _⟩ := hS; rw [spec_ReferenceJoin.l0] at H; cases H
 clear H
 obtain ⟨x2_0, x2_7, Ax2_7, cx2_7, x2_8, H, rfl⟩ := hS
 rw [spec_ReferenceJoin.l0] at H
 refine gs (gs (rg (sv (EV.mv rfl) rfl (sv (EV.mv rfl) rfl (sv (EV.ln rfl) rfl (sv (EV.lss rfl rfl) rfl (sv (EV.mv rfl) rfl ?_)))))))
 revert H; refine ifsI ?_ ?_ <;> intro c2 H
 ·
  refine ts 14 rfl (dT c2) (sv (EV.mv rfl) rfl ?_)
  revert H; refine bdI ?_; rintro t3 A3 H
  refine so rfl (op_call (spec_IsValidJoinKind.ok x2_0 _ A3) [] 2 rfl rfl rfl rfl rfl ?_)
  rintro _ _ _ ⟨rfl, rfl, rfl⟩
  refine sv (EV.pt rfl rfl rfl) rfl (re ?_)
  revert H; refine ifsI ?_ ?_ <;> intro c4 H
  ·
   subst c4
   refine gt rfl rfl (gk (gs (gb (rg (sv (EV.mv rfl) rfl (sv (EV.mv rfl) rfl (sv (EV.mv rfl) rfl (sv (EV.mv rfl) rfl ?_))))))))
   revert H; refine ggI ?_; intro g5 H
   refine sv (EV.ix 1 rfl rfl rfl g5 c2 rfl) rfl (sv (EV.le (v := .agg #[.int .i64 ((rd_T70 l1 x2_8).f0), .int .i64 ((rd_T70 l1 x2_8).f1), .int .i64 ((rd_T70 l1 x2_8).f2)]) x2_8 0 (some 3) 1 z70 rfl rfl rfl g5 c2 rfl rfl rfl) rfl (sv (EV.mv rfl) rfl ?_))
   revert H; refine bdI ?_; rintro t6 A6 H
   refine so rfl (op_call (spec_l7One.ok n0 x2_0 ((rd_T70 l1 x2_8).f0) ((rd_T70 l1 x2_8).f1) ((rd_T70 l1 x2_8).f2) l2 Al2 cl2 _ A6) [⟨2, 0, 0, false⟩] 2 rfl rfl rfl rfl rfl ?_)
   rintro _ _ _ ⟨At6, ct6, rfl, rfl, rfl⟩
   revert H; refine ggI ?_; intro g7 H
   exact so rfl (op_app (k := k92) (s := 7) (by_ := 56) 0 3 rfl rfl rfl rfl (ap2 g7 dq) (ap2n g7 dq) (.inl rfl) true (fun _ => .inl rfl) rfl rfl fun A28_8 c28_8 => (nmE (en := [.sl 0 k70 Al1 cl1 l1 0 false, .sl 0 k70 Al2 cl2 l2 0 false, .sl 2 k92 At6 ct6 t6 3 true, .sl 2 k92 A28_8 c28_8 (x2_7 ++ t6) 1 true]) (by kernel_rfl) (sv (EV.as rfl) rfl (re (pr [0, 1, 2, 7, 8, 15, 16] [] [0, 1, 3] rfl rfl rfl rfl (ge (rg (sv (EV.mv rfl) rfl (sv (EV.add rfl rfl) rfl (sv (EV.as rfl) rfl (re (wk [0, 1, 2, 7, 8] [] [⟨2, 2, 1, true⟩, ⟨0, 0, 0, false⟩, ⟨1, 0, 0, false⟩] (ih0 _ (by omega) _ ⟨x2_0, x2_7 ++ t6, A28_8, c28_8, wrap64 (x2_8 + 1), H, rfl⟩)))))))))))))
  ·
   obtain rfl := bF c4
   refine gf rfl rfl (gx rfl (gs (rg (sv (EV.mv rfl) rfl (sv (EV.as rfl) rfl (re (pr [6] [] [0] rfl rfl rfl rfl ?_)))))))
   cases H
   exact rt Try.func18 rfl (.tmp rfl .nil) rfl [] [⟨0, 2, 1, true⟩] rfl rfl rfl rfl rfl ⟨_, _, rfl, rfl, rfl⟩
 ·
  refine ts 14 rfl (dF c2) (sk rfl (sk rfl (sv (EV.pf rfl rfl rfl) rfl (re (pr [0, 1, 2, 7, 8, 17] [] [0, 1, 2] rfl rfl rfl rfl (gf rfl rfl (gx rfl (gs (rg (sv (EV.mv rfl) rfl (sv (EV.as rfl) rfl (re (pr [6] [] [0] rfl rfl rfl rfl ?_)))))))))))))
  cases H
  exact rt Try.func18 rfl (.tmp rfl .nil) rfl [] [⟨0, 2, 1, true⟩] rfl rfl rfl rfl rfl ⟨_, _, rfl, rfl, rfl⟩
end Go.Proofs.Ytajjeemkdjfilaa.K
namespace Go.Proofs.Ytajjeemkdjfilaa.K
open Go Go.RowKit
set_option linter.unusedVariables false
set_option linter.unusedSimpArgs false
def laws_most.l0 : Nat → Int → Int → (List Int) → Option (Int)
 | 0, _, _, _ => none
 | k + 1, x2_3, x2_4, l0 => if x2_4 < (l0.length : Int) then (if 0 ≤ x2_4 then (laws_most.l0 k (mx x2_3 (rdOf 0 l0 x2_4)) (wrap64 (x2_4 + 1)) l0) else none) else (some x2_3)
def laws_most.f (k : Nat) (l0 : List Int) : Option (Int) := laws_most.l0 k 0 0 l0
set_option maxHeartbeats 4000000 in
set_option maxRecDepth 100000 in
theorem laws_most.ok (k : Nat) (l0 : List Int) (Al0 : Option Addr) (cl0 : Nat) (r0 : Int) (H : laws_most.f k l0 = some r0) : Fn Try.prog 19 [.slice Al0 l0.length cl0] [] [.sl 0 (.int .i64) Al0 cl0 l0 0 false] (fun v bx en => v = .int .i64 r0 ∧ bx = [] ∧ en = []) := by
 refine fn_ 18 Try.func19 rfl rfl rfl (fun base T w0 => ?_)
 rw [laws_most.f] at H
 refine gs (rg (sv (EV.as rfl) rfl (re (gs (rg (sv (EV.as rfl) rfl (re (gs (gs (rg (sv (EV.as rfl) rfl (re (gb ?_)))))))))))))
 refine lo (fun kk S => ∃ (x2_3 : Int) (x2_4 : Int), laws_most.l0 kk x2_3 x2_4 l0 = some r0 ∧ S = ⟨[(0, .slice Al0 l0.length cl0), (3, .int .i64 x2_3), (4, .int .i64 x2_4)], [], [.sl 0 (.int .i64) Al0 cl0 l0 0 false]⟩) (fun S hS => ?_) (fun n0 ih0 S hS => ?_) ⟨0, 0, H, rfl⟩ (fun h => wk [0, 3, 4] [] [⟨0, 0, 0, false⟩] h)
 · clear H; obtain ⟨_, _, H, _⟩ := hS; rw [laws_most.l0] at H; cases H
 clear H
 obtain ⟨x2_3, x2_4, H, rfl⟩ := hS
 rw [laws_most.l0] at H
 refine gs (gs (rg (sv (EV.mv rfl) rfl (sv (EV.mv rfl) rfl (sv (EV.ln rfl) rfl (sv (EV.lss rfl rfl) rfl (re ?_)))))))
 revert H; refine ifsI ?_ ?_ <;> intro c1 H
 ·
  refine gt rfl (dT c1) (gk (gs (gb (rg (sv (EV.mv rfl) rfl (sv (EV.mv rfl) rfl (sv (EV.mv rfl) rfl ?_)))))))
  revert H; refine ggI ?_; intro g2 H
  exact sv (EV.ix 0 rfl rfl rfl g2 c1 rfl) rfl (sv (EV.le (v := .int .i64 (rdOf 0 l0 x2_4)) x2_4 0 none 0 0 rfl rfl rfl g2 c1 rfl rfl rfl) rfl (sv (EV.mx rfl rfl) rfl (sv (EV.as rfl) rfl (re (pr [0, 3, 4] [] [0] rfl rfl rfl rfl (ge (rg (sv (EV.mv rfl) rfl (sv (EV.add rfl rfl) rfl (sv (EV.as rfl) rfl (re (wk [0, 3, 4] [] [⟨0, 0, 0, false⟩] (ih0 _ (by omega) _ ⟨mx x2_3 (rdOf 0 l0 x2_4), wrap64 (x2_4 + 1), H, rfl⟩)))))))))))))
 ·
  refine gf rfl (dF c1) (gx rfl (gs (rg (sv (EV.mv rfl) rfl (sv (EV.as rfl) rfl (re (pr [2] [] [] rfl rfl rfl rfl ?_)))))))
  cases H
  exact rt Try.func19 rfl (.tmp rfl .nil) rfl [] [] rfl rfl rfl rfl rfl ⟨rfl, rfl, rfl⟩
end Go.Proofs.Ytajjeemkdjfilaa.K
namespace Go.Proofs.Ytajjeemkdjfilaa.K
open Go Go.RowKit
set_option linter.unusedVariables false
set_option linter.unusedSimpArgs false
def impl_JoinStepBound.f (l0 : List S70) (l1 : List S70) : Option (Int) := some (wrap64 (31 + (l1.length : Int)))
set_option maxHeartbeats 4000000 in
set_option maxRecDepth 100000 in
theorem impl_JoinStepBound.ok (l0 : List S70) (Al0 : Option Addr) (cl0 : Nat) (l1 : List S70) (Al1 : Option Addr) (cl1 : Nat) (r0 : Int) (H : impl_JoinStepBound.f l0 l1 = some r0) : Fn Try.prog 20 [.slice Al0 l0.length cl0, .slice Al1 l1.length cl1] [] [.sl 0 k70 Al0 cl0 l0 0 false, .sl 0 k70 Al1 cl1 l1 0 false] (fun v bx en => v = .int .i64 r0 ∧ bx = [] ∧ en = []) := by
 refine fn_ 8 Try.func20 rfl rfl rfl (fun base T w0 => ?_)
 rw [impl_JoinStepBound.f] at H
 refine gs (rg (sv (EV.as rfl) rfl (re (gs (rg (sv (EV.mv rfl) rfl (sv (EV.ln rfl) rfl (sv (EV.add rfl rfl) rfl (sv (EV.as rfl) rfl (re ?_))))))))))
 cases H
 exact rt Try.func20 rfl (.tmp rfl .nil) rfl [] [] rfl rfl rfl rfl rfl ⟨rfl, rfl, rfl⟩
end Go.Proofs.Ytajjeemkdjfilaa.K
namespace Go.Proofs.Ytajjeemkdjfilaa.K
open Go Go.RowKit
set_option linter.unusedVariables false
set_option linter.unusedSimpArgs false
def impl_JoinWriteBound.f (k : Nat) (l0 : List S70) (l1 : List S70) : Option (Int) := (impl_TotalCost.f k l0).bind fun t1 => ((impl_TotalCost.f k l1).bind fun t2 => (some (wrap64 (4 * (wrap64 (t1 + t2))))))
set_option maxHeartbeats 4000000 in
set_option maxRecDepth 100000 in
theorem impl_JoinWriteBound.ok (k : Nat) (l0 : List S70) (Al0 : Option Addr) (cl0 : Nat) (l1 : List S70) (Al1 : Option Addr) (cl1 : Nat) (r0 : Int) (H : impl_JoinWriteBound.f k l0 l1 = some r0) : Fn Try.prog 21 [.slice Al0 l0.length cl0, .slice Al1 l1.length cl1] [] [.sl 0 k70 Al0 cl0 l0 0 false, .sl 0 k70 Al1 cl1 l1 0 false] (fun v bx en => v = .int .i64 r0 ∧ bx = [] ∧ en = []) := by
 refine fn_ 11 Try.func21 rfl rfl rfl (fun base T w0 => ?_)
 rw [impl_JoinWriteBound.f] at H
 refine gs (rg (sv (EV.as rfl) rfl (re (gs (rg (sv (EV.mv rfl) rfl ?_))))))
 revert H; refine bdI ?_; rintro t1 A1 H
 refine so rfl (op_call (impl_TotalCost.ok k l0 Al0 cl0 _ A1) [⟨0, 0, 0, false⟩] 1 rfl rfl rfl rfl rfl ?_)
 rintro _ _ _ ⟨rfl, rfl, rfl⟩
 refine sv (EV.mv rfl) rfl ?_
 revert H; refine bdI ?_; rintro t2 A2 H
 refine so rfl (op_call (impl_TotalCost.ok k l1 Al1 cl1 _ A2) [⟨1, 0, 0, false⟩] 1 rfl rfl rfl rfl rfl ?_)
 rintro _ _ _ ⟨rfl, rfl, rfl⟩
 refine sv (EV.add rfl rfl) rfl (sv (EV.mul rfl rfl) rfl (sv (EV.as rfl) rfl (re (pr [4] [] [] rfl rfl rfl rfl ?_))))
 cases H
 exact rt Try.func21 rfl (.tmp rfl .nil) rfl [] [] rfl rfl rfl rfl rfl ⟨rfl, rfl, rfl⟩
end Go.Proofs.Ytajjeemkdjfilaa.K
namespace Go.Proofs.Ytajjeemkdjfilaa.K
open Go Go.RowKit
set_option linter.unusedVariables false
set_option linter.unusedSimpArgs false
def spec_JoinStepBound.f (l0 : List S70) (l1 : List S70) : Option (Int) := some (wrap64 (31 + (l1.length : Int)))
set_option maxHeartbeats 4000000 in
set_option maxRecDepth 100000 in
theorem spec_JoinStepBound.ok (l0 : List S70) (Al0 : Option Addr) (cl0 : Nat) (l1 : List S70) (Al1 : Option Addr) (cl1 : Nat) (r0 : Int) (H : spec_JoinStepBound.f l0 l1 = some r0) : Fn Try.prog 22 [.slice Al0 l0.length cl0, .slice Al1 l1.length cl1] [] [.sl 0 k70 Al0 cl0 l0 0 false, .sl 0 k70 Al1 cl1 l1 0 false] (fun v bx en => v = .int .i64 r0 ∧ bx = [] ∧ en = []) := by
 refine fn_ 8 Try.func22 rfl rfl rfl (fun base T w0 => ?_)
 rw [spec_JoinStepBound.f] at H
 refine gs (rg (sv (EV.as rfl) rfl (re (gs (rg (sv (EV.mv rfl) rfl (sv (EV.ln rfl) rfl (sv (EV.add rfl rfl) rfl (sv (EV.as rfl) rfl (re ?_))))))))))
 cases H
 exact rt Try.func22 rfl (.tmp rfl .nil) rfl [] [] rfl rfl rfl rfl rfl ⟨rfl, rfl, rfl⟩
end Go.Proofs.Ytajjeemkdjfilaa.K
namespace Go.Proofs.Ytajjeemkdjfilaa.K
open Go Go.RowKit
set_option linter.unusedVariables false
set_option linter.unusedSimpArgs false
def spec_JoinWriteBound.f (k : Nat) (l0 : List S70) (l1 : List S70) : Option (Int) := (spec_TotalCost.f k l0).bind fun t1 => ((spec_TotalCost.f k l1).bind fun t2 => (some (wrap64 (4 * (wrap64 (t1 + t2))))))
set_option maxHeartbeats 4000000 in
set_option maxRecDepth 100000 in
theorem spec_JoinWriteBound.ok (k : Nat) (l0 : List S70) (Al0 : Option Addr) (cl0 : Nat) (l1 : List S70) (Al1 : Option Addr) (cl1 : Nat) (r0 : Int) (H : spec_JoinWriteBound.f k l0 l1 = some r0) : Fn Try.prog 23 [.slice Al0 l0.length cl0, .slice Al1 l1.length cl1] [] [.sl 0 k70 Al0 cl0 l0 0 false, .sl 0 k70 Al1 cl1 l1 0 false] (fun v bx en => v = .int .i64 r0 ∧ bx = [] ∧ en = []) := by
 refine fn_ 11 Try.func23 rfl rfl rfl (fun base T w0 => ?_)
 rw [spec_JoinWriteBound.f] at H
 refine gs (rg (sv (EV.as rfl) rfl (re (gs (rg (sv (EV.mv rfl) rfl ?_))))))
 revert H; refine bdI ?_; rintro t1 A1 H
 refine so rfl (op_call (spec_TotalCost.ok k l0 Al0 cl0 _ A1) [⟨0, 0, 0, false⟩] 1 rfl rfl rfl rfl rfl ?_)
 rintro _ _ _ ⟨rfl, rfl, rfl⟩
 refine sv (EV.mv rfl) rfl ?_
 revert H; refine bdI ?_; rintro t2 A2 H
 refine so rfl (op_call (spec_TotalCost.ok k l1 Al1 cl1 _ A2) [⟨1, 0, 0, false⟩] 1 rfl rfl rfl rfl rfl ?_)
 rintro _ _ _ ⟨rfl, rfl, rfl⟩
 refine sv (EV.add rfl rfl) rfl (sv (EV.mul rfl rfl) rfl (sv (EV.as rfl) rfl (re (pr [4] [] [] rfl rfl rfl rfl ?_))))
 cases H
 exact rt Try.func23 rfl (.tmp rfl .nil) rfl [] [] rfl rfl rfl rfl rfl ⟨rfl, rfl, rfl⟩
end Go.Proofs.Ytajjeemkdjfilaa.K
namespace Go.Proofs.Ytajjeemkdjfilaa.K
open Go Go.RowKit
set_option linter.unusedVariables false
set_option linter.unusedSimpArgs false
def laws_big.f (l0 : List Int) : Option (Bool) := some (decide ((l0.length : Int) > 1048576))
set_option maxHeartbeats 4000000 in
set_option maxRecDepth 100000 in
theorem laws_big.ok (l0 : List Int) (Al0 : Option Addr) (cl0 : Nat) (r0 : Bool) (H : laws_big.f l0 = some r0) : Fn Try.prog 9 [.slice Al0 l0.length cl0] [] [.sl 0 (.int .u8) Al0 cl0 l0 0 false] (fun v bx en => v = .bool r0 ∧ bx = [] ∧ en = []) := by
 refine fn_ 6 Try.func9 rfl rfl rfl (fun base T w0 => ?_)
 rw [laws_big.f] at H
 refine gs (rg (sv (EV.as rfl) rfl (re (gs (rg (sv (EV.mv rfl) rfl (sv (EV.ln rfl) rfl (sv (EV.gtr rfl rfl) rfl (sv (EV.as rfl) rfl (re ?_))))))))))
 cases H
 exact rt Try.func9 rfl (.tmp rfl .nil) rfl [] [] rfl rfl rfl rfl rfl ⟨rfl, rfl, rfl⟩
end Go.Proofs.Ytajjeemkdjfilaa.K
namespace Go.Proofs.Ytajjeemkdjfilaa.K
open Go Go.RowKit
set_option linter.unusedVariables false
set_option linter.unusedSimpArgs false
def laws_FnJoinUnderGrants.j0 : Nat → Int → (List S70) → (List S70) → (List Int) → Bool → (List S92) → Int → Int → Int → (List Int) → Option (Bool)
 | 0, _, _, _, _, _, _, _, _, _, _ => none
 | k + 1, x1_3, x1_4, x1_5, x1_6, x1_8, x1_7_0, x1_7_1, x1_7_2, x1_7_3, l0 => if x1_8 = true then ((spec_DrawJoinStepBound.f k l0).bind fun bt8 => ((spec_ReferenceJoin.f k x1_3 x1_4 x1_5).bind fun t9 => ((spec_EqualPairBags.f k x1_7_0 t9).bind fun t10 => (if t10 = true then ((laws_most.f k x1_6).bind fun t12 => (if x1_7_2 ≤ t12 then ((impl_JoinStepBound.f x1_4 x1_5).bind fun t14 => (if x1_7_1 ≤ t14 then ((impl_JoinWriteBound.f k x1_4 x1_5).bind fun t16 => (if x1_7_3 ≤ t16 then ((impl_JoinStepBound.f bt8.1 bt8.2).bind fun t18 => ((spec_JoinStepBound.f bt8.1 bt8.2).bind fun t19 => (if t18 = t19 then ((impl_JoinWriteBound.f k bt8.1 bt8.2).bind fun t21 => ((spec_JoinWriteBound.f k bt8.1 bt8.2).bind fun t22 => (some (decide (t21 = t22))))) else (some false)))) else (some false))) else (some false))) else (some false))) else (some false))))) else (some (decide (x1_7_1 = 0)))
def laws_FnJoinUnderGrants.f (k : Nat) (l0 : List Int) : Option (Bool) := (laws_big.f l0).bind fun t1 => (if t1 = true then (some true) else ((spec_DrawRunJoin.f k l0).bind fun bt3 => ((impl_RunJoin.f k bt3.1 bt3.2.1 bt3.2.2.1 bt3.2.2.2).bind fun bt4 => ((spec_RunJoin.f k bt3.1 bt3.2.1 bt3.2.2.1 bt3.2.2.2).bind fun bt5 => (if (bt4.2.2.2.2 == bt5.2.2.2.2) = true then ((spec_EqualPairBags.f k bt4.1 bt5.1).bind fun t24 => (if t24 = true then (if bt4.2.1 = bt5.2.1 then (if bt4.2.2.1 = bt5.2.2.1 then (if bt4.2.2.2.1 = bt5.2.2.2.1 then ((spec_IsValidJoinKind.f bt3.1).bind fun t29 => (if t29 = true then ((spec_AreValidRows.f k bt3.2.1).bind fun t31 => (if t31 = true then ((spec_AreValidRows.f k bt3.2.2.1).bind fun t33 => (if t33 = true then ((laws_grantsOk.f k bt3.2.2.2).bind fun t35 => (if (bt4.2.2.2.2 == t35) = true then (laws_FnJoinUnderGrants.j0 k bt3.1 bt3.2.1 bt3.2.2.1 bt3.2.2.2 bt4.2.2.2.2 bt4.1 bt4.2.1 bt4.2.2.1 bt4.2.2.2.1 l0) else (some false))) else (if (bt4.2.2.2.2 == false) = true then (laws_FnJoinUnderGrants.j0 k bt3.1 bt3.2.1 bt3.2.2.1 bt3.2.2.2 bt4.2.2.2.2 bt4.1 bt4.2.1 bt4.2.2.1 bt4.2.2.2.1 l0) else (some false)))) else (if (bt4.2.2.2.2 == false) = true then (laws_FnJoinUnderGrants.j0 k bt3.1 bt3.2.1 bt3.2.2.1 bt3.2.2.2 bt4.2.2.2.2 bt4.1 bt4.2.1 bt4.2.2.1 bt4.2.2.2.1 l0) else (some false)))) else (if (bt4.2.2.2.2 == false) = true then (laws_FnJoinUnderGrants.j0 k bt3.1 bt3.2.1 bt3.2.2.1 bt3.2.2.2 bt4.2.2.2.2 bt4.1 bt4.2.1 bt4.2.2.1 bt4.2.2.2.1 l0) else (some false)))) else (some false)) else (some false)) else (some false)) else (some false))) else (some false))))))
set_option maxHeartbeats 4000000 in
set_option maxRecDepth 100000 in
theorem laws_FnJoinUnderGrants.ok (k : Nat) (l0 : List Int) (Al0 : Option Addr) (cl0 : Nat) (r0 : Bool) (H : laws_FnJoinUnderGrants.f k l0 = some r0) : Fn Try.prog 3 [.slice Al0 l0.length cl0] [] [.sl 0 (.int .u8) Al0 cl0 l0 0 false] (fun v bx en => v = .bool r0 ∧ bx = [] ∧ en = []) := by
 refine fn_ 146 Try.func3 rfl rfl rfl (fun base T w0 => ?_)
 rw [laws_FnJoinUnderGrants.f] at H
 refine gs (rg (sv (EV.as rfl) rfl (re (gs (gs (rg (sv (EV.mv rfl) rfl ?_)))))))
 revert H; refine bdI ?_; rintro t1 A1 H
 refine so rfl (op_call (laws_big.ok l0 Al0 cl0 _ A1) [⟨0, 0, 0, false⟩] 1 rfl rfl rfl rfl rfl ?_)
 rintro _ _ _ ⟨rfl, rfl, rfl⟩
 refine re ?_
 revert H; refine ifsI ?_ ?_ <;> intro c2 H
 ·
  subst c2
  refine gt rfl rfl (gs (rg (sv (EV.as rfl) rfl (re ?_))))
  cases H
  exact rt Try.func3 rfl (.tmp rfl .nil) rfl [] [] rfl rfl rfl rfl rfl ⟨rfl, rfl, rfl⟩
 ·
  obtain rfl := bF c2
  refine gf rfl rfl (gk (gs (rg (sv (EV.mv rfl) rfl ?_))))
  revert H; refine bdI ?_; rintro ⟨t3_0, t3_1, t3_2, t3_3⟩ A3 H
  refine so rfl (op_call (spec_DrawRunJoin.ok k l0 Al0 cl0 _ _ _ _ A3) [⟨0, 0, 0, false⟩] 1 rfl rfl rfl rfl rfl ?_)
  rintro _ _ _ ⟨At3_1, ct3_1, At3_2, ct3_2, At3_3, ct3_3, rfl, rfl, rfl⟩
  refine sv (EV.mv rfl) rfl (sv (EV.ex rfl rfl) rfl (sv (EV.ex rfl rfl) rfl (sv (EV.ex rfl rfl) rfl (sv (EV.ex rfl rfl) rfl (sv (EV.as rfl) rfl (sv (EV.as rfl) rfl (sv (EV.as rfl) rfl (sv (EV.as rfl) rfl (re (pr [0, 3, 4, 5, 6] [] [0, 1, 2, 3] rfl rfl rfl rfl (gs (rg (sv (EV.mv rfl) rfl (sv (EV.mv rfl) rfl (sv (EV.mv rfl) rfl (sv (EV.mv rfl) rfl ?_))))))))))))))))
  revert H; refine bdI ?_; rintro ⟨t4_0, t4_1, t4_2, t4_3, t4_4⟩ A4 H
  refine so rfl (op_call (impl_RunJoin.ok k t3_0 t3_1 At3_1 ct3_1 t3_2 At3_2 ct3_2 t3_3 At3_3 ct3_3 _ _ _ _ _ A4) [⟨1, 0, 0, false⟩, ⟨2, 0, 0, false⟩, ⟨3, 0, 0, false⟩] 5 rfl rfl rfl rfl rfl ?_)
  rintro _ _ _ ⟨At4_0, ct4_0, rfl, rfl, rfl⟩
  refine sv (EV.mv rfl) rfl (sv (EV.ex rfl rfl) rfl (sv (EV.ex rfl rfl) rfl (so rfl (op_alloc (cs := [.slice none 0 0, .int .i64 0, .int .i64 0, .int .i64 0]) (by kernel_rfl) rfl fun b7 => (so rfl (op_st (cs' := [.slice At4_0 t4_0.length ct4_0, .int .i64 t4_1, .int .i64 t4_2, .int .i64 t4_3]) 0 rfl rfl rfl rfl rfl rfl (sv (EV.as rfl) rfl (re (pr [0, 3, 4, 5, 6, 7, 8] [0] [0, 1, 2, 3, 4] rfl rfl rfl rfl (gs (rg (sv (EV.mv rfl) rfl (sv (EV.mv rfl) rfl (sv (EV.mv rfl) rfl (sv (EV.mv rfl) rfl ?_)))))))))))))))
  revert H; refine bdI ?_; rintro ⟨t5_0, t5_1, t5_2, t5_3, t5_4⟩ A5 H
  refine so rfl (op_call (spec_RunJoin.ok k t3_0 t3_1 At3_1 ct3_1 t3_2 At3_2 ct3_2 t3_3 At3_3 ct3_3 _ _ _ _ _ A5) [⟨1, 0, 0, false⟩, ⟨2, 0, 0, false⟩, ⟨3, 0, 0, false⟩] 7 rfl rfl rfl rfl rfl ?_)
  rintro _ _ _ ⟨At5_0, ct5_0, rfl, rfl, rfl⟩
  refine sv (EV.mv rfl) rfl (sv (EV.ex rfl rfl) rfl (sv (EV.ex rfl rfl) rfl (so rfl (op_alloc (cs := [.slice none 0 0, .int .i64 0, .int .i64 0, .int .i64 0]) (by kernel_rfl) rfl fun b9 => (so rfl (op_st (cs' := [.slice At5_0 t5_0.length ct5_0, .int .i64 t5_1, .int .i64 t5_2, .int .i64 t5_3]) 1 rfl rfl rfl rfl rfl rfl (sv (EV.as rfl) rfl (re (pr [0, 3, 4, 5, 6, 7, 8, 9, 10] [0, 1] [0, 1, 2, 3, 4, 5] rfl rfl rfl rfl ?_)))))))))
  refine jo (fun S => ∃ (m : Nat) (x1_3 : Int) (x1_4 : List S70) (Ax1_4 : Option Addr) (cx1_4 : Nat) (x1_5 : List S70) (Ax1_5 : Option Addr) (cx1_5 : Nat) (x1_6 : List Int) (Ax1_6 : Option Addr) (cx1_6 : Nat) (x1_8 : Bool) (x1_7_0 : List S92) (Ax1_7_0 : Option Addr) (cx1_7_0 : Nat) (x1_7_1 : Int) (x1_7_2 : Int) (x1_7_3 : Int), laws_FnJoinUnderGrants.j0 m x1_3 x1_4 x1_5 x1_6 x1_8 x1_7_0 x1_7_1 x1_7_2 x1_7_3 l0 = some r0 ∧ S = ⟨[(0, .slice Al0 l0.length cl0), (3, .int .i64 x1_3), (4, .slice Ax1_4 x1_4.length cx1_4), (5, .slice Ax1_5 x1_5.length cx1_5), (6, .slice Ax1_6 x1_6.length cx1_6), (7, .pointer (some ⟨b7, 0, none⟩)), (8, .bool x1_8)], [⟨b7, 30, [.slice Ax1_7_0 x1_7_0.length cx1_7_0, .int .i64 x1_7_1, .int .i64 x1_7_2, .int .i64 x1_7_3]⟩], [.sl 2 k70 Ax1_4 cx1_4 x1_4 1 true, .sl 2 k70 Ax1_5 cx1_5 x1_5 2 true, .sl 2 (.int .i64) Ax1_6 cx1_6 x1_6 3 true, .sl 2 k92 Ax1_7_0 cx1_7_0 x1_7_0 4 true, .sl 0 (.int .u8) Al0 cl0 l0 0 false]⟩) (fun S hS => ?_) (fun jh0 => ?_)
  ·
   clear H
   obtain ⟨m6, x1_3, x1_4, Ax1_4, cx1_4, x1_5, Ax1_5, cx1_5, x1_6, Ax1_6, cx1_6, x1_8, x1_7_0, Ax1_7_0, cx1_7_0, x1_7_1, x1_7_2, x1_7_3, H, rfl⟩ := hS
   rcases m6 with _ | m6
   · rw [laws_FnJoinUnderGrants.j0] at H; cases H
   rw [laws_FnJoinUnderGrants.j0] at H
   refine gs (gs (rg (sv (EV.mv rfl) rfl (sv (EV.nt rfl) rfl (re ?_)))))
   revert H; refine ifsI ?_ ?_ <;> intro c7 H
   ·
    subst c7
    refine gf rfl rfl (gk (gs (rg (sv (EV.mv rfl) rfl ?_))))
    revert H; refine bdI ?_; rintro ⟨t8_0, t8_1⟩ A8 H
    refine so rfl (op_call (spec_DrawJoinStepBound.ok m6 l0 Al0 cl0 _ _ A8) [⟨4, 0, 0, false⟩] 5 rfl rfl rfl rfl rfl ?_)
    rintro _ _ _ ⟨At8_0, ct8_0, At8_1, ct8_1, rfl, rfl, rfl⟩
    refine sv (EV.mv rfl) rfl (sv (EV.ex rfl rfl) rfl (sv (EV.ex rfl rfl) rfl (sv (EV.as rfl) rfl (sv (EV.as rfl) rfl (re (pr [3, 4, 5, 6, 7, 11, 12] [0] [0, 1, 2, 3, 5, 6] rfl rfl rfl rfl (gs (dr [0] [0, 1, 2, 3, 4, 5] [] 49 rfl rfl rfl rfl (xv 0 [0] [0, 1, 2, 3, 4, 5] rfl (EV.fa 0 rfl) rfl rfl rfl rfl (xv 1 [0] [0, 1, 2, 3, 4, 5] rfl (EV.ld 0 none rfl rfl rfl) rfl rfl rfl rfl (xv 2 [0] [0, 1, 2, 3, 4, 5] rfl (EV.mv rfl) rfl rfl rfl rfl (xv 3 [0] [0, 1, 2, 3, 4, 5] rfl (EV.mv rfl) rfl rfl rfl rfl (xv 4 [0] [0, 1, 2, 3, 4, 5] rfl (EV.mv rfl) rfl rfl rfl rfl (one1 5 rfl rfl ?_))))))))))))))
    revert H; refine bdI ?_; rintro t9 A9 H
    refine op_call (spec_ReferenceJoin.ok m6 x1_3 x1_4 Ax1_4 cx1_4 x1_5 Ax1_5 cx1_5 _ A9) [⟨0, 0, 0, false⟩, ⟨1, 0, 0, false⟩] 8 rfl rfl rfl rfl rfl ?_
    rintro _ _ _ ⟨At9, ct9, rfl, rfl, rfl⟩
    refine xs [0] [0, 1, 2, 3, 4, 5] rfl rfl rfl (one1 6 rfl rfl ?_)
    revert H; refine bdI ?_; rintro t10 A10 H
    refine op_call (spec_EqualPairBags.ok m6 x1_7_0 Ax1_7_0 cx1_7_0 t9 At9 ct9 _ A10) [⟨3, 0, 0, false⟩, ⟨6, 0, 0, false⟩] 10 rfl rfl rfl rfl rfl ?_
    rintro _ _ _ ⟨rfl, rfl, rfl⟩
    refine xs [0] [0, 1, 2, 3, 4, 5] rfl rfl rfl (xv 7 [0] [0, 1, 2, 3, 4, 5] rfl (EV.mv rfl) rfl rfl rfl rfl ?_)
    revert H; refine ifsI ?_ ?_ <;> intro c11 H
    ·
     subst c11
     refine ts 105 rfl rfl (xv 8 [0] [0, 1, 2, 3, 4, 5] rfl (EV.fa 2 rfl) rfl rfl rfl rfl (xv 9 [0] [0, 1, 2, 3, 4, 5] rfl (EV.ld 0 none rfl rfl rfl) rfl rfl rfl rfl (xv 10 [0] [0, 1, 2, 3, 4, 5] rfl (EV.mv rfl) rfl rfl rfl rfl (one1 11 rfl rfl ?_))))
     revert H; refine bdI ?_; rintro t12 A12 H
     refine op_call (laws_most.ok m6 x1_6 Ax1_6 cx1_6 _ A12) [⟨2, 0, 0, false⟩] 10 rfl rfl rfl rfl rfl ?_
     rintro _ _ _ ⟨rfl, rfl, rfl⟩
     refine xs [0] [0, 1, 2, 3, 4, 5] rfl rfl rfl (xv 12 [0] [0, 1, 2, 3, 4, 5] rfl (EV.leq rfl rfl) rfl rfl rfl rfl (xv 13 [0] [0, 1, 2, 3, 4, 5] rfl (EV.pt rfl rfl rfl) rfl rfl rfl rfl (xv 14 [0] [0, 1, 2, 3, 4, 5] rfl (EV.mv rfl) rfl rfl rfl rfl ?_)))
     revert H; refine ifsI ?_ ?_ <;> intro c13 H
     ·
      refine ts 112 rfl (dT c13) (xv 15 [0] [0, 1, 2, 3, 4, 5] rfl (EV.fa 1 rfl) rfl rfl rfl rfl (xv 16 [0] [0, 1, 2, 3, 4, 5] rfl (EV.ld 0 none rfl rfl rfl) rfl rfl rfl rfl (xv 17 [0] [0, 1, 2, 3, 4, 5] rfl (EV.mv rfl) rfl rfl rfl rfl (xv 18 [0] [0, 1, 2, 3, 4, 5] rfl (EV.mv rfl) rfl rfl rfl rfl (one1 19 rfl rfl ?_)))))
      revert H; refine bdI ?_; rintro t14 A14 H
      refine op_call (impl_JoinStepBound.ok x1_4 Ax1_4 cx1_4 x1_5 Ax1_5 cx1_5 _ A14) [⟨0, 0, 0, false⟩, ⟨1, 0, 0, false⟩] 10 rfl rfl rfl rfl rfl ?_
      rintro _ _ _ ⟨rfl, rfl, rfl⟩
      refine xs [0] [0, 1, 2, 3, 4, 5] rfl rfl rfl (xv 20 [0] [0, 1, 2, 3, 4, 5] rfl (EV.leq rfl rfl) rfl rfl rfl rfl (xv 21 [0] [0, 1, 2, 3, 4, 5] rfl (EV.pt rfl rfl rfl) rfl rfl rfl rfl (xv 22 [0] [0, 1, 2, 3, 4, 5] rfl (EV.mv rfl) rfl rfl rfl rfl ?_)))
      revert H; refine ifsI ?_ ?_ <;> intro c15 H
      ·
       refine ts 120 rfl (dT c15) (xv 23 [0] [0, 1, 2, 3, 4, 5] rfl (EV.fa 3 rfl) rfl rfl rfl rfl (xv 24 [0] [0, 1, 2, 3, 4, 5] rfl (EV.ld 0 none rfl rfl rfl) rfl rfl rfl rfl (xv 25 [0] [0, 1, 2, 3, 4, 5] rfl (EV.mv rfl) rfl rfl rfl rfl (xv 26 [0] [0, 1, 2, 3, 4, 5] rfl (EV.mv rfl) rfl rfl rfl rfl (one1 27 rfl rfl ?_)))))
       revert H; refine bdI ?_; rintro t16 A16 H
       refine op_call (impl_JoinWriteBound.ok m6 x1_4 Ax1_4 cx1_4 x1_5 Ax1_5 cx1_5 _ A16) [⟨0, 0, 0, false⟩, ⟨1, 0, 0, false⟩] 10 rfl rfl rfl rfl rfl ?_
       rintro _ _ _ ⟨rfl, rfl, rfl⟩
       refine xs [0] [0, 1, 2, 3, 4, 5] rfl rfl rfl (xv 28 [0] [0, 1, 2, 3, 4, 5] rfl (EV.leq rfl rfl) rfl rfl rfl rfl (xv 29 [0] [0, 1, 2, 3, 4, 5] rfl (EV.pt rfl rfl rfl) rfl rfl rfl rfl (xv 30 [0] [0, 1, 2, 3, 4, 5] rfl (EV.mv rfl) rfl rfl rfl rfl ?_)))
       revert H; refine ifsI ?_ ?_ <;> intro c17 H
       ·
        refine ts 128 rfl (dT c17) (xv 31 [0] [0, 1, 2, 3, 4, 5] rfl (EV.mv rfl) rfl rfl rfl rfl (xv 32 [0] [0, 1, 2, 3, 4, 5] rfl (EV.mv rfl) rfl rfl rfl rfl (xv 34 [0] [0, 1, 2, 3, 4, 5] rfl (EV.mv rfl) rfl rfl rfl rfl (xv 35 [0] [0, 1, 2, 3, 4, 5] rfl (EV.mv rfl) rfl rfl rfl rfl (one1 33 rfl rfl ?_)))))
        revert H; refine bdI ?_; rintro t18 A18 H
        refine op_call (impl_JoinStepBound.ok t8_0 At8_0 ct8_0 t8_1 At8_1 ct8_1 _ A18) [⟨4, 0, 0, false⟩, ⟨5, 0, 0, false⟩] 10 rfl rfl rfl rfl rfl ?_
        rintro _ _ _ ⟨rfl, rfl, rfl⟩
        refine xs [0] [0, 1, 2, 3, 4, 5] rfl rfl rfl (one1 36 rfl rfl ?_)
        revert H; refine bdI ?_; rintro t19 A19 H
        refine op_call (spec_JoinStepBound.ok t8_0 At8_0 ct8_0 t8_1 At8_1 ct8_1 _ A19) [⟨4, 0, 0, false⟩, ⟨5, 0, 0, false⟩] 10 rfl rfl rfl rfl rfl ?_
        rintro _ _ _ ⟨rfl, rfl, rfl⟩
        refine xs [0] [0, 1, 2, 3, 4, 5] rfl rfl rfl (xv 37 [0] [0, 1, 2, 3, 4, 5] rfl (EV.eql rfl rfl) rfl rfl rfl rfl (xv 38 [0] [0, 1, 2, 3, 4, 5] rfl (EV.pt rfl rfl rfl) rfl rfl rfl rfl (xv 39 [0] [0, 1, 2, 3, 4, 5] rfl (EV.mv rfl) rfl rfl rfl rfl ?_)))
        revert H; refine ifsI ?_ ?_ <;> intro c20 H
        ·
         refine ts 137 rfl (dT c20) (xv 40 [0] [0, 1, 2, 3, 4, 5] rfl (EV.mv rfl) rfl rfl rfl rfl (xv 41 [0] [0, 1, 2, 3, 4, 5] rfl (EV.mv rfl) rfl rfl rfl rfl (xv 43 [0] [0, 1, 2, 3, 4, 5] rfl (EV.mv rfl) rfl rfl rfl rfl (xv 44 [0] [0, 1, 2, 3, 4, 5] rfl (EV.mv rfl) rfl rfl rfl rfl (one1 42 rfl rfl ?_)))))
         revert H; refine bdI ?_; rintro t21 A21 H
         refine op_call (impl_JoinWriteBound.ok m6 t8_0 At8_0 ct8_0 t8_1 At8_1 ct8_1 _ A21) [⟨4, 0, 0, false⟩, ⟨5, 0, 0, false⟩] 10 rfl rfl rfl rfl rfl ?_
         rintro _ _ _ ⟨rfl, rfl, rfl⟩
         refine xs [0] [0, 1, 2, 3, 4, 5] rfl rfl rfl (one1 45 rfl rfl ?_)
         revert H; refine bdI ?_; rintro t22 A22 H
         refine op_call (spec_JoinWriteBound.ok m6 t8_0 At8_0 ct8_0 t8_1 At8_1 ct8_1 _ A22) [⟨4, 0, 0, false⟩, ⟨5, 0, 0, false⟩] 10 rfl rfl rfl rfl rfl ?_
         rintro _ _ _ ⟨rfl, rfl, rfl⟩
         refine xs [0] [0, 1, 2, 3, 4, 5] rfl rfl rfl (xv 46 [0] [0, 1, 2, 3, 4, 5] rfl (EV.eql rfl rfl) rfl rfl rfl rfl (xv 47 [0] [0, 1, 2, 3, 4, 5] rfl (EV.pt rfl rfl rfl) rfl rfl rfl rfl (xv 48 [0] [0, 1, 2, 3, 4, 5] rfl (EV.as rfl) rfl rfl rfl rfl (xd (pr [2] [] [] rfl rfl rfl rfl ?_)))))
         cases H
         exact rt Try.func3 rfl (.tmp rfl .nil) rfl [] [] rfl rfl rfl rfl rfl ⟨rfl, rfl, rfl⟩
        ·
         refine ts 137 rfl (dF c20) (xk 40 [0] [0, 1, 2, 3, 4, 5] rfl rfl rfl rfl rfl (xk 41 [0] [0, 1, 2, 3, 4, 5] rfl rfl rfl rfl rfl (xk 43 [0] [0, 1, 2, 3, 4, 5] rfl rfl rfl rfl rfl (xk 44 [0] [0, 1, 2, 3, 4, 5] rfl rfl rfl rfl rfl (xk 42 [0] [0, 1, 2, 3, 4, 5] rfl rfl rfl rfl rfl (xk 45 [0] [0, 1, 2, 3, 4, 5] rfl rfl rfl rfl rfl (xk 46 [0] [0, 1, 2, 3, 4, 5] rfl rfl rfl rfl rfl (xv 47 [0] [0, 1, 2, 3, 4, 5] rfl (EV.pf rfl rfl rfl) rfl rfl rfl rfl (xv 48 [0] [0, 1, 2, 3, 4, 5] rfl (EV.as rfl) rfl rfl rfl rfl (xd (pr [2] [] [] rfl rfl rfl rfl ?_)))))))))))
         cases H
         exact rt Try.func3 rfl (.tmp rfl .nil) rfl [] [] rfl rfl rfl rfl rfl ⟨rfl, rfl, rfl⟩
       ·
        refine ts 128 rfl (dF c17) (xk 31 [0] [0, 1, 2, 3, 4, 5] rfl rfl rfl rfl rfl (xk 32 [0] [0, 1, 2, 3, 4, 5] rfl rfl rfl rfl rfl (xk 34 [0] [0, 1, 2, 3, 4, 5] rfl rfl rfl rfl rfl (xk 35 [0] [0, 1, 2, 3, 4, 5] rfl rfl rfl rfl rfl (xk 33 [0] [0, 1, 2, 3, 4, 5] rfl rfl rfl rfl rfl (xk 36 [0] [0, 1, 2, 3, 4, 5] rfl rfl rfl rfl rfl (xk 37 [0] [0, 1, 2, 3, 4, 5] rfl rfl rfl rfl rfl (xv 38 [0] [0, 1, 2, 3, 4, 5] rfl (EV.pf rfl rfl rfl) rfl rfl rfl rfl (xv 39 [0] [0, 1, 2, 3, 4, 5] rfl (EV.mv rfl) rfl rfl rfl rfl (xk 40 [0] [0, 1, 2, 3, 4, 5] rfl rfl rfl rfl rfl (xk 41 [0] [0, 1, 2, 3, 4, 5] rfl rfl rfl rfl rfl (xk 43 [0] [0, 1, 2, 3, 4, 5] rfl rfl rfl rfl rfl (xk 44 [0] [0, 1, 2, 3, 4, 5] rfl rfl rfl rfl rfl (xk 42 [0] [0, 1, 2, 3, 4, 5] rfl rfl rfl rfl rfl (xk 45 [0] [0, 1, 2, 3, 4, 5] rfl rfl rfl rfl rfl (xk 46 [0] [0, 1, 2, 3, 4, 5] rfl rfl rfl rfl rfl (xv 47 [0] [0, 1, 2, 3, 4, 5] rfl (EV.pf rfl rfl rfl) rfl rfl rfl rfl (xv 48 [0] [0, 1, 2, 3, 4, 5] rfl (EV.as rfl) rfl rfl rfl rfl (xd (pr [2] [] [] rfl rfl rfl rfl ?_))))))))))))))))))))
        cases H
        exact rt Try.func3 rfl (.tmp rfl .nil) rfl [] [] rfl rfl rfl rfl rfl ⟨rfl, rfl, rfl⟩
      ·
       refine ts 120 rfl (dF c15) (xk 23 [0] [0, 1, 2, 3, 4, 5] rfl rfl rfl rfl rfl (xk 24 [0] [0, 1, 2, 3, 4, 5] rfl rfl rfl rfl rfl (xk 25 [0] [0, 1, 2, 3, 4, 5] rfl rfl rfl rfl rfl (xk 26 [0] [0, 1, 2, 3, 4, 5] rfl rfl rfl rfl rfl (xk 27 [0] [0, 1, 2, 3, 4, 5] rfl rfl rfl rfl rfl (xk 28 [0] [0, 1, 2, 3, 4, 5] rfl rfl rfl rfl rfl (xv 29 [0] [0, 1, 2, 3, 4, 5] rfl (EV.pf rfl rfl rfl) rfl rfl rfl rfl (xv 30 [0] [0, 1, 2, 3, 4, 5] rfl (EV.mv rfl) rfl rfl rfl rfl (xk 31 [0] [0, 1, 2, 3, 4, 5] rfl rfl rfl rfl rfl (xk 32 [0] [0, 1, 2, 3, 4, 5] rfl rfl rfl rfl rfl (xk 34 [0] [0, 1, 2, 3, 4, 5] rfl rfl rfl rfl rfl (xk 35 [0] [0, 1, 2, 3, 4, 5] rfl rfl rfl rfl rfl (xk 33 [0] [0, 1, 2, 3, 4, 5] rfl rfl rfl rfl rfl (xk 36 [0] [0, 1, 2, 3, 4, 5] rfl rfl rfl rfl rfl (xk 37 [0] [0, 1, 2, 3, 4, 5] rfl rfl rfl rfl rfl (xv 38 [0] [0, 1, 2, 3, 4, 5] rfl (EV.pf rfl rfl rfl) rfl rfl rfl rfl (xv 39 [0] [0, 1, 2, 3, 4, 5] rfl (EV.mv rfl) rfl rfl rfl rfl (xk 40 [0] [0, 1, 2, 3, 4, 5] rfl rfl rfl rfl rfl (xk 41 [0] [0, 1, 2, 3, 4, 5] rfl rfl rfl rfl rfl (xk 43 [0] [0, 1, 2, 3, 4, 5] rfl rfl rfl rfl rfl (xk 44 [0] [0, 1, 2, 3, 4, 5] rfl rfl rfl rfl rfl (xk 42 [0] [0, 1, 2, 3, 4, 5] rfl rfl rfl rfl rfl (xk 45 [0] [0, 1, 2, 3, 4, 5] rfl rfl rfl rfl rfl (xk 46 [0] [0, 1, 2, 3, 4, 5] rfl rfl rfl rfl rfl (xv 47 [0] [0, 1, 2, 3, 4, 5] rfl (EV.pf rfl rfl rfl) rfl rfl rfl rfl (xv 48 [0] [0, 1, 2, 3, 4, 5] rfl (EV.as rfl) rfl rfl rfl rfl (xd (pr [2] [] [] rfl rfl rfl rfl ?_))))))))))))))))))))))))))))
       cases H
       exact rt Try.func3 rfl (.tmp rfl .nil) rfl [] [] rfl rfl rfl rfl rfl ⟨rfl, rfl, rfl⟩
     ·
      refine ts 112 rfl (dF c13) (xk 15 [0] [0, 1, 2, 3, 4, 5] rfl rfl rfl rfl rfl (xk 16 [0] [0, 1, 2, 3, 4, 5] rfl rfl rfl rfl rfl (xk 17 [0] [0, 1, 2, 3, 4, 5] rfl rfl rfl rfl rfl (xk 18 [0] [0, 1, 2, 3, 4, 5] rfl rfl rfl rfl rfl (xk 19 [0] [0, 1, 2, 3, 4, 5] rfl rfl rfl rfl rfl (xk 20 [0] [0, 1, 2, 3, 4, 5] rfl rfl rfl rfl rfl (xv 21 [0] [0, 1, 2, 3, 4, 5] rfl (EV.pf rfl rfl rfl) rfl rfl rfl rfl (xv 22 [0] [0, 1, 2, 3, 4, 5] rfl (EV.mv rfl) rfl rfl rfl rfl (xk 23 [0] [0, 1, 2, 3, 4, 5] rfl rfl rfl rfl rfl (xk 24 [0] [0, 1, 2, 3, 4, 5] rfl rfl rfl rfl rfl (xk 25 [0] [0, 1, 2, 3, 4, 5] rfl rfl rfl rfl rfl (xk 26 [0] [0, 1, 2, 3, 4, 5] rfl rfl rfl rfl rfl (xk 27 [0] [0, 1, 2, 3, 4, 5] rfl rfl rfl rfl rfl (xk 28 [0] [0, 1, 2, 3, 4, 5] rfl rfl rfl rfl rfl (xv 29 [0] [0, 1, 2, 3, 4, 5] rfl (EV.pf rfl rfl rfl) rfl rfl rfl rfl (xv 30 [0] [0, 1, 2, 3, 4, 5] rfl (EV.mv rfl) rfl rfl rfl rfl (xk 31 [0] [0, 1, 2, 3, 4, 5] rfl rfl rfl rfl rfl (xk 32 [0] [0, 1, 2, 3, 4, 5] rfl rfl rfl rfl rfl (xk 34 [0] [0, 1, 2, 3, 4, 5] rfl rfl rfl rfl rfl (xk 35 [0] [0, 1, 2, 3, 4, 5] rfl rfl rfl rfl rfl (xk 33 [0] [0, 1, 2, 3, 4, 5] rfl rfl rfl rfl rfl (xk 36 [0] [0, 1, 2, 3, 4, 5] rfl rfl rfl rfl rfl (xk 37 [0] [0, 1, 2, 3, 4, 5] rfl rfl rfl rfl rfl (xv 38 [0] [0, 1, 2, 3, 4, 5] rfl (EV.pf rfl rfl rfl) rfl rfl rfl rfl (xv 39 [0] [0, 1, 2, 3, 4, 5] rfl (EV.mv rfl) rfl rfl rfl rfl (xk 40 [0] [0, 1, 2, 3, 4, 5] rfl rfl rfl rfl rfl (xk 41 [0] [0, 1, 2, 3, 4, 5] rfl rfl rfl rfl rfl (xk 43 [0] [0, 1, 2, 3, 4, 5] rfl rfl rfl rfl rfl (xk 44 [0] [0, 1, 2, 3, 4, 5] rfl rfl rfl rfl rfl ?_)))))))))))))))))))))))))))))
      refine xk 42 [0] [0, 1, 2, 3, 4, 5] rfl rfl rfl rfl rfl (xk 45 [0] [0, 1, 2, 3, 4, 5] rfl rfl rfl rfl rfl (xk 46 [0] [0, 1, 2, 3, 4, 5] rfl rfl rfl rfl rfl (xv 47 [0] [0, 1, 2, 3, 4, 5] rfl (EV.pf rfl rfl rfl) rfl rfl rfl rfl (xv 48 [0] [0, 1, 2, 3, 4, 5] rfl (EV.as rfl) rfl rfl rfl rfl (xd (pr [2] [] [] rfl rfl rfl rfl ?_))))))
      cases H
      exact rt Try.func3 rfl (.tmp rfl .nil) rfl [] [] rfl rfl rfl rfl rfl ⟨rfl, rfl, rfl⟩
    ·
     obtain rfl := bF c11
     refine ts 105 rfl rfl (xk 8 [0] [0, 1, 2, 3, 4, 5] rfl rfl rfl rfl rfl (xk 9 [0] [0, 1, 2, 3, 4, 5] rfl rfl rfl rfl rfl (xk 10 [0] [0, 1, 2, 3, 4, 5] rfl rfl rfl rfl rfl (xk 11 [0] [0, 1, 2, 3, 4, 5] rfl rfl rfl rfl rfl (xk 12 [0] [0, 1, 2, 3, 4, 5] rfl rfl rfl rfl rfl (xv 13 [0] [0, 1, 2, 3, 4, 5] rfl (EV.pf rfl rfl rfl) rfl rfl rfl rfl (xv 14 [0] [0, 1, 2, 3, 4, 5] rfl (EV.mv rfl) rfl rfl rfl rfl (xk 15 [0] [0, 1, 2, 3, 4, 5] rfl rfl rfl rfl rfl (xk 16 [0] [0, 1, 2, 3, 4, 5] rfl rfl rfl rfl rfl (xk 17 [0] [0, 1, 2, 3, 4, 5] rfl rfl rfl rfl rfl (xk 18 [0] [0, 1, 2, 3, 4, 5] rfl rfl rfl rfl rfl (xk 19 [0] [0, 1, 2, 3, 4, 5] rfl rfl rfl rfl rfl (xk 20 [0] [0, 1, 2, 3, 4, 5] rfl rfl rfl rfl rfl (xv 21 [0] [0, 1, 2, 3, 4, 5] rfl (EV.pf rfl rfl rfl) rfl rfl rfl rfl (xv 22 [0] [0, 1, 2, 3, 4, 5] rfl (EV.mv rfl) rfl rfl rfl rfl (xk 23 [0] [0, 1, 2, 3, 4, 5] rfl rfl rfl rfl rfl (xk 24 [0] [0, 1, 2, 3, 4, 5] rfl rfl rfl rfl rfl (xk 25 [0] [0, 1, 2, 3, 4, 5] rfl rfl rfl rfl rfl (xk 26 [0] [0, 1, 2, 3, 4, 5] rfl rfl rfl rfl rfl (xk 27 [0] [0, 1, 2, 3, 4, 5] rfl rfl rfl rfl rfl (xk 28 [0] [0, 1, 2, 3, 4, 5] rfl rfl rfl rfl rfl (xv 29 [0] [0, 1, 2, 3, 4, 5] rfl (EV.pf rfl rfl rfl) rfl rfl rfl rfl (xv 30 [0] [0, 1, 2, 3, 4, 5] rfl (EV.mv rfl) rfl rfl rfl rfl (xk 31 [0] [0, 1, 2, 3, 4, 5] rfl rfl rfl rfl rfl (xk 32 [0] [0, 1, 2, 3, 4, 5] rfl rfl rfl rfl rfl (xk 34 [0] [0, 1, 2, 3, 4, 5] rfl rfl rfl rfl rfl (xk 35 [0] [0, 1, 2, 3, 4, 5] rfl rfl rfl rfl rfl (xk 33 [0] [0, 1, 2, 3, 4, 5] rfl rfl rfl rfl rfl (xk 36 [0] [0, 1, 2, 3, 4, 5] rfl rfl rfl rfl rfl ?_)))))))))))))))))))))))))))))
     refine xk 37 [0] [0, 1, 2, 3, 4, 5] rfl rfl rfl rfl rfl (xv 38 [0] [0, 1, 2, 3, 4, 5] rfl (EV.pf rfl rfl rfl) rfl rfl rfl rfl (xv 39 [0] [0, 1, 2, 3, 4, 5] rfl (EV.mv rfl) rfl rfl rfl rfl (xk 40 [0] [0, 1, 2, 3, 4, 5] rfl rfl rfl rfl rfl (xk 41 [0] [0, 1, 2, 3, 4, 5] rfl rfl rfl rfl rfl (xk 43 [0] [0, 1, 2, 3, 4, 5] rfl rfl rfl rfl rfl (xk 44 [0] [0, 1, 2, 3, 4, 5] rfl rfl rfl rfl rfl (xk 42 [0] [0, 1, 2, 3, 4, 5] rfl rfl rfl rfl rfl (xk 45 [0] [0, 1, 2, 3, 4, 5] rfl rfl rfl rfl rfl (xk 46 [0] [0, 1, 2, 3, 4, 5] rfl rfl rfl rfl rfl (xv 47 [0] [0, 1, 2, 3, 4, 5] rfl (EV.pf rfl rfl rfl) rfl rfl rfl rfl (xv 48 [0] [0, 1, 2, 3, 4, 5] rfl (EV.as rfl) rfl rfl rfl rfl (xd (pr [2] [] [] rfl rfl rfl rfl ?_)))))))))))))
     cases H
     exact rt Try.func3 rfl (.tmp rfl .nil) rfl [] [] rfl rfl rfl rfl rfl ⟨rfl, rfl, rfl⟩
   ·
    obtain rfl := bF c7
    refine gt rfl rfl (gs (rg (sv (EV.fa 1 rfl) rfl (sv (EV.ld 0 none rfl rfl rfl) rfl (sv (EV.eql rfl rfl) rfl (sv (EV.as rfl) rfl (re (pr [2] [] [] rfl rfl rfl rfl ?_))))))))
    cases H
    exact rt Try.func3 rfl (.tmp rfl .nil) rfl [] [] rfl rfl rfl rfl rfl ⟨rfl, rfl, rfl⟩
  ·
   refine gs (rg (sv (EV.mv rfl) rfl (sv (EV.mv rfl) rfl (sv (EV.neb rfl rfl) rfl (sv (EV.mv rfl) rfl ?_)))))
   revert H; refine ifsI ?_ ?_ <;> intro c23 H
   ·
    refine ts 41 rfl (bN c23) (sv (EV.fa 0 rfl) rfl (sv (EV.ld 0 none rfl rfl rfl) rfl (sv (EV.fa 0 rfl) rfl (sv (EV.ld 1 none rfl rfl rfl) rfl ?_))))
    revert H; refine bdI ?_; rintro t24 A24 H
    refine so rfl (op_call (spec_EqualPairBags.ok k t4_0 At4_0 ct4_0 t5_0 At5_0 ct5_0 _ A24) [⟨4, 0, 0, false⟩, ⟨5, 0, 0, false⟩] 9 rfl rfl rfl rfl rfl ?_)
    rintro _ _ _ ⟨rfl, rfl, rfl⟩
    refine sv (EV.nt rfl) rfl (sv (EV.pf rfl rfl rfl) rfl (sv (EV.mv rfl) rfl ?_))
    revert H; refine ifsI ?_ ?_ <;> intro c25 H
    ·
     subst c25
     refine ts 49 rfl rfl (sv (EV.fa 1 rfl) rfl (sv (EV.ld 0 none rfl rfl rfl) rfl (sv (EV.fa 1 rfl) rfl (sv (EV.ld 1 none rfl rfl rfl) rfl (sv (EV.neq rfl rfl) rfl (sv (EV.pf rfl rfl rfl) rfl (sv (EV.mv rfl) rfl ?_)))))))
     revert H; refine ifsI ?_ ?_ <;> intro c26 H
     ·
      refine ts 56 rfl (nF c26) (sv (EV.fa 2 rfl) rfl (sv (EV.ld 0 none rfl rfl rfl) rfl (sv (EV.fa 2 rfl) rfl (sv (EV.ld 1 none rfl rfl rfl) rfl (sv (EV.neq rfl rfl) rfl (sv (EV.pf rfl rfl rfl) rfl (sv (EV.mv rfl) rfl ?_)))))))
      revert H; refine ifsI ?_ ?_ <;> intro c27 H
      ·
       refine ts 63 rfl (nF c27) (sv (EV.fa 3 rfl) rfl (sv (EV.ld 0 none rfl rfl rfl) rfl (sv (EV.fa 3 rfl) rfl (sv (EV.ld 1 none rfl rfl rfl) rfl (sv (EV.neq rfl rfl) rfl (sv (EV.pf rfl rfl rfl) rfl (sv (EV.mv rfl) rfl ?_)))))))
       revert H; refine ifsI ?_ ?_ <;> intro c28 H
       ·
        refine ts 70 rfl (nF c28) (sv (EV.mv rfl) rfl (sv (EV.mv rfl) rfl ?_))
        revert H; refine bdI ?_; rintro t29 A29 H
        refine so rfl (op_call (spec_IsValidJoinKind.ok t3_0 _ A29) [] 9 rfl rfl rfl rfl rfl ?_)
        rintro _ _ _ ⟨rfl, rfl, rfl⟩
        refine sv (EV.mv rfl) rfl ?_
        revert H; refine ifsI ?_ ?_ <;> intro c30 H
        ·
         subst c30
         refine ts 74 rfl rfl (sv (EV.mv rfl) rfl ?_)
         revert H; refine bdI ?_; rintro t31 A31 H
         refine so rfl (op_call (spec_AreValidRows.ok k t3_1 At3_1 ct3_1 _ A31) [⟨1, 0, 0, false⟩] 9 rfl rfl rfl rfl rfl ?_)
         rintro _ _ _ ⟨rfl, rfl, rfl⟩
         refine sv (EV.pt rfl rfl rfl) rfl (sv (EV.mv rfl) rfl ?_)
         revert H; refine ifsI ?_ ?_ <;> intro c32 H
         ·
          subst c32
          refine ts 78 rfl rfl (sv (EV.mv rfl) rfl ?_)
          revert H; refine bdI ?_; rintro t33 A33 H
          refine so rfl (op_call (spec_AreValidRows.ok k t3_2 At3_2 ct3_2 _ A33) [⟨2, 0, 0, false⟩] 9 rfl rfl rfl rfl rfl ?_)
          rintro _ _ _ ⟨rfl, rfl, rfl⟩
          refine sv (EV.pt rfl rfl rfl) rfl (sv (EV.mv rfl) rfl ?_)
          revert H; refine ifsI ?_ ?_ <;> intro c34 H
          ·
           subst c34
           refine ts 82 rfl rfl (sv (EV.mv rfl) rfl ?_)
           revert H; refine bdI ?_; rintro t35 A35 H
           refine so rfl (op_call (laws_grantsOk.ok k t3_3 At3_3 ct3_3 _ A35) [⟨3, 0, 0, false⟩] 9 rfl rfl rfl rfl rfl ?_)
           rintro _ _ _ ⟨rfl, rfl, rfl⟩
           refine sv (EV.pt rfl rfl rfl) rfl (sv (EV.neb rfl rfl) rfl (sv (EV.pf rfl rfl rfl) rfl (re (pr [0, 3, 4, 5, 6, 7, 8, 87] [0] [0, 1, 2, 3, 4] rfl rfl rfl rfl ?_))))
           revert H; refine ifsI ?_ ?_ <;> intro c36 H
           ·
            exact gf rfl (bN c36) (gk (wk [0, 3, 4, 5, 6, 7, 8] [0] [⟨1, 2, 1, true⟩, ⟨2, 2, 2, true⟩, ⟨3, 2, 3, true⟩, ⟨4, 2, 4, true⟩, ⟨0, 0, 0, false⟩] (jh0 _ ⟨_, t3_0, t3_1, At3_1, ct3_1, t3_2, At3_2, ct3_2, t3_3, At3_3, ct3_3, t4_4, t4_0, At4_0, ct4_0, t4_1, t4_2, t4_3, H, rfl⟩)))
           ·
            refine gt rfl (bM c36) (gs (rg (sv (EV.as rfl) rfl (re (pr [2] [] [] rfl rfl rfl rfl ?_)))))
            cases H
            exact rt Try.func3 rfl (.tmp rfl .nil) rfl [] [] rfl rfl rfl rfl rfl ⟨rfl, rfl, rfl⟩
          ·
           obtain rfl := bF c34
           refine ts 82 rfl rfl (sk rfl (sk rfl (sv (EV.pf rfl rfl rfl) rfl (sv (EV.neb rfl rfl) rfl (sv (EV.pf rfl rfl rfl) rfl (re (pr [0, 3, 4, 5, 6, 7, 8, 87] [0] [0, 1, 2, 3, 4] rfl rfl rfl rfl ?_)))))))
           revert H; refine ifsI ?_ ?_ <;> intro c37 H
           ·
            exact gf rfl (bN c37) (gk (wk [0, 3, 4, 5, 6, 7, 8] [0] [⟨1, 2, 1, true⟩, ⟨2, 2, 2, true⟩, ⟨3, 2, 3, true⟩, ⟨4, 2, 4, true⟩, ⟨0, 0, 0, false⟩] (jh0 _ ⟨_, t3_0, t3_1, At3_1, ct3_1, t3_2, At3_2, ct3_2, t3_3, At3_3, ct3_3, t4_4, t4_0, At4_0, ct4_0, t4_1, t4_2, t4_3, H, rfl⟩)))
           ·
            refine gt rfl (bM c37) (gs (rg (sv (EV.as rfl) rfl (re (pr [2] [] [] rfl rfl rfl rfl ?_)))))
            cases H
            exact rt Try.func3 rfl (.tmp rfl .nil) rfl [] [] rfl rfl rfl rfl rfl ⟨rfl, rfl, rfl⟩
         ·
          obtain rfl := bF c32
          refine ts 78 rfl rfl (sk rfl (sk rfl (sv (EV.pf rfl rfl rfl) rfl (sv (EV.mv rfl) rfl (sk rfl (sk rfl (sv (EV.pf rfl rfl rfl) rfl (sv (EV.neb rfl rfl) rfl (sv (EV.pf rfl rfl rfl) rfl (re (pr [0, 3, 4, 5, 6, 7, 8, 87] [0] [0, 1, 2, 3, 4] rfl rfl rfl rfl ?_)))))))))))
          revert H; refine ifsI ?_ ?_ <;> intro c38 H
          ·
           exact gf rfl (bN c38) (gk (wk [0, 3, 4, 5, 6, 7, 8] [0] [⟨1, 2, 1, true⟩, ⟨2, 2, 2, true⟩, ⟨3, 2, 3, true⟩, ⟨4, 2, 4, true⟩, ⟨0, 0, 0, false⟩] (jh0 _ ⟨_, t3_0, t3_1, At3_1, ct3_1, t3_2, At3_2, ct3_2, t3_3, At3_3, ct3_3, t4_4, t4_0, At4_0, ct4_0, t4_1, t4_2, t4_3, H, rfl⟩)))
          ·
           refine gt rfl (bM c38) (gs (rg (sv (EV.as rfl) rfl (re (pr [2] [] [] rfl rfl rfl rfl ?_)))))
           cases H
           exact rt Try.func3 rfl (.tmp rfl .nil) rfl [] [] rfl rfl rfl rfl rfl ⟨rfl, rfl, rfl⟩
        ·
         obtain rfl := bF c30
         refine ts 74 rfl rfl (sk rfl (sk rfl (sv (EV.pf rfl rfl rfl) rfl (sv (EV.mv rfl) rfl (sk rfl (sk rfl (sv (EV.pf rfl rfl rfl) rfl (sv (EV.mv rfl) rfl (sk rfl (sk rfl (sv (EV.pf rfl rfl rfl) rfl (sv (EV.neb rfl rfl) rfl (sv (EV.pf rfl rfl rfl) rfl (re (pr [0, 3, 4, 5, 6, 7, 8, 87] [0] [0, 1, 2, 3, 4] rfl rfl rfl rfl ?_)))))))))))))))
         revert H; refine ifsI ?_ ?_ <;> intro c39 H
         ·
          exact gf rfl (bN c39) (gk (wk [0, 3, 4, 5, 6, 7, 8] [0] [⟨1, 2, 1, true⟩, ⟨2, 2, 2, true⟩, ⟨3, 2, 3, true⟩, ⟨4, 2, 4, true⟩, ⟨0, 0, 0, false⟩] (jh0 _ ⟨_, t3_0, t3_1, At3_1, ct3_1, t3_2, At3_2, ct3_2, t3_3, At3_3, ct3_3, t4_4, t4_0, At4_0, ct4_0, t4_1, t4_2, t4_3, H, rfl⟩)))
         ·
          refine gt rfl (bM c39) (gs (rg (sv (EV.as rfl) rfl (re (pr [2] [] [] rfl rfl rfl rfl ?_)))))
          cases H
          exact rt Try.func3 rfl (.tmp rfl .nil) rfl [] [] rfl rfl rfl rfl rfl ⟨rfl, rfl, rfl⟩
       ·
        refine ts 70 rfl (nT c28) (sk rfl (sk rfl (sk rfl (sk rfl (sk rfl (sk rfl (sk rfl (sk rfl (sk rfl (sk rfl (sk rfl (sk rfl (sk rfl (sk rfl (sk rfl (sk rfl (sv (EV.pt rfl rfl rfl) rfl (re (pr [0, 3, 4, 5, 6, 7, 8, 87] [0] [0, 1, 2, 3, 4] rfl rfl rfl rfl (gt rfl rfl (gs (rg (sv (EV.as rfl) rfl (re (pr [2] [] [] rfl rfl rfl rfl ?_)))))))))))))))))))))))))
        cases H
        exact rt Try.func3 rfl (.tmp rfl .nil) rfl [] [] rfl rfl rfl rfl rfl ⟨rfl, rfl, rfl⟩
      ·
       refine ts 63 rfl (nT c27) (sk rfl (sk rfl (sk rfl (sk rfl (sk rfl (sv (EV.pt rfl rfl rfl) rfl (sv (EV.mv rfl) rfl (sk rfl (sk rfl (sk rfl (sk rfl (sk rfl (sk rfl (sk rfl (sk rfl (sk rfl (sk rfl (sk rfl (sk rfl (sk rfl (sk rfl (sk rfl (sk rfl (sv (EV.pt rfl rfl rfl) rfl (re (pr [0, 3, 4, 5, 6, 7, 8, 87] [0] [0, 1, 2, 3, 4] rfl rfl rfl rfl (gt rfl rfl (gs (rg ?_)))))))))))))))))))))))))))))
       refine sv (EV.as rfl) rfl (re (pr [2] [] [] rfl rfl rfl rfl ?_))
       cases H
       exact rt Try.func3 rfl (.tmp rfl .nil) rfl [] [] rfl rfl rfl rfl rfl ⟨rfl, rfl, rfl⟩
     ·
      refine ts 56 rfl (nT c26) (sk rfl (sk rfl (sk rfl (sk rfl (sk rfl (sv (EV.pt rfl rfl rfl) rfl (sv (EV.mv rfl) rfl (sk rfl (sk rfl (sk rfl (sk rfl (sk rfl (sv (EV.pt rfl rfl rfl) rfl (sv (EV.mv rfl) rfl (sk rfl (sk rfl (sk rfl (sk rfl (sk rfl (sk rfl (sk rfl (sk rfl (sk rfl (sk rfl (sk rfl (sk rfl (sk rfl (sk rfl (sk rfl ?_)))))))))))))))))))))))))))))
      refine sk rfl (sv (EV.pt rfl rfl rfl) rfl (re (pr [0, 3, 4, 5, 6, 7, 8, 87] [0] [0, 1, 2, 3, 4] rfl rfl rfl rfl (gt rfl rfl (gs (rg (sv (EV.as rfl) rfl (re (pr [2] [] [] rfl rfl rfl rfl ?_)))))))))
      cases H
      exact rt Try.func3 rfl (.tmp rfl .nil) rfl [] [] rfl rfl rfl rfl rfl ⟨rfl, rfl, rfl⟩
    ·
     obtain rfl := bF c25
     refine ts 49 rfl rfl (sk rfl (sk rfl (sk rfl (sk rfl (sk rfl (sv (EV.pt rfl rfl rfl) rfl (sv (EV.mv rfl) rfl (sk rfl (sk rfl (sk rfl (sk rfl (sk rfl (sv (EV.pt rfl rfl rfl) rfl (sv (EV.mv rfl) rfl (sk rfl (sk rfl (sk rfl (sk rfl (sk rfl (sv (EV.pt rfl rfl rfl) rfl (sv (EV.mv rfl) rfl (sk rfl (sk rfl (sk rfl (sk rfl (sk rfl (sk rfl (sk rfl (sk rfl ?_)))))))))))))))))))))))))))))
     refine sk rfl (sk rfl (sk rfl (sk rfl (sk rfl (sk rfl (sk rfl (sk rfl (sv (EV.pt rfl rfl rfl) rfl (re (pr [0, 3, 4, 5, 6, 7, 8, 87] [0] [0, 1, 2, 3, 4] rfl rfl rfl rfl (gt rfl rfl (gs (rg (sv (EV.as rfl) rfl (re (pr [2] [] [] rfl rfl rfl rfl ?_))))))))))))))))
     cases H
     exact rt Try.func3 rfl (.tmp rfl .nil) rfl [] [] rfl rfl rfl rfl rfl ⟨rfl, rfl, rfl⟩
   ·
    refine ts 41 rfl (bM c23) (sk rfl (sk rfl (sk rfl (sk rfl (sk rfl (sk rfl (sv (EV.pt rfl rfl rfl) rfl (sv (EV.mv rfl) rfl (sk rfl (sk rfl (sk rfl (sk rfl (sk rfl (sv (EV.pt rfl rfl rfl) rfl (sv (EV.mv rfl) rfl (sk rfl (sk rfl (sk rfl (sk rfl (sk rfl (sv (EV.pt rfl rfl rfl) rfl (sv (EV.mv rfl) rfl (sk rfl (sk rfl (sk rfl (sk rfl (sk rfl (sv (EV.pt rfl rfl rfl) rfl (sv (EV.mv rfl) rfl ?_)))))))))))))))))))))))))))))
    refine sk rfl (sk rfl (sk rfl (sk rfl (sk rfl (sk rfl (sk rfl (sk rfl (sk rfl (sk rfl (sk rfl (sk rfl (sk rfl (sk rfl (sk rfl (sk rfl (sv (EV.pt rfl rfl rfl) rfl (re (pr [0, 3, 4, 5, 6, 7, 8, 87] [0] [0, 1, 2, 3, 4] rfl rfl rfl rfl (gt rfl rfl (gs (rg (sv (EV.as rfl) rfl (re (pr [2] [] [] rfl rfl rfl rfl ?_))))))))))))))))))))))))
    cases H
    exact rt Try.func3 rfl (.tmp rfl .nil) rfl [] [] rfl rfl rfl rfl rfl ⟨rfl, rfl, rfl⟩
end Go.Proofs.Ytajjeemkdjfilaa.K
