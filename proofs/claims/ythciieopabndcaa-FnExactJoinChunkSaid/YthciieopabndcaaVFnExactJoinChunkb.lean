/- Walks: what the functions compute. Printed by gen.py; no condition. -/
import Derived.Test.YthciieopabndcaaVFnExactJoinChunka
namespace Go.Proofs.Ythciieopabndcaa.K
open Go Go.RowKit
set_option linter.unusedVariables false
set_option linter.unusedSimpArgs false
mutual
def impl_JoinChunk.j0 : Nat → (List S75) → Int → (List S62) → Int → Int → Int → (List S62) → (List S62) → (List Bool) → Int → Int → (List S62) → (List S62) → (List Bool) → Int → (List S62) → Option ((List S75) × Int × (List S62) × (List S62) × (List Bool) × Int)
 | 0, _, _, _, _, _, _, _, _, _, _, _, _, _, _, _, _ => none
 | k + 1, x40_7, x40_8, x40_20, x40_21, x40_22, x40_5_0, x40_5_1, x40_5_2, x40_5_3, x40_5_4, x40_6_0, x40_6_1, x40_6_2, x40_6_3, x40_6_4, l1 => if 0 ≤ x40_8 then (if x40_8 < (x40_6_3.length : Int) then (impl_JoinChunk.l0 k x40_7 x40_20 x40_21 (wrap64 (x40_22 + 1)) x40_5_0 x40_5_1 x40_5_2 x40_5_3 x40_5_4 x40_6_0 x40_6_1 x40_6_2 (x40_6_3.set x40_8.toNat true) x40_6_4 l1) else none) else none
def impl_JoinChunk.l1 : Nat → (List S75) → Int → (List S62) → Int → Int → Int → Int → Int → (List S62) → (List S62) → (List Bool) → Int → Int → (List S62) → (List S62) → (List Bool) → Int → Int → Int → Int → (List S62) → Option ((List S75) × Int × (List S62) × (List S62) × (List Bool) × Int)
 | 0, _, _, _, _, _, _, _, _, _, _, _, _, _, _, _, _, _, _, _, _, _ => none
 | k + 1, x42_7, x42_8, x42_20, x42_21, x42_22, x42_50, x42_51, x42_5_0, x42_5_1, x42_5_2, x42_5_3, x42_5_4, x42_6_0, x42_6_1, x42_6_2, x42_6_3, x42_6_4, x42_9_0, x42_9_1, x42_9_2, l1 => if x42_51 < x42_50 then (if 0 ≤ x42_51 then (if x42_51 < (l1.length : Int) then (if ((rd_T62 l1 x42_51).f0) = x42_9_0 then (if x42_7.length < 2513169434916 then (impl_JoinChunk.l1 k (x42_7 ++ ([(⟨(⟨x42_9_0, x42_9_1, x42_9_2⟩ : S62), (⟨(rd_T62 l1 x42_51).f0, (rd_T62 l1 x42_51).f1, (rd_T62 l1 x42_51).f2⟩ : S62), true⟩ : S75)] : List S75)) x42_8 x42_20 x42_21 x42_22 x42_50 (wrap64 (x42_51 + 1)) x42_5_0 x42_5_1 x42_5_2 x42_5_3 x42_5_4 x42_6_0 x42_6_1 x42_6_2 x42_6_3 x42_6_4 x42_9_0 x42_9_1 x42_9_2 l1) else none) else (impl_JoinChunk.l1 k x42_7 x42_8 x42_20 x42_21 x42_22 x42_50 (wrap64 (x42_51 + 1)) x42_5_0 x42_5_1 x42_5_2 x42_5_3 x42_5_4 x42_6_0 x42_6_1 x42_6_2 x42_6_3 x42_6_4 x42_9_0 x42_9_1 x42_9_2 l1)) else none) else none) else (impl_JoinChunk.j0 k x42_7 x42_8 x42_20 x42_21 x42_22 x42_5_0 x42_5_1 x42_5_2 x42_5_3 x42_5_4 x42_6_0 x42_6_1 x42_6_2 x42_6_3 x42_6_4 l1)
def impl_JoinChunk.j1 : Nat → (List S75) → Int → (List S62) → Int → Int → Bool → Int → (List S62) → (List S62) → (List Bool) → Int → Int → (List S62) → (List S62) → (List Bool) → Int → Int → Int → Int → (List S62) → Option ((List S75) × Int × (List S62) × (List S62) × (List Bool) × Int)
 | 0, _, _, _, _, _, _, _, _, _, _, _, _, _, _, _, _, _, _, _, _ => none
 | k + 1, x41_7, x41_8, x41_20, x41_21, x41_22, x41_46, x41_5_0, x41_5_1, x41_5_2, x41_5_3, x41_5_4, x41_6_0, x41_6_1, x41_6_2, x41_6_3, x41_6_4, x41_9_0, x41_9_1, x41_9_2, l1 => if x41_46 = true then (impl_JoinChunk.l1 k x41_7 x41_8 x41_20 x41_21 x41_22 (l1.length : Int) 0 x41_5_0 x41_5_1 x41_5_2 x41_5_3 x41_5_4 x41_6_0 x41_6_1 x41_6_2 x41_6_3 x41_6_4 x41_9_0 x41_9_1 x41_9_2 l1) else (impl_JoinChunk.j0 k x41_7 x41_8 x41_20 x41_21 x41_22 x41_5_0 x41_5_1 x41_5_2 x41_5_3 x41_5_4 x41_6_0 x41_6_1 x41_6_2 x41_6_3 x41_6_4 l1)
def impl_JoinChunk.l0 : Nat → (List S75) → (List S62) → Int → Int → Int → (List S62) → (List S62) → (List Bool) → Int → Int → (List S62) → (List S62) → (List Bool) → Int → (List S62) → Option ((List S75) × Int × (List S62) × (List S62) × (List Bool) × Int)
 | 0, _, _, _, _, _, _, _, _, _, _, _, _, _, _, _ => none
 | k + 1, x22_7, x22_20, x22_21, x22_22, x22_5_0, x22_5_1, x22_5_2, x22_5_3, x22_5_4, x22_6_0, x22_6_1, x22_6_2, x22_6_3, x22_6_4, l1 => if x22_22 < x22_21 then (if 0 ≤ x22_22 then (if x22_22 < (x22_20.length : Int) then ((impl_CountMatches.f k ((rd_T62 x22_20 x22_22).f0) ((rd_T62 x22_20 x22_22).f1) ((rd_T62 x22_20 x22_22).f2) l1).bind fun t8 => (if t8 = 0 then (impl_JoinChunk.l0 k x22_7 x22_20 x22_21 (wrap64 (x22_22 + 1)) x22_5_0 x22_5_1 x22_5_2 x22_5_3 x22_5_4 x22_6_0 x22_6_1 x22_6_2 x22_6_3 x22_6_4 l1) else (if x22_6_0 = 2 then (if x22_22 < (x22_6_3.length : Int) then (if (rdOf false x22_6_3 x22_22) = true then (impl_JoinChunk.j0 k x22_7 x22_22 x22_20 x22_21 x22_22 x22_5_0 x22_5_1 x22_5_2 x22_5_3 x22_5_4 x22_6_0 x22_6_1 x22_6_2 x22_6_3 x22_6_4 l1) else (if x22_7.length < 2513169434916 then (impl_JoinChunk.j0 k (x22_7 ++ ([(⟨(⟨(rd_T62 x22_20 x22_22).f0, (rd_T62 x22_20 x22_22).f1, (rd_T62 x22_20 x22_22).f2⟩ : S62), (⟨0, 0, 0⟩ : S62), false⟩ : S75)] : List S75)) x22_22 x22_20 x22_21 x22_22 x22_5_0 x22_5_1 x22_5_2 x22_5_3 x22_5_4 x22_6_0 x22_6_1 x22_6_2 x22_6_3 x22_6_4 l1) else none)) else none) else (if x22_6_0 = 1 then (impl_JoinChunk.j1 k x22_7 x22_22 x22_20 x22_21 x22_22 (decide (x22_6_0 = 1)) x22_5_0 x22_5_1 x22_5_2 x22_5_3 x22_5_4 x22_6_0 x22_6_1 x22_6_2 x22_6_3 x22_6_4 ((rd_T62 x22_20 x22_22).f0) ((rd_T62 x22_20 x22_22).f1) ((rd_T62 x22_20 x22_22).f2) l1) else (impl_JoinChunk.j1 k x22_7 x22_22 x22_20 x22_21 x22_22 (decide (x22_6_0 = 4)) x22_5_0 x22_5_1 x22_5_2 x22_5_3 x22_5_4 x22_6_0 x22_6_1 x22_6_2 x22_6_3 x22_6_4 ((rd_T62 x22_20 x22_22).f0) ((rd_T62 x22_20 x22_22).f1) ((rd_T62 x22_20 x22_22).f2) l1))))) else none) else none) else (some (x22_7, x22_6_0, x22_6_1, x22_6_2, x22_6_3, x22_6_4))
end
def impl_JoinChunk.f (k : Nat) (a0_0 : Int) (l0_1 : List S62) (l0_2 : List S62) (l0_3 : List Bool) (a0_4 : Int) (l1 : List S62) : Option ((List S75) × Int × (List S62) × (List S62) × (List Bool) × Int) := (impl_cloneTask.f a0_0 l0_1 l0_2 l0_3 a0_4).bind fun bt1 => ((impl_IsValidTask.f k a0_0 l0_1 l0_2 l0_3 a0_4).bind fun t2 => (if t2 = true then (impl_JoinChunk.l0 k [] bt1.2.1 (bt1.2.1.length : Int) 0 0 [] [] [] 0 bt1.1 bt1.2.1 bt1.2.2.1 bt1.2.2.2.1 bt1.2.2.2.2 l1) else (some ([], bt1.1, bt1.2.1, bt1.2.2.1, bt1.2.2.2.1, bt1.2.2.2.2))))
set_option maxHeartbeats 4000000 in
set_option maxRecDepth 100000 in
theorem impl_JoinChunk.ok (k : Nat) (a0_0 : Int) (l0_1 : List S62) (Al0_1 : Option Addr) (cl0_1 : Nat) (l0_2 : List S62) (Al0_2 : Option Addr) (cl0_2 : Nat) (l0_3 : List Bool) (Al0_3 : Option Addr) (cl0_3 : Nat) (a0_4 : Int) (l1 : List S62) (Al1 : Option Addr) (cl1 : Nat) (r0 : List S75) (r1 : Int) (r2 : List S62) (r3 : List S62) (r4 : List Bool) (r5 : Int) (H : impl_JoinChunk.f k a0_0 l0_1 l0_2 l0_3 a0_4 l1 = some (r0, r1, r2, r3, r4, r5)) : Fn Try.prog 51 [.agg #[.int .i64 a0_0, .slice Al0_1 l0_1.length cl0_1, .slice Al0_2 l0_2.length cl0_2, .slice Al0_3 l0_3.length cl0_3, .int .i64 a0_4], .slice Al1 l1.length cl1] [] [.sl 0 k62 Al0_1 cl0_1 l0_1 0 false, .sl 0 k62 Al0_2 cl0_2 l0_2 0 false, .sl 0 .bool Al0_3 cl0_3 l0_3 0 false, .sl 0 k62 Al1 cl1 l1 0 false] (fun v bx en => ∃ A0 c0 A2 c2 A3 c3 A4 c4, v = .tuple #[.slice A0 r0.length c0, .agg #[.int .i64 r1, .slice A2 r2.length c2, .slice A3 r3.length c3, .slice A4 r4.length c4, .int .i64 r5]] ∧ bx = [] ∧ en = [.sl 2 k75 A0 c0 r0 1 true, .sl 2 k62 A2 c2 r2 2 true, .sl 2 k62 A3 c3 r3 3 true, .sl 2 .bool A4 c4 r4 4 true]) := by
 refine fn_ 74 Try.func51 rfl rfl rfl (fun base T w0 => ?_)
 rw [impl_JoinChunk.f] at H
 refine gs (rg (so rfl (op_box (cs := [.int .i64 a0_0, .slice Al0_1 l0_1.length cl0_1, .slice Al0_2 l0_2.length cl0_2, .slice Al0_3 l0_3.length cl0_3, .int .i64 a0_4]) rfl rfl rfl fun b2 => (sv (EV.as rfl) rfl (so rfl (op_alloc (cs := [.int .i64 0, .slice none 0 0, .slice none 0 0, .slice none 0 0, .int .i64 0]) (by kernel_rfl) rfl fun b5 => (re (gs (rg (sv (EV.ld (v := .agg #[.int .i64 a0_0, .slice Al0_1 l0_1.length cl0_1, .slice Al0_2 l0_2.length cl0_2, .slice Al0_3 l0_3.length cl0_3, .int .i64 a0_4]) 0 (some 5) rfl rfl rfl) rfl ?_))))))))))
 revert H; refine bdI ?_; rintro ⟨t1_0, t1_1, t1_2, t1_3, t1_4⟩ A1 H
 refine so rfl (op_call (impl_cloneTask.ok a0_0 l0_1 Al0_1 cl0_1 l0_2 Al0_2 cl0_2 l0_3 Al0_3 cl0_3 a0_4 _ _ _ _ _ A1) [⟨0, 0, 0, false⟩, ⟨1, 0, 0, false⟩, ⟨2, 0, 0, false⟩] 1 rfl rfl rfl rfl rfl ?_)
 rintro _ _ _ ⟨At1_1, ct1_1, At1_2, ct1_2, At1_3, ct1_3, rfl, rfl, rfl⟩
 refine so rfl (op_alloc (cs := [.int .i64 0, .slice none 0 0, .slice none 0 0, .slice none 0 0, .int .i64 0]) (by kernel_rfl) rfl fun b6 => (so rfl (op_st (cs' := [.int .i64 t1_0, .slice At1_1 t1_1.length ct1_1, .slice At1_2 t1_2.length ct1_2, .slice At1_3 t1_3.length ct1_3, .int .i64 t1_4]) 2 rfl rfl rfl rfl rfl rfl (re (gs (gs (rg (sv (EV.ld (v := .agg #[.int .i64 a0_0, .slice Al0_1 l0_1.length cl0_1, .slice Al0_2 l0_2.length cl0_2, .slice Al0_3 l0_3.length cl0_3, .int .i64 a0_4]) 0 (some 5) rfl rfl rfl) rfl ?_))))))))
 revert H; refine bdI ?_; rintro t2 A2 H
 refine so rfl (op_call (impl_IsValidTask.ok k a0_0 l0_1 Al0_1 cl0_1 l0_2 Al0_2 cl0_2 l0_3 Al0_3 cl0_3 a0_4 _ A2) [⟨0, 0, 0, false⟩, ⟨1, 0, 0, false⟩, ⟨2, 0, 0, false⟩] 5 rfl rfl rfl rfl rfl ?_)
 rintro _ _ _ ⟨rfl, rfl, rfl⟩
 refine sv (EV.nt rfl) rfl (re (pr [1, 5, 6, 16] [1, 2] [3, 4, 5, 6] rfl rfl rfl rfl ?_))
 revert H; refine ifsI ?_ ?_ <;> intro c3 H
 ·
  subst c3
  refine gf rfl rfl (gk (gs (rg (so rfl (op_lit (s := 7) (by_ := 56) k75 ([] : List S75) [] [] 5 [] rfl rfl rfl rfl rfl rfl rfl rfl rfl rfl rfl rfl rfl dq rfl fun A18_4 c18_4 => (sv (EV.as rfl) rfl (re (gs (gs (rg (sv (EV.fa 1 rfl) rfl (sv (EV.ld 1 none rfl rfl rfl) rfl (sv (EV.ln rfl) rfl (sv (EV.mv rfl) rfl (re (gb (nil_ k62 6 dq (nil_ k62 7 dq (nil_ .bool 8 dq ?_)))))))))))))))))))
  refine lo (fun kk S => ∃ (x22_7 : List S75) (Ax22_7 : Option Addr) (cx22_7 : Nat) (x22_20 : List S62) (Ax22_20 : Option Addr) (cx22_20 : Nat) (x22_21 : Int) (x22_22 : Int) (x22_5_0 : Int) (x22_5_1 : List S62) (Ax22_5_1 : Option Addr) (cx22_5_1 : Nat) (x22_5_2 : List S62) (Ax22_5_2 : Option Addr) (cx22_5_2 : Nat) (x22_5_3 : List Bool) (Ax22_5_3 : Option Addr) (cx22_5_3 : Nat) (x22_5_4 : Int) (x22_6_0 : Int) (x22_6_1 : List S62) (Ax22_6_1 : Option Addr) (cx22_6_1 : Nat) (x22_6_2 : List S62) (Ax22_6_2 : Option Addr) (cx22_6_2 : Nat) (x22_6_3 : List Bool) (Ax22_6_3 : Option Addr) (cx22_6_3 : Nat) (x22_6_4 : Int), impl_JoinChunk.l0 kk x22_7 x22_20 x22_21 x22_22 x22_5_0 x22_5_1 x22_5_2 x22_5_3 x22_5_4 x22_6_0 x22_6_1 x22_6_2 x22_6_3 x22_6_4 l1 = some (r0, r1, r2, r3, r4, r5) ∧ S = ⟨[(1, .slice Al1 l1.length cl1), (5, .pointer (some ⟨b5, 0, none⟩)), (6, .pointer (some ⟨b6, 0, none⟩)), (7, .slice Ax22_7 x22_7.length cx22_7), (20, .slice Ax22_20 x22_20.length cx22_20), (21, .int .i64 x22_21), (22, .int .i64 x22_22)], [⟨b5, 37, [.int .i64 x22_5_0, .slice Ax22_5_1 x22_5_1.length cx22_5_1, .slice Ax22_5_2 x22_5_2.length cx22_5_2, .slice Ax22_5_3 x22_5_3.length cx22_5_3, .int .i64 x22_5_4]⟩, ⟨b6, 37, [.int .i64 x22_6_0, .slice Ax22_6_1 x22_6_1.length cx22_6_1, .slice Ax22_6_2 x22_6_2.length cx22_6_2, .slice Ax22_6_3 x22_6_3.length cx22_6_3, .int .i64 x22_6_4]⟩], [.sl 2 k75 Ax22_7 cx22_7 x22_7 1 true, .sl 2 k62 Ax22_20 cx22_20 x22_20 2 true, .sl 2 k62 Ax22_5_1 cx22_5_1 x22_5_1 3 true, .sl 2 k62 Ax22_5_2 cx22_5_2 x22_5_2 4 true, .sl 2 .bool Ax22_5_3 cx22_5_3 x22_5_3 5 true, .sl 2 k62 Ax22_6_1 cx22_6_1 x22_6_1 2 true, .sl 2 k62 Ax22_6_2 cx22_6_2 x22_6_2 6 true, .sl 2 .bool Ax22_6_3 cx22_6_3 x22_6_3 7 true, .sl 0 k62 Al1 cl1 l1 0 false]⟩) (fun S hS => ?_) (fun n0 ih0 S hS => ?_) ⟨[], A18_4, c18_4, t1_1, At1_1, ct1_1, (t1_1.length : Int), 0, 0, [], none, 0, [], none, 0, [], none, 0, 0, t1_0, t1_1, At1_1, ct1_1, t1_2, At1_2, ct1_2, t1_3, At1_3, ct1_3, t1_4, H, rfl⟩ (fun h => wk [1, 5, 6, 7, 20, 21, 22] [0, 1] [⟨4, 2, 1, true⟩, ⟨1, 2, 2, true⟩, ⟨5, 2, 3, true⟩, ⟨6, 2, 4, true⟩, ⟨7, 2, 5, true⟩, ⟨1, 2, 2, true⟩, ⟨2, 2, 6, true⟩, ⟨3, 2, 7, true⟩, ⟨0, 0, 0, false⟩] h)
  · clear H; obtain ⟨_, _, _, _, _, _, _, _, _, _, _, _, _, _, _, _, _, _, _, _, _, _, _, _, _, _, _, _, _, _, H, _⟩ := hS; rw [impl_JoinChunk.l0] at H; cases H
  clear H
  obtain ⟨x22_7, Ax22_7, cx22_7, x22_20, Ax22_20, cx22_20, x22_21, x22_22, x22_5_0, x22_5_1, Ax22_5_1, cx22_5_1, x22_5_2, Ax22_5_2, cx22_5_2, x22_5_3, Ax22_5_3, cx22_5_3, x22_5_4, x22_6_0, x22_6_1, Ax22_6_1, cx22_6_1, x22_6_2, Ax22_6_2, cx22_6_2, x22_6_3, Ax22_6_3, cx22_6_3, x22_6_4, H, rfl⟩ := hS
  rw [impl_JoinChunk.l0] at H
  refine gs (rg (sv (EV.lss rfl rfl) rfl (re (gs ?_))))
  revert H; refine ifsI ?_ ?_ <;> intro c5 H
  ·
   refine gt rfl (dT c5) (gk (gs (gb (gs (rg (sv (EV.mv rfl) rfl ?_))))))
   revert H; refine ggI ?_; intro g6 H
   revert H; refine ggI ?_; intro g7 H
   refine sv (EV.ix 1 rfl rfl rfl g6 g7 rfl) rfl (sv (EV.le (v := .agg #[.int .i64 ((rd_T62 x22_20 x22_22).f0), .int .i64 ((rd_T62 x22_20 x22_22).f1), .int .i64 ((rd_T62 x22_20 x22_22).f2)]) x22_22 0 (some 3) 1 z62 rfl rfl rfl g6 g7 rfl rfl rfl) rfl (so rfl (op_alloc (cs := [.int .i64 0, .int .i64 0, .int .i64 0]) (by kernel_rfl) rfl fun b9 => (sv (EV.as rfl) rfl (so rfl (op_st (cs' := [.int .i64 ((rd_T62 x22_20 x22_22).f0), .int .i64 ((rd_T62 x22_20 x22_22).f1), .int .i64 ((rd_T62 x22_20 x22_22).f2)]) 2 rfl rfl rfl rfl rfl rfl (re (gs (gs (rg (sv (EV.ld (v := .agg #[.int .i64 ((rd_T62 x22_20 x22_22).f0), .int .i64 ((rd_T62 x22_20 x22_22).f1), .int .i64 ((rd_T62 x22_20 x22_22).f2)]) 2 (some 3) rfl rfl rfl) rfl (sv (EV.mv rfl) rfl ?_))))))))))))
   revert H; refine bdI ?_; rintro t8 A8 H
   refine so rfl (op_call (impl_CountMatches.ok n0 ((rd_T62 x22_20 x22_22).f0) ((rd_T62 x22_20 x22_22).f1) ((rd_T62 x22_20 x22_22).f2) l1 Al1 cl1 _ A8) [⟨8, 0, 0, false⟩] 8 rfl rfl rfl rfl rfl ?_)
   rintro _ _ _ ⟨rfl, rfl, rfl⟩
   refine sv (EV.eql rfl rfl) rfl (re (pr [1, 5, 6, 7, 8, 9, 20, 21, 22, 30] [0, 1, 2] [0, 1, 2, 3, 4, 5, 6, 7, 8] rfl rfl rfl rfl ?_))
   revert H; refine ifsI ?_ ?_ <;> intro c9 H
   ·
    exact gt rfl (dT c9) (gx rfl (rg (sv (EV.add rfl rfl) rfl (sv (EV.mv rfl) rfl (re (wk [1, 5, 6, 7, 20, 21, 22] [0, 1] [⟨0, 2, 1, true⟩, ⟨1, 2, 2, true⟩, ⟨2, 2, 3, true⟩, ⟨3, 2, 4, true⟩, ⟨4, 2, 5, true⟩, ⟨5, 2, 2, true⟩, ⟨6, 2, 6, true⟩, ⟨7, 2, 7, true⟩, ⟨8, 0, 0, false⟩] (ih0 _ (by omega) _ ⟨x22_7, Ax22_7, cx22_7, x22_20, Ax22_20, cx22_20, x22_21, wrap64 (x22_22 + 1), x22_5_0, x22_5_1, Ax22_5_1, cx22_5_1, x22_5_2, Ax22_5_2, cx22_5_2, x22_5_3, Ax22_5_3, cx22_5_3, x22_5_4, x22_6_0, x22_6_1, Ax22_6_1, cx22_6_1, x22_6_2, Ax22_6_2, cx22_6_2, x22_6_3, Ax22_6_3, cx22_6_3, x22_6_4, H, rfl⟩)))))))
   ·
    refine gf rfl (dF c9) (gk ?_)
    refine jo (fun S => ∃ (m : Nat) (x40_7 : List S75) (Ax40_7 : Option Addr) (cx40_7 : Nat) (x40_8 : Int) (x40_20 : List S62) (Ax40_20 : Option Addr) (cx40_20 : Nat) (x40_21 : Int) (x40_22 : Int) (x40_5_0 : Int) (x40_5_1 : List S62) (Ax40_5_1 : Option Addr) (cx40_5_1 : Nat) (x40_5_2 : List S62) (Ax40_5_2 : Option Addr) (cx40_5_2 : Nat) (x40_5_3 : List Bool) (Ax40_5_3 : Option Addr) (cx40_5_3 : Nat) (x40_5_4 : Int) (x40_6_0 : Int) (x40_6_1 : List S62) (Ax40_6_1 : Option Addr) (cx40_6_1 : Nat) (x40_6_2 : List S62) (Ax40_6_2 : Option Addr) (cx40_6_2 : Nat) (x40_6_3 : List Bool) (Ax40_6_3 : Option Addr) (cx40_6_3 : Nat) (x40_6_4 : Int), m ≤ n0 ∧ impl_JoinChunk.j0 m x40_7 x40_8 x40_20 x40_21 x40_22 x40_5_0 x40_5_1 x40_5_2 x40_5_3 x40_5_4 x40_6_0 x40_6_1 x40_6_2 x40_6_3 x40_6_4 l1 = some (r0, r1, r2, r3, r4, r5) ∧ S = ⟨[(1, .slice Al1 l1.length cl1), (5, .pointer (some ⟨b5, 0, none⟩)), (6, .pointer (some ⟨b6, 0, none⟩)), (7, .slice Ax40_7 x40_7.length cx40_7), (8, .int .i64 x40_8), (20, .slice Ax40_20 x40_20.length cx40_20), (21, .int .i64 x40_21), (22, .int .i64 x40_22)], [⟨b5, 37, [.int .i64 x40_5_0, .slice Ax40_5_1 x40_5_1.length cx40_5_1, .slice Ax40_5_2 x40_5_2.length cx40_5_2, .slice Ax40_5_3 x40_5_3.length cx40_5_3, .int .i64 x40_5_4]⟩, ⟨b6, 37, [.int .i64 x40_6_0, .slice Ax40_6_1 x40_6_1.length cx40_6_1, .slice Ax40_6_2 x40_6_2.length cx40_6_2, .slice Ax40_6_3 x40_6_3.length cx40_6_3, .int .i64 x40_6_4]⟩], [.sl 2 k75 Ax40_7 cx40_7 x40_7 1 true, .sl 2 k62 Ax40_20 cx40_20 x40_20 2 true, .sl 2 k62 Ax40_5_1 cx40_5_1 x40_5_1 3 true, .sl 2 k62 Ax40_5_2 cx40_5_2 x40_5_2 4 true, .sl 2 .bool Ax40_5_3 cx40_5_3 x40_5_3 5 true, .sl 2 k62 Ax40_6_1 cx40_6_1 x40_6_1 2 true, .sl 2 k62 Ax40_6_2 cx40_6_2 x40_6_2 6 true, .sl 2 .bool Ax40_6_3 cx40_6_3 x40_6_3 7 true, .sl 0 k62 Al1 cl1 l1 0 false]⟩) (fun S hS => ?_) (fun jh0 => ?_)
    ·
     clear H
     obtain ⟨m10, x40_7, Ax40_7, cx40_7, x40_8, x40_20, Ax40_20, cx40_20, x40_21, x40_22, x40_5_0, x40_5_1, Ax40_5_1, cx40_5_1, x40_5_2, Ax40_5_2, cx40_5_2, x40_5_3, Ax40_5_3, cx40_5_3, x40_5_4, x40_6_0, x40_6_1, Ax40_6_1, cx40_6_1, x40_6_2, Ax40_6_2, cx40_6_2, x40_6_3, Ax40_6_3, cx40_6_3, x40_6_4, lm10, H, rfl⟩ := hS
     rcases m10 with _ | m10
     · rw [impl_JoinChunk.j0] at H; cases H
     rw [impl_JoinChunk.j0] at H
     refine rg (sv (EV.fa 3 rfl) rfl (sv (EV.ld 1 none rfl rfl rfl) rfl (sv (EV.mv rfl) rfl ?_)))
     revert H; refine ggI ?_; intro g11 H
     revert H; refine ggI ?_; intro g12 H
     exact sv (EV.ix 7 rfl rfl rfl g11 g12 rfl) rfl (so rfl (op_stf x40_8 0 7 false true rfl rfl rfl rfl g11 g12 rfl rfl rfl rfl dq rfl (rlT 68 (v' := .slice Ax40_6_3 (x40_6_3.set x40_8.toNat true).length cx40_6_3) rfl (sle _ _ _ _ _) (rlB 1 (cs' := [.int .i64 x40_6_0, .slice Ax40_6_1 x40_6_1.length cx40_6_1, .slice Ax40_6_2 x40_6_2.length cx40_6_2, .slice Ax40_6_3 (x40_6_3.set x40_8.toNat true).length cx40_6_3, .int .i64 x40_6_4]) rfl (by simp only [List.length_set]) (nmE (en := [.sl 2 k75 Ax40_7 cx40_7 x40_7 1 true, .sl 2 k62 Ax40_20 cx40_20 x40_20 2 true, .sl 2 k62 Ax40_5_1 cx40_5_1 x40_5_1 3 true, .sl 2 k62 Ax40_5_2 cx40_5_2 x40_5_2 4 true, .sl 2 .bool Ax40_5_3 cx40_5_3 x40_5_3 5 true, .sl 2 k62 Ax40_6_1 cx40_6_1 x40_6_1 2 true, .sl 2 k62 Ax40_6_2 cx40_6_2 x40_6_2 6 true, .sl 0 k62 Al1 cl1 l1 0 false, .sl 2 .bool Ax40_6_3 cx40_6_3 (x40_6_3.set x40_8.toNat true) 7 true]) (by kernel_rfl) (re (ge (rg (sv (EV.add rfl rfl) rfl (sv (EV.mv rfl) rfl (re (wk [1, 5, 6, 7, 20, 21, 22] [0, 1] [⟨0, 2, 1, true⟩, ⟨1, 2, 2, true⟩, ⟨2, 2, 3, true⟩, ⟨3, 2, 4, true⟩, ⟨4, 2, 5, true⟩, ⟨5, 2, 2, true⟩, ⟨6, 2, 6, true⟩, ⟨8, 2, 7, true⟩, ⟨7, 0, 0, false⟩] (ih0 _ (by omega) _ ⟨x40_7, Ax40_7, cx40_7, x40_20, Ax40_20, cx40_20, x40_21, wrap64 (x40_22 + 1), x40_5_0, x40_5_1, Ax40_5_1, cx40_5_1, x40_5_2, Ax40_5_2, cx40_5_2, x40_5_3, Ax40_5_3, cx40_5_3, x40_5_4, x40_6_0, x40_6_1, Ax40_6_1, cx40_6_1, x40_6_2, Ax40_6_2, cx40_6_2, x40_6_3.set x40_8.toNat true, Ax40_6_3, cx40_6_3, x40_6_4, H, rfl⟩)))))))))))))
    ·
     refine gs (rg (sv (EV.fa 0 rfl) rfl (sv (EV.ld 1 none rfl rfl rfl) rfl (re (gb (gs (rg (sv (EV.eql rfl rfl) rfl (sv (EV.as rfl) rfl (re ?_))))))))))
     revert H; refine ifsI ?_ ?_ <;> intro c13 H
     ·
      refine gt rfl (dT c13) (gs (rg (sv (EV.fa 3 rfl) rfl (sv (EV.ld 1 none rfl rfl rfl) rfl (sv (EV.mv rfl) rfl ?_)))))
      revert H; refine ggI ?_; intro g14 H
      refine sv (EV.ix 7 rfl rfl rfl g6 g14 rfl) rfl (sv (EV.le (v := .bool (rdOf false x22_6_3 x22_22)) x22_22 0 none 7 false rfl rfl rfl g6 g14 rfl rfl rfl) rfl (sv (EV.nt rfl) rfl (re (pr [1, 5, 6, 7, 8, 9, 20, 21, 22, 40] [0, 1, 2] [0, 1, 2, 3, 4, 5, 6, 7, 8] rfl rfl rfl rfl ?_))))
      revert H; refine ifsI ?_ ?_ <;> intro c15 H
      ·
       exact gf rfl (bN c15) (gk (ge (wk [1, 5, 6, 7, 8, 20, 21, 22] [0, 1] [⟨0, 2, 1, true⟩, ⟨1, 2, 2, true⟩, ⟨2, 2, 3, true⟩, ⟨3, 2, 4, true⟩, ⟨4, 2, 5, true⟩, ⟨5, 2, 2, true⟩, ⟨6, 2, 6, true⟩, ⟨7, 2, 7, true⟩, ⟨8, 0, 0, false⟩] (jh0 _ ⟨_, x22_7, Ax22_7, cx22_7, x22_22, x22_20, Ax22_20, cx22_20, x22_21, x22_22, x22_5_0, x22_5_1, Ax22_5_1, cx22_5_1, x22_5_2, Ax22_5_2, cx22_5_2, x22_5_3, Ax22_5_3, cx22_5_3, x22_5_4, x22_6_0, x22_6_1, Ax22_6_1, cx22_6_1, x22_6_2, Ax22_6_2, cx22_6_2, x22_6_3, Ax22_6_3, cx22_6_3, x22_6_4, by omega, H, rfl⟩))))
      ·
       refine gt rfl (bM c15) (rg (sv (EV.mv rfl) rfl (sv (EV.ld (v := .agg #[.int .i64 ((rd_T62 x22_20 x22_22).f0), .int .i64 ((rd_T62 x22_20 x22_22).f1), .int .i64 ((rd_T62 x22_20 x22_22).f2)]) 2 (some 3) rfl rfl rfl) rfl (sv (EV.bd (v := .agg #[.int .i64 ((rd_T62 x22_20 x22_22).f0), .int .i64 ((rd_T62 x22_20 x22_22).f1), .int .i64 ((rd_T62 x22_20 x22_22).f2), .int .i64 0, .int .i64 0, .int .i64 0, .bool false]) rfl (by kernel_rfl)) rfl (so rfl (op_lit (s := 7) (by_ := 56) k75 ([(⟨(⟨(rd_T62 x22_20 x22_22).f0, (rd_T62 x22_20 x22_22).f1, (rd_T62 x22_20 x22_22).f2⟩ : S62), (⟨0, 0, 0⟩ : S62), false⟩ : S75)] : List S75) [[]] [] 8 [.tmp 43] rfl rfl rfl rfl rfl rfl rfl rfl rfl rfl rfl rfl rfl dq rfl fun A44_16 c44_16 => ?_))))))
       revert H; refine ggI ?_; intro g17 H
       exact so rfl (op_app (k := k75) (s := 7) (by_ := 56) 0 9 rfl rfl rfl rfl (ap1 g17 dq) (ap1n g17 dq) (.inl rfl) true (fun _ => .inl rfl) rfl rfl fun A45_18 c45_18 => (nmE (en := [.sl 2 k62 Ax22_20 cx22_20 x22_20 2 true, .sl 2 k62 Ax22_5_1 cx22_5_1 x22_5_1 3 true, .sl 2 k62 Ax22_5_2 cx22_5_2 x22_5_2 4 true, .sl 2 .bool Ax22_5_3 cx22_5_3 x22_5_3 5 true, .sl 2 k62 Ax22_6_1 cx22_6_1 x22_6_1 2 true, .sl 2 k62 Ax22_6_2 cx22_6_2 x22_6_2 6 true, .sl 2 .bool Ax22_6_3 cx22_6_3 x22_6_3 7 true, .sl 0 k62 Al1 cl1 l1 0 false, .sl 2 k75 A44_16 c44_16 ([(⟨(⟨(rd_T62 x22_20 x22_22).f0, (rd_T62 x22_20 x22_22).f1, (rd_T62 x22_20 x22_22).f2⟩ : S62), (⟨0, 0, 0⟩ : S62), false⟩ : S75)] : List S75) 8 true, .sl 2 k75 A45_18 c45_18 (x22_7 ++ ([(⟨(⟨(rd_T62 x22_20 x22_22).f0, (rd_T62 x22_20 x22_22).f1, (rd_T62 x22_20 x22_22).f2⟩ : S62), (⟨0, 0, 0⟩ : S62), false⟩ : S75)] : List S75)) 1 true]) (by kernel_rfl) (sv (EV.as rfl) rfl (re (pr [1, 5, 6, 7, 8, 20, 21, 22] [0, 1] [0, 1, 2, 3, 4, 5, 6, 7, 9] rfl rfl rfl rfl (ge (wk [1, 5, 6, 7, 8, 20, 21, 22] [0, 1] [⟨8, 2, 1, true⟩, ⟨0, 2, 2, true⟩, ⟨1, 2, 3, true⟩, ⟨2, 2, 4, true⟩, ⟨3, 2, 5, true⟩, ⟨4, 2, 2, true⟩, ⟨5, 2, 6, true⟩, ⟨6, 2, 7, true⟩, ⟨7, 0, 0, false⟩] (jh0 _ ⟨_, x22_7 ++ ([(⟨(⟨(rd_T62 x22_20 x22_22).f0, (rd_T62 x22_20 x22_22).f1, (rd_T62 x22_20 x22_22).f2⟩ : S62), (⟨0, 0, 0⟩ : S62), false⟩ : S75)] : List S75), A45_18, c45_18, x22_22, x22_20, Ax22_20, cx22_20, x22_21, x22_22, x22_5_0, x22_5_1, Ax22_5_1, cx22_5_1, x22_5_2, Ax22_5_2, cx22_5_2, x22_5_3, Ax22_5_3, cx22_5_3, x22_5_4, x22_6_0, x22_6_1, Ax22_6_1, cx22_6_1, x22_6_2, Ax22_6_2, cx22_6_2, x22_6_3, Ax22_6_3, cx22_6_3, x22_6_4, by omega, H, rfl⟩))))))))
     ·
      refine gf rfl (dF c13) ?_
      refine jo (fun S => ∃ (m : Nat) (x41_7 : List S75) (Ax41_7 : Option Addr) (cx41_7 : Nat) (x41_8 : Int) (x41_20 : List S62) (Ax41_20 : Option Addr) (cx41_20 : Nat) (x41_21 : Int) (x41_22 : Int) (x41_46 : Bool) (x41_5_0 : Int) (x41_5_1 : List S62) (Ax41_5_1 : Option Addr) (cx41_5_1 : Nat) (x41_5_2 : List S62) (Ax41_5_2 : Option Addr) (cx41_5_2 : Nat) (x41_5_3 : List Bool) (Ax41_5_3 : Option Addr) (cx41_5_3 : Nat) (x41_5_4 : Int) (x41_6_0 : Int) (x41_6_1 : List S62) (Ax41_6_1 : Option Addr) (cx41_6_1 : Nat) (x41_6_2 : List S62) (Ax41_6_2 : Option Addr) (cx41_6_2 : Nat) (x41_6_3 : List Bool) (Ax41_6_3 : Option Addr) (cx41_6_3 : Nat) (x41_6_4 : Int) (x41_9_0 : Int) (x41_9_1 : Int) (x41_9_2 : Int), m ≤ n0 ∧ impl_JoinChunk.j1 m x41_7 x41_8 x41_20 x41_21 x41_22 x41_46 x41_5_0 x41_5_1 x41_5_2 x41_5_3 x41_5_4 x41_6_0 x41_6_1 x41_6_2 x41_6_3 x41_6_4 x41_9_0 x41_9_1 x41_9_2 l1 = some (r0, r1, r2, r3, r4, r5) ∧ S = ⟨[(1, .slice Al1 l1.length cl1), (5, .pointer (some ⟨b5, 0, none⟩)), (6, .pointer (some ⟨b6, 0, none⟩)), (7, .slice Ax41_7 x41_7.length cx41_7), (8, .int .i64 x41_8), (9, .pointer (some ⟨b9, 0, none⟩)), (20, .slice Ax41_20 x41_20.length cx41_20), (21, .int .i64 x41_21), (22, .int .i64 x41_22), (46, .bool x41_46)], [⟨b5, 37, [.int .i64 x41_5_0, .slice Ax41_5_1 x41_5_1.length cx41_5_1, .slice Ax41_5_2 x41_5_2.length cx41_5_2, .slice Ax41_5_3 x41_5_3.length cx41_5_3, .int .i64 x41_5_4]⟩, ⟨b6, 37, [.int .i64 x41_6_0, .slice Ax41_6_1 x41_6_1.length cx41_6_1, .slice Ax41_6_2 x41_6_2.length cx41_6_2, .slice Ax41_6_3 x41_6_3.length cx41_6_3, .int .i64 x41_6_4]⟩, ⟨b9, 62, [.int .i64 x41_9_0, .int .i64 x41_9_1, .int .i64 x41_9_2]⟩], [.sl 2 k75 Ax41_7 cx41_7 x41_7 1 true, .sl 2 k62 Ax41_20 cx41_20 x41_20 2 true, .sl 2 k62 Ax41_5_1 cx41_5_1 x41_5_1 3 true, .sl 2 k62 Ax41_5_2 cx41_5_2 x41_5_2 4 true, .sl 2 .bool Ax41_5_3 cx41_5_3 x41_5_3 5 true, .sl 2 k62 Ax41_6_1 cx41_6_1 x41_6_1 2 true, .sl 2 k62 Ax41_6_2 cx41_6_2 x41_6_2 6 true, .sl 2 .bool Ax41_6_3 cx41_6_3 x41_6_3 7 true, .sl 0 k62 Al1 cl1 l1 0 false]⟩) (fun S hS => ?_) (fun jh1 => ?_)
      ·
       clear H
       obtain ⟨m19, x41_7, Ax41_7, cx41_7, x41_8, x41_20, Ax41_20, cx41_20, x41_21, x41_22, x41_46, x41_5_0, x41_5_1, Ax41_5_1, cx41_5_1, x41_5_2, Ax41_5_2, cx41_5_2, x41_5_3, Ax41_5_3, cx41_5_3, x41_5_4, x41_6_0, x41_6_1, Ax41_6_1, cx41_6_1, x41_6_2, Ax41_6_2, cx41_6_2, x41_6_3, Ax41_6_3, cx41_6_3, x41_6_4, x41_9_0, x41_9_1, x41_9_2, lm19, H, rfl⟩ := hS
       rcases m19 with _ | m19
       · rw [impl_JoinChunk.j1] at H; cases H
       rw [impl_JoinChunk.j1] at H
       revert H; refine ifsI ?_ ?_ <;> intro c20 H
       ·
        subst c20
        refine gt rfl rfl (gs (rg (sv (EV.mv rfl) rfl (sv (EV.ln rfl) rfl (sv (EV.mv rfl) rfl (re (gb ?_)))))))
        refine lo (fun kk S => ∃ (x42_7 : List S75) (Ax42_7 : Option Addr) (cx42_7 : Nat) (x42_8 : Int) (x42_20 : List S62) (Ax42_20 : Option Addr) (cx42_20 : Nat) (x42_21 : Int) (x42_22 : Int) (x42_50 : Int) (x42_51 : Int) (x42_5_0 : Int) (x42_5_1 : List S62) (Ax42_5_1 : Option Addr) (cx42_5_1 : Nat) (x42_5_2 : List S62) (Ax42_5_2 : Option Addr) (cx42_5_2 : Nat) (x42_5_3 : List Bool) (Ax42_5_3 : Option Addr) (cx42_5_3 : Nat) (x42_5_4 : Int) (x42_6_0 : Int) (x42_6_1 : List S62) (Ax42_6_1 : Option Addr) (cx42_6_1 : Nat) (x42_6_2 : List S62) (Ax42_6_2 : Option Addr) (cx42_6_2 : Nat) (x42_6_3 : List Bool) (Ax42_6_3 : Option Addr) (cx42_6_3 : Nat) (x42_6_4 : Int) (x42_9_0 : Int) (x42_9_1 : Int) (x42_9_2 : Int), kk ≤ m19 ∧ impl_JoinChunk.l1 kk x42_7 x42_8 x42_20 x42_21 x42_22 x42_50 x42_51 x42_5_0 x42_5_1 x42_5_2 x42_5_3 x42_5_4 x42_6_0 x42_6_1 x42_6_2 x42_6_3 x42_6_4 x42_9_0 x42_9_1 x42_9_2 l1 = some (r0, r1, r2, r3, r4, r5) ∧ S = ⟨[(1, .slice Al1 l1.length cl1), (5, .pointer (some ⟨b5, 0, none⟩)), (6, .pointer (some ⟨b6, 0, none⟩)), (7, .slice Ax42_7 x42_7.length cx42_7), (8, .int .i64 x42_8), (9, .pointer (some ⟨b9, 0, none⟩)), (20, .slice Ax42_20 x42_20.length cx42_20), (21, .int .i64 x42_21), (22, .int .i64 x42_22), (49, .slice Al1 l1.length cl1), (50, .int .i64 x42_50), (51, .int .i64 x42_51)], [⟨b5, 37, [.int .i64 x42_5_0, .slice Ax42_5_1 x42_5_1.length cx42_5_1, .slice Ax42_5_2 x42_5_2.length cx42_5_2, .slice Ax42_5_3 x42_5_3.length cx42_5_3, .int .i64 x42_5_4]⟩, ⟨b6, 37, [.int .i64 x42_6_0, .slice Ax42_6_1 x42_6_1.length cx42_6_1, .slice Ax42_6_2 x42_6_2.length cx42_6_2, .slice Ax42_6_3 x42_6_3.length cx42_6_3, .int .i64 x42_6_4]⟩, ⟨b9, 62, [.int .i64 x42_9_0, .int .i64 x42_9_1, .int .i64 x42_9_2]⟩], [.sl 2 k75 Ax42_7 cx42_7 x42_7 1 true, .sl 2 k62 Ax42_20 cx42_20 x42_20 2 true, .sl 2 k62 Ax42_5_1 cx42_5_1 x42_5_1 3 true, .sl 2 k62 Ax42_5_2 cx42_5_2 x42_5_2 4 true, .sl 2 .bool Ax42_5_3 cx42_5_3 x42_5_3 5 true, .sl 2 k62 Ax42_6_1 cx42_6_1 x42_6_1 2 true, .sl 2 k62 Ax42_6_2 cx42_6_2 x42_6_2 6 true, .sl 2 .bool Ax42_6_3 cx42_6_3 x42_6_3 7 true, .sl 0 k62 Al1 cl1 l1 0 false]⟩) (fun S hS => ?_) (fun n1 ih1 S hS => ?_) ⟨x41_7, Ax41_7, cx41_7, x41_8, x41_20, Ax41_20, cx41_20, x41_21, x41_22, (l1.length : Int), 0, x41_5_0, x41_5_1, Ax41_5_1, cx41_5_1, x41_5_2, Ax41_5_2, cx41_5_2, x41_5_3, Ax41_5_3, cx41_5_3, x41_5_4, x41_6_0, x41_6_1, Ax41_6_1, cx41_6_1, x41_6_2, Ax41_6_2, cx41_6_2, x41_6_3, Ax41_6_3, cx41_6_3, x41_6_4, x41_9_0, x41_9_1, x41_9_2, by omega, H, rfl⟩ (fun h => wk [1, 5, 6, 7, 8, 9, 20, 21, 22, 49, 50, 51] [0, 1, 2] [⟨0, 2, 1, true⟩, ⟨1, 2, 2, true⟩, ⟨2, 2, 3, true⟩, ⟨3, 2, 4, true⟩, ⟨4, 2, 5, true⟩, ⟨5, 2, 2, true⟩, ⟨6, 2, 6, true⟩, ⟨7, 2, 7, true⟩, ⟨8, 0, 0, false⟩] h)
        · clear H; obtain ⟨_, _, _, _, _, _, _, _, _, _, _, _, _, _, _, _, _, _, _, _, _, _, _, _, _, _, _, _, _, _, _, _, _, _, _, _, _, H, _⟩ := hS; rw [impl_JoinChunk.l1] at H; cases H
        clear H
        obtain ⟨x42_7, Ax42_7, cx42_7, x42_8, x42_20, Ax42_20, cx42_20, x42_21, x42_22, x42_50, x42_51, x42_5_0, x42_5_1, Ax42_5_1, cx42_5_1, x42_5_2, Ax42_5_2, cx42_5_2, x42_5_3, Ax42_5_3, cx42_5_3, x42_5_4, x42_6_0, x42_6_1, Ax42_6_1, cx42_6_1, x42_6_2, Ax42_6_2, cx42_6_2, x42_6_3, Ax42_6_3, cx42_6_3, x42_6_4, x42_9_0, x42_9_1, x42_9_2, lk1, H, rfl⟩ := hS
        rw [impl_JoinChunk.l1] at H
        refine gs (rg (sv (EV.lss rfl rfl) rfl (re (gs ?_))))
        revert H; refine ifsI ?_ ?_ <;> intro c21 H
        ·
         refine gt rfl (dT c21) (gk (gs (gb (gs (rg ?_)))))
         revert H; refine ggI ?_; intro g22 H
         revert H; refine ggI ?_; intro g23 H
         refine sv (EV.ix 8 rfl rfl rfl g22 g23 rfl) rfl (sv (EV.le (v := .agg #[.int .i64 ((rd_T62 l1 x42_51).f0), .int .i64 ((rd_T62 l1 x42_51).f1), .int .i64 ((rd_T62 l1 x42_51).f2)]) x42_51 0 (some 3) 8 z62 rfl rfl rfl g22 g23 rfl rfl rfl) rfl (so rfl (op_alloc (cs := [.int .i64 0, .int .i64 0, .int .i64 0]) (by kernel_rfl) rfl fun b11 => (so rfl (op_st (cs' := [.int .i64 ((rd_T62 l1 x42_51).f0), .int .i64 ((rd_T62 l1 x42_51).f1), .int .i64 ((rd_T62 l1 x42_51).f2)]) 3 rfl rfl rfl rfl rfl rfl (re (gs (rg (sv (EV.fa 0 rfl) rfl (sv (EV.ld 3 none rfl rfl rfl) rfl (sv (EV.fa 0 rfl) rfl (sv (EV.ld 2 none rfl rfl rfl) rfl (sv (EV.eql rfl rfl) rfl (re (pr [1, 5, 6, 7, 8, 9, 11, 20, 21, 22, 49, 50, 51, 59] [0, 1, 2, 3] [0, 1, 2, 3, 4, 5, 6, 7, 8] rfl rfl rfl rfl ?_)))))))))))))))
         revert H; refine ifsI ?_ ?_ <;> intro c24 H
         ·
          refine gt rfl (dT c24) (rg (sv (EV.mv rfl) rfl (sv (EV.ld (v := .agg #[.int .i64 x42_9_0, .int .i64 x42_9_1, .int .i64 x42_9_2]) 2 (some 3) rfl rfl rfl) rfl (sv (EV.ld (v := .agg #[.int .i64 ((rd_T62 l1 x42_51).f0), .int .i64 ((rd_T62 l1 x42_51).f1), .int .i64 ((rd_T62 l1 x42_51).f2)]) 3 (some 3) rfl rfl rfl) rfl (sv (EV.bd (v := .agg #[.int .i64 x42_9_0, .int .i64 x42_9_1, .int .i64 x42_9_2, .int .i64 ((rd_T62 l1 x42_51).f0), .int .i64 ((rd_T62 l1 x42_51).f1), .int .i64 ((rd_T62 l1 x42_51).f2), .bool true]) rfl (by kernel_rfl)) rfl (so rfl (op_lit (s := 7) (by_ := 56) k75 ([(⟨(⟨x42_9_0, x42_9_1, x42_9_2⟩ : S62), (⟨(rd_T62 l1 x42_51).f0, (rd_T62 l1 x42_51).f1, (rd_T62 l1 x42_51).f2⟩ : S62), true⟩ : S75)] : List S75) [[]] [] 8 [.tmp 63] rfl rfl rfl rfl rfl rfl rfl rfl rfl rfl rfl rfl rfl dq rfl fun A64_25 c64_25 => ?_)))))))
          revert H; refine ggI ?_; intro g26 H
          exact so rfl (op_app (k := k75) (s := 7) (by_ := 56) 0 9 rfl rfl rfl rfl (ap1 g26 dq) (ap1n g26 dq) (.inl rfl) true (fun _ => .inl rfl) rfl rfl fun A65_27 c65_27 => (nmE (en := [.sl 2 k62 Ax42_20 cx42_20 x42_20 2 true, .sl 2 k62 Ax42_5_1 cx42_5_1 x42_5_1 3 true, .sl 2 k62 Ax42_5_2 cx42_5_2 x42_5_2 4 true, .sl 2 .bool Ax42_5_3 cx42_5_3 x42_5_3 5 true, .sl 2 k62 Ax42_6_1 cx42_6_1 x42_6_1 2 true, .sl 2 k62 Ax42_6_2 cx42_6_2 x42_6_2 6 true, .sl 2 .bool Ax42_6_3 cx42_6_3 x42_6_3 7 true, .sl 0 k62 Al1 cl1 l1 0 false, .sl 2 k75 A64_25 c64_25 ([(⟨(⟨x42_9_0, x42_9_1, x42_9_2⟩ : S62), (⟨(rd_T62 l1 x42_51).f0, (rd_T62 l1 x42_51).f1, (rd_T62 l1 x42_51).f2⟩ : S62), true⟩ : S75)] : List S75) 8 true, .sl 2 k75 A65_27 c65_27 (x42_7 ++ ([(⟨(⟨x42_9_0, x42_9_1, x42_9_2⟩ : S62), (⟨(rd_T62 l1 x42_51).f0, (rd_T62 l1 x42_51).f1, (rd_T62 l1 x42_51).f2⟩ : S62), true⟩ : S75)] : List S75)) 1 true]) (by kernel_rfl) (sv (EV.as rfl) rfl (re (pr [1, 5, 6, 7, 8, 9, 20, 21, 22, 49, 50, 51] [0, 1, 2] [0, 1, 2, 3, 4, 5, 6, 7, 9] rfl rfl rfl rfl (ge (rg (sv (EV.add rfl rfl) rfl (sv (EV.mv rfl) rfl (re (wk [1, 5, 6, 7, 8, 9, 20, 21, 22, 49, 50, 51] [0, 1, 2] [⟨8, 2, 1, true⟩, ⟨0, 2, 2, true⟩, ⟨1, 2, 3, true⟩, ⟨2, 2, 4, true⟩, ⟨3, 2, 5, true⟩, ⟨4, 2, 2, true⟩, ⟨5, 2, 6, true⟩, ⟨6, 2, 7, true⟩, ⟨7, 0, 0, false⟩] (ih1 _ (by omega) _ ⟨x42_7 ++ ([(⟨(⟨x42_9_0, x42_9_1, x42_9_2⟩ : S62), (⟨(rd_T62 l1 x42_51).f0, (rd_T62 l1 x42_51).f1, (rd_T62 l1 x42_51).f2⟩ : S62), true⟩ : S75)] : List S75), A65_27, c65_27, x42_8, x42_20, Ax42_20, cx42_20, x42_21, x42_22, x42_50, wrap64 (x42_51 + 1), x42_5_0, x42_5_1, Ax42_5_1, cx42_5_1, x42_5_2, Ax42_5_2, cx42_5_2, x42_5_3, Ax42_5_3, cx42_5_3, x42_5_4, x42_6_0, x42_6_1, Ax42_6_1, cx42_6_1, x42_6_2, Ax42_6_2, cx42_6_2, x42_6_3, Ax42_6_3, cx42_6_3, x42_6_4, x42_9_0, x42_9_1, x42_9_2, by omega, H, rfl⟩))))))))))))
         ·
          exact gf rfl (dF c24) (gk (ge (rg (sv (EV.add rfl rfl) rfl (sv (EV.mv rfl) rfl (re (wk [1, 5, 6, 7, 8, 9, 20, 21, 22, 49, 50, 51] [0, 1, 2] [⟨0, 2, 1, true⟩, ⟨1, 2, 2, true⟩, ⟨2, 2, 3, true⟩, ⟨3, 2, 4, true⟩, ⟨4, 2, 5, true⟩, ⟨5, 2, 2, true⟩, ⟨6, 2, 6, true⟩, ⟨7, 2, 7, true⟩, ⟨8, 0, 0, false⟩] (ih1 _ (by omega) _ ⟨x42_7, Ax42_7, cx42_7, x42_8, x42_20, Ax42_20, cx42_20, x42_21, x42_22, x42_50, wrap64 (x42_51 + 1), x42_5_0, x42_5_1, Ax42_5_1, cx42_5_1, x42_5_2, Ax42_5_2, cx42_5_2, x42_5_3, Ax42_5_3, cx42_5_3, x42_5_4, x42_6_0, x42_6_1, Ax42_6_1, cx42_6_1, x42_6_2, Ax42_6_2, cx42_6_2, x42_6_3, Ax42_6_3, cx42_6_3, x42_6_4, x42_9_0, x42_9_1, x42_9_2, by omega, H, rfl⟩))))))))
        ·
         exact gf rfl (dF c21) (gx rfl (ge (wk [1, 5, 6, 7, 8, 20, 21, 22] [0, 1] [⟨0, 2, 1, true⟩, ⟨1, 2, 2, true⟩, ⟨2, 2, 3, true⟩, ⟨3, 2, 4, true⟩, ⟨4, 2, 5, true⟩, ⟨5, 2, 2, true⟩, ⟨6, 2, 6, true⟩, ⟨7, 2, 7, true⟩, ⟨8, 0, 0, false⟩] (jh0 _ ⟨_, x42_7, Ax42_7, cx42_7, x42_8, x42_20, Ax42_20, cx42_20, x42_21, x42_22, x42_5_0, x42_5_1, Ax42_5_1, cx42_5_1, x42_5_2, Ax42_5_2, cx42_5_2, x42_5_3, Ax42_5_3, cx42_5_3, x42_5_4, x42_6_0, x42_6_1, Ax42_6_1, cx42_6_1, x42_6_2, Ax42_6_2, cx42_6_2, x42_6_3, Ax42_6_3, cx42_6_3, x42_6_4, by omega, H, rfl⟩))))
       ·
        obtain rfl := bF c20
        exact gf rfl rfl (gk (ge (wk [1, 5, 6, 7, 8, 20, 21, 22] [0, 1] [⟨0, 2, 1, true⟩, ⟨1, 2, 2, true⟩, ⟨2, 2, 3, true⟩, ⟨3, 2, 4, true⟩, ⟨4, 2, 5, true⟩, ⟨5, 2, 2, true⟩, ⟨6, 2, 6, true⟩, ⟨7, 2, 7, true⟩, ⟨8, 0, 0, false⟩] (jh0 _ ⟨_, x41_7, Ax41_7, cx41_7, x41_8, x41_20, Ax41_20, cx41_20, x41_21, x41_22, x41_5_0, x41_5_1, Ax41_5_1, cx41_5_1, x41_5_2, Ax41_5_2, cx41_5_2, x41_5_3, Ax41_5_3, cx41_5_3, x41_5_4, x41_6_0, x41_6_1, Ax41_6_1, cx41_6_1, x41_6_2, Ax41_6_2, cx41_6_2, x41_6_3, Ax41_6_3, cx41_6_3, x41_6_4, by omega, H, rfl⟩))))
      ·
       refine gs (rg (sv (EV.eql rfl rfl) rfl (sv (EV.as rfl) rfl (re ?_))))
       revert H; refine ifsI ?_ ?_ <;> intro c28 H
       ·
        exact gt rfl (dT c28) (gk (wk [1, 5, 6, 7, 8, 9, 20, 21, 22, 46] [0, 1, 2] [⟨0, 2, 1, true⟩, ⟨1, 2, 2, true⟩, ⟨2, 2, 3, true⟩, ⟨3, 2, 4, true⟩, ⟨4, 2, 5, true⟩, ⟨5, 2, 2, true⟩, ⟨6, 2, 6, true⟩, ⟨7, 2, 7, true⟩, ⟨8, 0, 0, false⟩] (jh1 _ ⟨_, x22_7, Ax22_7, cx22_7, x22_22, x22_20, Ax22_20, cx22_20, x22_21, x22_22, decide (x22_6_0 = 1), x22_5_0, x22_5_1, Ax22_5_1, cx22_5_1, x22_5_2, Ax22_5_2, cx22_5_2, x22_5_3, Ax22_5_3, cx22_5_3, x22_5_4, x22_6_0, x22_6_1, Ax22_6_1, cx22_6_1, x22_6_2, Ax22_6_2, cx22_6_2, x22_6_3, Ax22_6_3, cx22_6_3, x22_6_4, (rd_T62 x22_20 x22_22).f0, (rd_T62 x22_20 x22_22).f1, (rd_T62 x22_20 x22_22).f2, by omega, H, rfl⟩)))
       ·
        exact gf rfl (dF c28) (rg (sv (EV.eql rfl rfl) rfl (sv (EV.as rfl) rfl (re (pr [1, 5, 6, 7, 8, 9, 20, 21, 22, 46] [0, 1, 2] [0, 1, 2, 3, 4, 5, 6, 7, 8] rfl rfl rfl rfl (wk [1, 5, 6, 7, 8, 9, 20, 21, 22, 46] [0, 1, 2] [⟨0, 2, 1, true⟩, ⟨1, 2, 2, true⟩, ⟨2, 2, 3, true⟩, ⟨3, 2, 4, true⟩, ⟨4, 2, 5, true⟩, ⟨5, 2, 2, true⟩, ⟨6, 2, 6, true⟩, ⟨7, 2, 7, true⟩, ⟨8, 0, 0, false⟩] (jh1 _ ⟨_, x22_7, Ax22_7, cx22_7, x22_22, x22_20, Ax22_20, cx22_20, x22_21, x22_22, decide (x22_6_0 = 4), x22_5_0, x22_5_1, Ax22_5_1, cx22_5_1, x22_5_2, Ax22_5_2, cx22_5_2, x22_5_3, Ax22_5_3, cx22_5_3, x22_5_4, x22_6_0, x22_6_1, Ax22_6_1, cx22_6_1, x22_6_2, Ax22_6_2, cx22_6_2, x22_6_3, Ax22_6_3, cx22_6_3, x22_6_4, (rd_T62 x22_20 x22_22).f0, (rd_T62 x22_20 x22_22).f1, (rd_T62 x22_20 x22_22).f2, by omega, H, rfl⟩)))))))
  ·
   refine gf rfl (dF c5) (gx rfl (gs (dr [0, 1] [0, 1, 2, 3, 4, 5, 6, 7, 8] [3] 4 rfl rfl rfl rfl (xv 0 [0, 1] [0, 1, 2, 3, 4, 5, 6, 7, 8] rfl (EV.mv rfl) rfl rfl rfl rfl (xv 1 [0, 1] [0, 1, 2, 3, 4, 5, 6, 7, 8] rfl (EV.ld (v := .agg #[.int .i64 x22_6_0, .slice Ax22_6_1 x22_6_1.length cx22_6_1, .slice Ax22_6_2 x22_6_2.length cx22_6_2, .slice Ax22_6_3 x22_6_3.length cx22_6_3, .int .i64 x22_6_4]) 1 (some 5) rfl rfl rfl) rfl rfl rfl rfl (xv 2 [0, 1] [0, 1, 2, 3, 4, 5, 6, 7, 8] rfl (EV.as rfl) rfl rfl rfl rfl (one1 3 rfl rfl (op_st (cs' := [.int .i64 x22_6_0, .slice Ax22_6_1 x22_6_1.length cx22_6_1, .slice Ax22_6_2 x22_6_2.length cx22_6_2, .slice Ax22_6_3 x22_6_3.length cx22_6_3, .int .i64 x22_6_4]) 0 rfl rfl rfl rfl rfl rfl (xn rfl (xd (pr [4, 5] [0] [0, 5, 6, 7] rfl rfl rfl rfl ?_)))))))))))
   cases H
   exact rt Try.func51 rfl (.tmp rfl (.cell 0 (some 5) rfl rfl rfl .nil)) rfl [] [⟨0, 2, 1, true⟩, ⟨1, 2, 2, true⟩, ⟨2, 2, 3, true⟩, ⟨3, 2, 4, true⟩] rfl rfl rfl rfl rfl ⟨_, _, _, _, _, _, _, _, rfl, rfl, rfl⟩
 ·
  obtain rfl := bF c3
  refine gt rfl rfl (gs (dr [0, 1] [0, 1, 2, 3] [2] 3 rfl rfl rfl rfl (xv 0 [0, 1] [0, 1, 2, 3] rfl (EV.ld (v := .agg #[.int .i64 t1_0, .slice At1_1 t1_1.length ct1_1, .slice At1_2 t1_2.length ct1_2, .slice At1_3 t1_3.length ct1_3, .int .i64 t1_4]) 1 (some 5) rfl rfl rfl) rfl rfl rfl rfl (xv 1 [0, 1] [0, 1, 2, 3] rfl (EV.as rfl) rfl rfl rfl rfl (one1 2 rfl rfl (op_st (cs' := [.int .i64 t1_0, .slice At1_1 t1_1.length ct1_1, .slice At1_2 t1_2.length ct1_2, .slice At1_3 t1_3.length ct1_3, .int .i64 t1_4]) 0 rfl rfl rfl rfl rfl rfl (xn rfl (xd (nil_ k75 5 dq ?_)))))))))
  cases H
  exact rt Try.func51 rfl (.tmp rfl (.cell 0 (some 5) rfl rfl rfl .nil)) rfl [] [⟨4, 2, 1, true⟩, ⟨1, 2, 2, true⟩, ⟨2, 2, 3, true⟩, ⟨3, 2, 4, true⟩] rfl rfl rfl rfl rfl ⟨_, _, _, _, _, _, _, _, rfl, rfl, rfl⟩
end Go.Proofs.Ythciieopabndcaa.K
namespace Go.Proofs.Ythciieopabndcaa.K
open Go Go.RowKit
set_option linter.unusedVariables false
set_option linter.unusedSimpArgs false
def laws_FnExactJoinChunk.f (k : Nat) (a0_0 : Int) (l0_1 : List S64) (l0_2 : List S64) (l0_3 : List Bool) (a0_4 : Int) (l1 : List S64) : Option (Bool) := (laws_szTask.f a0_0 l0_1 l0_2 l0_3 a0_4 1048576).bind fun t1 => (if t1 < 0 then (some true) else ((laws_szRowS.f l1 t1).bind fun t3 => (if t3 < 0 then (some true) else ((laws_toTask.f k a0_0 l0_1 l0_2 l0_3 a0_4).bind fun bt5 => ((laws_toRowS.f k l1).bind fun t6 => ((spec_JoinChunk.f k bt5.1 bt5.2.1 bt5.2.2.1 bt5.2.2.2.1 bt5.2.2.2.2 t6).bind fun bt7 => ((laws_toTask.f k a0_0 l0_1 l0_2 l0_3 a0_4).bind fun bt8 => ((laws_toRowS.f k l1).bind fun t9 => ((impl_JoinChunk.f k bt8.1 bt8.2.1 bt8.2.2.1 bt8.2.2.2.1 bt8.2.2.2.2 t9).bind fun bt10 => ((laws_eqPairS.f k bt10.1 bt7.1).bind fun t11 => (if t11 = true then ((laws_eqTask.f k bt10.2.1 bt10.2.2.1 bt10.2.2.2.1 bt10.2.2.2.2.1 bt10.2.2.2.2.2 bt7.2.1 bt7.2.2.1 bt7.2.2.2.1 bt7.2.2.2.2.1 bt7.2.2.2.2.2).bind fun t13 => (if t13 = true then ((laws_toTask.f k a0_0 l0_1 l0_2 l0_3 a0_4).bind fun bt15 => ((laws_eqTask.f k bt8.1 bt8.2.1 bt8.2.2.1 bt8.2.2.2.1 bt8.2.2.2.2 bt15.1 bt15.2.1 bt15.2.2.1 bt15.2.2.2.1 bt15.2.2.2.2).bind fun t16 => (if t16 = true then ((laws_toRowS.f k l1).bind fun t18 => ((laws_eqRowS.f k t9 t18).bind fun t19 => (if t19 = true then ((laws_markTask.f k bt8.1 bt8.2.1 bt8.2.2.1 bt8.2.2.2.1 bt8.2.2.2.2 1).bind fun bt21 => ((laws_markRowS.f k t9 bt21.1).bind fun bt22 => (if bt22.1 < 0 then (some false) else ((laws_eqPairS.f k bt10.1 bt7.1).bind fun t24 => (if t24 = true then ((laws_eqTask.f k bt10.2.1 bt10.2.2.1 bt10.2.2.2.1 bt10.2.2.2.2.1 bt10.2.2.2.2.2 bt7.2.1 bt7.2.2.1 bt7.2.2.2.1 bt7.2.2.2.2.1 bt7.2.2.2.2.2).bind fun t26 => (if t26 = true then ((laws_markPairS.f k bt10.1 1).bind fun bt28 => ((laws_markTask.f k bt10.2.1 bt10.2.2.1 bt10.2.2.2.1 bt10.2.2.2.2.1 bt10.2.2.2.2.2 bt28.1).bind fun bt29 => ((laws_heldPairS.f k bt28.2 1).bind fun t30 => (if t30 < 0 then (some false) else ((laws_heldTask.f k bt10.2.1 bt29.2.1 bt29.2.2.1 bt29.2.2.2 bt10.2.2.2.2.2 t30).bind fun t32 => (if t32 < 0 then (some false) else (if t32 = bt29.1 then ((laws_toTask.f k a0_0 l0_1 l0_2 l0_3 a0_4).bind fun bt35 => ((laws_toRowS.f k l1).bind fun t36 => ((impl_JoinChunk.f k bt35.1 bt35.2.1 bt35.2.2.1 bt35.2.2.2.1 bt35.2.2.2.2 t36).bind fun bt37 => ((laws_eqPairS.f k bt37.1 bt7.1).bind fun t38 => (if t38 = true then ((laws_eqTask.f k bt37.2.1 bt37.2.2.1 bt37.2.2.2.1 bt37.2.2.2.2.1 bt37.2.2.2.2.2 bt7.2.1 bt7.2.2.1 bt7.2.2.2.1 bt7.2.2.2.2.1 bt7.2.2.2.2.2).bind fun t40 => (if t40 = true then ((laws_heldPairS.f k bt28.2 1).bind fun t42 => (if t42 < 0 then (some false) else ((laws_heldTask.f k bt10.2.1 bt29.2.1 bt29.2.2.1 bt29.2.2.2 bt10.2.2.2.2.2 t42).bind fun t44 => (if t44 < 0 then (some false) else (if t44 = bt29.1 then (some true) else (some false)))))) else (some false))) else (some false)))))) else (some false)))))))) else (some false))) else (some false)))))) else (some false)))) else (some false)))) else (some false))) else (some false))))))))))))
set_option maxHeartbeats 4000000 in
set_option maxRecDepth 100000 in
theorem laws_FnExactJoinChunk.ok (k : Nat) (a0_0 : Int) (l0_1 : List S64) (Al0_1 : Option Addr) (cl0_1 : Nat) (l0_2 : List S64) (Al0_2 : Option Addr) (cl0_2 : Nat) (l0_3 : List Bool) (Al0_3 : Option Addr) (cl0_3 : Nat) (a0_4 : Int) (l1 : List S64) (Al1 : Option Addr) (cl1 : Nat) (r0 : Bool) (H : laws_FnExactJoinChunk.f k a0_0 l0_1 l0_2 l0_3 a0_4 l1 = some r0) : Fn Try.prog 14 [.agg #[.int .i64 a0_0, .slice Al0_1 l0_1.length cl0_1, .slice Al0_2 l0_2.length cl0_2, .slice Al0_3 l0_3.length cl0_3, .int .i64 a0_4], .slice Al1 l1.length cl1] [] [.sl 0 k64 Al0_1 cl0_1 l0_1 0 false, .sl 0 k64 Al0_2 cl0_2 l0_2 0 false, .sl 0 .bool Al0_3 cl0_3 l0_3 0 false, .sl 0 k64 Al1 cl1 l1 0 false] (fun v bx en => v = .bool r0 ∧ bx = [] ∧ en = []) := by
 refine fn_ 135 Try.func14 rfl rfl rfl (fun base T w0 => ?_)
 rw [laws_FnExactJoinChunk.f] at H
 refine gs (rg (so rfl (op_box (cs := [.int .i64 a0_0, .slice Al0_1 l0_1.length cl0_1, .slice Al0_2 l0_2.length cl0_2, .slice Al0_3 l0_3.length cl0_3, .int .i64 a0_4]) rfl rfl rfl fun b2 => (sv (EV.as rfl) rfl (re (gs (rg (sv (EV.as rfl) rfl (re (gs (rg (sv (EV.ld (v := .agg #[.int .i64 a0_0, .slice Al0_1 l0_1.length cl0_1, .slice Al0_2 l0_2.length cl0_2, .slice Al0_3 l0_3.length cl0_3, .int .i64 a0_4]) 0 (some 5) rfl rfl rfl) rfl (sv (EV.mv rfl) rfl ?_)))))))))))))
 revert H; refine bdI ?_; rintro t1 A1 H
 refine so rfl (op_call (laws_szTask.ok a0_0 l0_1 Al0_1 cl0_1 l0_2 Al0_2 cl0_2 l0_3 Al0_3 cl0_3 a0_4 1048576 _ A1) [⟨0, 0, 0, false⟩, ⟨1, 0, 0, false⟩, ⟨2, 0, 0, false⟩] 1 rfl rfl rfl rfl rfl ?_)
 rintro _ _ _ ⟨rfl, rfl, rfl⟩
 refine sv (EV.as rfl) rfl (re (gs (gs (rg (sv (EV.mv rfl) rfl (sv (EV.lss rfl rfl) rfl (re (pr [1, 2, 5, 21] [0] [0, 1, 2, 3] rfl rfl rfl rfl ?_))))))))
 revert H; refine ifsI ?_ ?_ <;> intro c2 H
 ·
  refine gt rfl (dT c2) (gs (rg (sv (EV.as rfl) rfl (re ?_))))
  cases H
  exact rt Try.func14 rfl (.tmp rfl .nil) rfl [] [] rfl rfl rfl rfl rfl ⟨rfl, rfl, rfl⟩
 ·
  refine gf rfl (dF c2) (gk (gs (rg (sv (EV.mv rfl) rfl (sv (EV.mv rfl) rfl ?_)))))
  revert H; refine bdI ?_; rintro t3 A3 H
  refine so rfl (op_call (laws_szRowS.ok l1 Al1 cl1 t1 _ A3) [⟨3, 0, 0, false⟩] 1 rfl rfl rfl rfl rfl ?_)
  rintro _ _ _ ⟨rfl, rfl, rfl⟩
  refine sv (EV.as rfl) rfl (re (gs (gs (rg (sv (EV.mv rfl) rfl (sv (EV.lss rfl rfl) rfl (re (pr [1, 2, 26] [0] [0, 1, 2, 3] rfl rfl rfl rfl ?_))))))))
  revert H; refine ifsI ?_ ?_ <;> intro c4 H
  ·
   refine gt rfl (dT c4) (gs (rg (sv (EV.as rfl) rfl (re ?_))))
   cases H
   exact rt Try.func14 rfl (.tmp rfl .nil) rfl [] [] rfl rfl rfl rfl rfl ⟨rfl, rfl, rfl⟩
  ·
   refine gf rfl (dF c4) (gk (gs (rg (sv (EV.ld (v := .agg #[.int .i64 a0_0, .slice Al0_1 l0_1.length cl0_1, .slice Al0_2 l0_2.length cl0_2, .slice Al0_3 l0_3.length cl0_3, .int .i64 a0_4]) 0 (some 5) rfl rfl rfl) rfl ?_))))
   revert H; refine bdI ?_; rintro ⟨t5_0, t5_1, t5_2, t5_3, t5_4⟩ A5 H
   refine so rfl (op_call (laws_toTask.ok k a0_0 l0_1 Al0_1 cl0_1 l0_2 Al0_2 cl0_2 l0_3 Al0_3 cl0_3 a0_4 _ _ _ _ _ A5) [⟨0, 0, 0, false⟩, ⟨1, 0, 0, false⟩, ⟨2, 0, 0, false⟩] 1 rfl rfl rfl rfl rfl ?_)
   rintro _ _ _ ⟨At5_1, ct5_1, At5_2, ct5_2, At5_3, ct5_3, rfl, rfl, rfl⟩
   refine sv (EV.mv rfl) rfl ?_
   revert H; refine bdI ?_; rintro t6 A6 H
   refine so rfl (op_call (laws_toRowS.ok k l1 Al1 cl1 _ A6) [⟨3, 0, 0, false⟩] 5 rfl rfl rfl rfl rfl ?_)
   rintro _ _ _ ⟨At6, ct6, rfl, rfl, rfl⟩
   revert H; refine bdI ?_; rintro ⟨t7_0, t7_1, t7_2, t7_3, t7_4, t7_5⟩ A7 H
   refine so rfl (op_call (spec_JoinChunk.ok k t5_0 t5_1 At5_1 ct5_1 t5_2 At5_2 ct5_2 t5_3 At5_3 ct5_3 t5_4 t6 At6 ct6 _ _ _ _ _ _ A7) [⟨4, 0, 0, false⟩, ⟨5, 0, 0, false⟩, ⟨6, 0, 0, false⟩, ⟨7, 0, 0, false⟩] 7 rfl rfl rfl rfl rfl ?_)
   rintro _ _ _ ⟨At7_0, ct7_0, At7_2, ct7_2, At7_3, ct7_3, At7_4, ct7_4, rfl, rfl, rfl⟩
   refine sv (EV.mv rfl) rfl (sv (EV.ex rfl rfl) rfl (sv (EV.ex rfl rfl) rfl (so rfl (op_alloc (cs := [.int .i64 0, .slice none 0 0, .slice none 0 0, .slice none 0 0, .int .i64 0]) (by kernel_rfl) rfl fun b7 => (sv (EV.as rfl) rfl (so rfl (op_st (cs' := [.int .i64 t7_1, .slice At7_2 t7_2.length ct7_2, .slice At7_3 t7_3.length ct7_3, .slice At7_4 t7_4.length ct7_4, .int .i64 t7_5]) 1 rfl rfl rfl rfl rfl rfl (re (pr [1, 2, 6, 7] [0, 1] [0, 1, 2, 3, 8, 9, 10, 11] rfl rfl rfl rfl (gs (rg (sv (EV.ld (v := .agg #[.int .i64 a0_0, .slice Al0_1 l0_1.length cl0_1, .slice Al0_2 l0_2.length cl0_2, .slice Al0_3 l0_3.length cl0_3, .int .i64 a0_4]) 0 (some 5) rfl rfl rfl) rfl ?_))))))))))))
   revert H; refine bdI ?_; rintro ⟨t8_0, t8_1, t8_2, t8_3, t8_4⟩ A8 H
   refine so rfl (op_call (laws_toTask.ok k a0_0 l0_1 Al0_1 cl0_1 l0_2 Al0_2 cl0_2 l0_3 Al0_3 cl0_3 a0_4 _ _ _ _ _ A8) [⟨0, 0, 0, false⟩, ⟨1, 0, 0, false⟩, ⟨2, 0, 0, false⟩] 12 rfl rfl rfl rfl rfl ?_)
   rintro _ _ _ ⟨At8_1, ct8_1, At8_2, ct8_2, At8_3, ct8_3, rfl, rfl, rfl⟩
   refine so rfl (op_alloc (cs := [.int .i64 0, .slice none 0 0, .slice none 0 0, .slice none 0 0, .int .i64 0]) (by kernel_rfl) rfl fun b8 => (so rfl (op_st (cs' := [.int .i64 t8_0, .slice At8_1 t8_1.length ct8_1, .slice At8_2 t8_2.length ct8_2, .slice At8_3 t8_3.length ct8_3, .int .i64 t8_4]) 2 rfl rfl rfl rfl rfl rfl (re (gs (rg (sv (EV.mv rfl) rfl ?_)))))))
   revert H; refine bdI ?_; rintro t9 A9 H
   refine so rfl (op_call (laws_toRowS.ok k l1 Al1 cl1 _ A9) [⟨3, 0, 0, false⟩] 16 rfl rfl rfl rfl rfl ?_)
   rintro _ _ _ ⟨At9, ct9, rfl, rfl, rfl⟩
   refine sv (EV.as rfl) rfl (re (gs (rg (sv (EV.ld (v := .agg #[.int .i64 t8_0, .slice At8_1 t8_1.length ct8_1, .slice At8_2 t8_2.length ct8_2, .slice At8_3 t8_3.length ct8_3, .int .i64 t8_4]) 2 (some 5) rfl rfl rfl) rfl (sv (EV.mv rfl) rfl ?_)))))
   revert H; refine bdI ?_; rintro ⟨t10_0, t10_1, t10_2, t10_3, t10_4, t10_5⟩ A10 H
   refine so rfl (op_call (impl_JoinChunk.ok k t8_0 t8_1 At8_1 ct8_1 t8_2 At8_2 ct8_2 t8_3 At8_3 ct8_3 t8_4 t9 At9 ct9 _ _ _ _ _ _ A10) [⟨8, 0, 0, false⟩, ⟨9, 0, 0, false⟩, ⟨10, 0, 0, false⟩, ⟨11, 0, 0, false⟩] 18 rfl rfl rfl rfl rfl ?_)
   rintro _ _ _ ⟨At10_0, ct10_0, At10_2, ct10_2, At10_3, ct10_3, At10_4, ct10_4, rfl, rfl, rfl⟩
   refine sv (EV.mv rfl) rfl (sv (EV.ex rfl rfl) rfl (sv (EV.ex rfl rfl) rfl (so rfl (op_alloc (cs := [.int .i64 0, .slice none 0 0, .slice none 0 0, .slice none 0 0, .int .i64 0]) (by kernel_rfl) rfl fun b11 => (sv (EV.as rfl) rfl (so rfl (op_st (cs' := [.int .i64 t10_1, .slice At10_2 t10_2.length ct10_2, .slice At10_3 t10_3.length ct10_3, .slice At10_4 t10_4.length ct10_4, .int .i64 t10_5]) 3 rfl rfl rfl rfl rfl rfl (re (pr [1, 2, 6, 7, 8, 9, 10, 11] [0, 1, 2, 3] [0, 1, 2, 3, 4, 5, 6, 7, 8, 9, 10, 11, 12, 13, 14, 15] rfl rfl rfl rfl (gs (gs (rg (sv (EV.mv rfl) rfl (sv (EV.mv rfl) rfl ?_))))))))))))))
   revert H; refine bdI ?_; rintro t11 A11 H
   refine so rfl (op_call (laws_eqPairS.ok k t10_0 At10_0 ct10_0 t7_0 At7_0 ct7_0 _ A11) [⟨12, 0, 0, false⟩, ⟨4, 0, 0, false⟩] 23 rfl rfl rfl rfl rfl ?_)
   rintro _ _ _ ⟨rfl, rfl, rfl⟩
   refine sv (EV.nt rfl) rfl (sv (EV.mv rfl) rfl ?_)
   revert H; refine ifsI ?_ ?_ <;> intro c12 H
   ·
    subst c12
    refine ts 49 rfl rfl (sv (EV.ld (v := .agg #[.int .i64 t10_1, .slice At10_2 t10_2.length ct10_2, .slice At10_3 t10_3.length ct10_3, .slice At10_4 t10_4.length ct10_4, .int .i64 t10_5]) 3 (some 5) rfl rfl rfl) rfl (sv (EV.ld (v := .agg #[.int .i64 t7_1, .slice At7_2 t7_2.length ct7_2, .slice At7_3 t7_3.length ct7_3, .slice At7_4 t7_4.length ct7_4, .int .i64 t7_5]) 1 (some 5) rfl rfl rfl) rfl ?_))
    revert H; refine bdI ?_; rintro t13 A13 H
    refine so rfl (op_call (laws_eqTask.ok k t10_1 t10_2 At10_2 ct10_2 t10_3 At10_3 ct10_3 t10_4 At10_4 ct10_4 t10_5 t7_1 t7_2 At7_2 ct7_2 t7_3 At7_3 ct7_3 t7_4 At7_4 ct7_4 t7_5 _ A13) [⟨13, 0, 0, false⟩, ⟨14, 0, 0, false⟩, ⟨15, 0, 0, false⟩, ⟨5, 0, 0, false⟩, ⟨6, 0, 0, false⟩, ⟨7, 0, 0, false⟩] 23 rfl rfl rfl rfl rfl ?_)
    rintro _ _ _ ⟨rfl, rfl, rfl⟩
    refine sv (EV.nt rfl) rfl (sv (EV.pf rfl rfl rfl) rfl (re (pr [1, 2, 6, 7, 8, 9, 10, 11, 54] [0, 1, 2, 3] [0, 1, 2, 3, 4, 5, 6, 7, 8, 9, 10, 11, 12, 13, 14, 15] rfl rfl rfl rfl ?_)))
    revert H; refine ifsI ?_ ?_ <;> intro c14 H
    ·
     subst c14
     refine gf rfl rfl (gk (gs (gs (dr [0, 1, 2, 3] [0, 1, 2, 3, 4, 5, 6, 7, 8, 9, 10, 11, 12, 13, 14, 15] [] 5 rfl rfl rfl rfl (xv 0 [0, 1, 2, 3] [0, 1, 2, 3, 4, 5, 6, 7, 8, 9, 10, 11, 12, 13, 14, 15] rfl (EV.ld (v := .agg #[.int .i64 t8_0, .slice At8_1 t8_1.length ct8_1, .slice At8_2 t8_2.length ct8_2, .slice At8_3 t8_3.length ct8_3, .int .i64 t8_4]) 2 (some 5) rfl rfl rfl) rfl rfl rfl rfl (xv 1 [0, 1, 2, 3] [0, 1, 2, 3, 4, 5, 6, 7, 8, 9, 10, 11, 12, 13, 14, 15] rfl (EV.ld (v := .agg #[.int .i64 a0_0, .slice Al0_1 l0_1.length cl0_1, .slice Al0_2 l0_2.length cl0_2, .slice Al0_3 l0_3.length cl0_3, .int .i64 a0_4]) 0 (some 5) rfl rfl rfl) rfl rfl rfl rfl (one1 2 rfl rfl ?_)))))))
     revert H; refine bdI ?_; rintro ⟨t15_0, t15_1, t15_2, t15_3, t15_4⟩ A15 H
     refine op_call (laws_toTask.ok k a0_0 l0_1 Al0_1 cl0_1 l0_2 Al0_2 cl0_2 l0_3 Al0_3 cl0_3 a0_4 _ _ _ _ _ A15) [⟨0, 0, 0, false⟩, ⟨1, 0, 0, false⟩, ⟨2, 0, 0, false⟩] 23 rfl rfl rfl rfl rfl ?_
     rintro _ _ _ ⟨At15_1, ct15_1, At15_2, ct15_2, At15_3, ct15_3, rfl, rfl, rfl⟩
     refine xs [0, 1, 2, 3] [0, 1, 2, 3, 4, 5, 6, 7, 8, 9, 10, 11, 12, 13, 14, 15] rfl rfl rfl (one1 3 rfl rfl ?_)
     revert H; refine bdI ?_; rintro t16 A16 H
     refine op_call (laws_eqTask.ok k t8_0 t8_1 At8_1 ct8_1 t8_2 At8_2 ct8_2 t8_3 At8_3 ct8_3 t8_4 t15_0 t15_1 At15_1 ct15_1 t15_2 At15_2 ct15_2 t15_3 At15_3 ct15_3 t15_4 _ A16) [⟨8, 0, 0, false⟩, ⟨9, 0, 0, false⟩, ⟨10, 0, 0, false⟩, ⟨16, 0, 0, false⟩, ⟨17, 0, 0, false⟩, ⟨18, 0, 0, false⟩] 27 rfl rfl rfl rfl rfl ?_
     rintro _ _ _ ⟨rfl, rfl, rfl⟩
     refine xs [0, 1, 2, 3] [0, 1, 2, 3, 4, 5, 6, 7, 8, 9, 10, 11, 12, 13, 14, 15] rfl rfl rfl (xv 4 [0, 1, 2, 3] [0, 1, 2, 3, 4, 5, 6, 7, 8, 9, 10, 11, 12, 13, 14, 15] rfl (EV.nt rfl) rfl rfl rfl rfl (xd ?_))
     revert H; refine ifsI ?_ ?_ <;> intro c17 H
     ·
      subst c17
      refine gf rfl rfl (gk (gs (gs (rg (sv (EV.mv rfl) rfl (sv (EV.mv rfl) rfl ?_))))))
      revert H; refine bdI ?_; rintro t18 A18 H
      refine so rfl (op_call (laws_toRowS.ok k l1 Al1 cl1 _ A18) [⟨3, 0, 0, false⟩] 27 rfl rfl rfl rfl rfl ?_)
      rintro _ _ _ ⟨At18, ct18, rfl, rfl, rfl⟩
      revert H; refine bdI ?_; rintro t19 A19 H
      refine so rfl (op_call (laws_eqRowS.ok k t9 At9 ct9 t18 At18 ct18 _ A19) [⟨11, 0, 0, false⟩, ⟨19, 0, 0, false⟩] 29 rfl rfl rfl rfl rfl ?_)
      rintro _ _ _ ⟨rfl, rfl, rfl⟩
      refine sv (EV.nt rfl) rfl (re (pr [1, 2, 6, 7, 8, 9, 10, 11, 64] [0, 1, 2, 3] [0, 1, 2, 3, 4, 5, 6, 7, 8, 9, 10, 11, 12, 13, 14, 15] rfl rfl rfl rfl ?_))
      revert H; refine ifsI ?_ ?_ <;> intro c20 H
      ·
       subst c20
       refine gf rfl rfl (gk (gs (rg (sv (EV.as rfl) rfl (re (gs (rg (sv (EV.ld (v := .agg #[.int .i64 t8_0, .slice At8_1 t8_1.length ct8_1, .slice At8_2 t8_2.length ct8_2, .slice At8_3 t8_3.length ct8_3, .int .i64 t8_4]) 2 (some 5) rfl rfl rfl) rfl (sv (EV.mv rfl) rfl ?_)))))))))
       revert H; refine bdI ?_; rintro ⟨t21_0, t21_1, t21_2, t21_3⟩ A21 H
       refine so rfl (op_callM (laws_markTask.ok k t8_0 t8_1 At8_1 ct8_1 t8_2 At8_2 ct8_2 t8_3 At8_3 ct8_3 t8_4 1 _ _ _ _ A21) [⟨8, 1, 1, false⟩, ⟨9, 1, 2, false⟩, ⟨10, 1, 3, false⟩] [] [0, 1, 2, 3] 23 rfl rfl rfl rfl rfl rfl rfl rfl ?_)
       rintro _ _ _ ⟨rfl, rfl, rfl, q21_0, q21_1, q21_2⟩
       refine rlT 65 (v' := .agg #[.int .i64 t8_0, .slice At8_1 t21_1.length ct8_1, .slice At8_2 t8_2.length ct8_2, .slice At8_3 t8_3.length ct8_3, .int .i64 t8_4]) rfl (by simp only [q21_0]) (rlB 2 (cs' := [.int .i64 t8_0, .slice At8_1 t21_1.length ct8_1, .slice At8_2 t8_2.length ct8_2, .slice At8_3 t8_3.length ct8_3, .int .i64 t8_4]) rfl (by simp only [q21_0]) (rlT 65 (v' := .agg #[.int .i64 t8_0, .slice At8_1 t21_1.length ct8_1, .slice At8_2 t21_2.length ct8_2, .slice At8_3 t8_3.length ct8_3, .int .i64 t8_4]) rfl (by simp only [q21_1]) (rlB 2 (cs' := [.int .i64 t8_0, .slice At8_1 t21_1.length ct8_1, .slice At8_2 t21_2.length ct8_2, .slice At8_3 t8_3.length ct8_3, .int .i64 t8_4]) rfl (by simp only [q21_1]) (rlT 65 (v' := .agg #[.int .i64 t8_0, .slice At8_1 t21_1.length ct8_1, .slice At8_2 t21_2.length ct8_2, .slice At8_3 t21_3.length ct8_3, .int .i64 t8_4]) rfl (by simp only [q21_2]) (rlB 2 (cs' := [.int .i64 t8_0, .slice At8_1 t21_1.length ct8_1, .slice At8_2 t21_2.length ct8_2, .slice At8_3 t21_3.length ct8_3, .int .i64 t8_4]) rfl (by simp only [q21_2]) (nmE (en := [.sl 0 k64 Al0_1 cl0_1 l0_1 0 false, .sl 0 k64 Al0_2 cl0_2 l0_2 0 false, .sl 0 .bool Al0_3 cl0_3 l0_3 0 false, .sl 0 k64 Al1 cl1 l1 0 false, .sl 2 k75 At7_0 ct7_0 t7_0 8 true, .sl 2 k62 At7_2 ct7_2 t7_2 9 true, .sl 2 k62 At7_3 ct7_3 t7_3 10 true, .sl 2 .bool At7_4 ct7_4 t7_4 11 true, .sl 2 k62 At9 ct9 t9 17 true, .sl 2 k75 At10_0 ct10_0 t10_0 19 true, .sl 2 k62 At10_2 ct10_2 t10_2 20 true, .sl 2 k62 At10_3 ct10_3 t10_3 21 true, .sl 2 .bool At10_4 ct10_4 t10_4 22 true, .sl 1 k62 At8_1 ct8_1 t21_1 24 false, .sl 1 k62 At8_2 ct8_2 t21_2 25 false, .sl 1 .bool At8_3 ct8_3 t21_3 26 false]) (by kernel_rfl) (sv (EV.as rfl) rfl (re (gs (rg (sv (EV.mv rfl) rfl (sv (EV.mv rfl) rfl ?_))))))))))))
       revert H; refine bdI ?_; rintro ⟨t22_0, t22_1⟩ A22 H
       refine so rfl (op_callM (laws_markRowS.ok k t9 At9 ct9 t21_0 _ _ A22) [⟨8, 1, 1, false⟩] [] [0, 1, 2, 3] 27 rfl rfl rfl rfl rfl rfl rfl rfl ?_)
       rintro _ _ _ ⟨rfl, rfl, rfl, q22_0⟩
       refine rlT 9 (v' := .slice At9 t22_1.length ct9) rfl (slq _ _ q22_0) (rlT 68 (v' := .slice At9 t22_1.length ct9) rfl (slq _ _ q22_0) (nmE (en := [.sl 0 k64 Al0_1 cl0_1 l0_1 0 false, .sl 0 k64 Al0_2 cl0_2 l0_2 0 false, .sl 0 .bool Al0_3 cl0_3 l0_3 0 false, .sl 0 k64 Al1 cl1 l1 0 false, .sl 2 k75 At7_0 ct7_0 t7_0 8 true, .sl 2 k62 At7_2 ct7_2 t7_2 9 true, .sl 2 k62 At7_3 ct7_3 t7_3 10 true, .sl 2 .bool At7_4 ct7_4 t7_4 11 true, .sl 2 k75 At10_0 ct10_0 t10_0 19 true, .sl 2 k62 At10_2 ct10_2 t10_2 20 true, .sl 2 k62 At10_3 ct10_3 t10_3 21 true, .sl 2 .bool At10_4 ct10_4 t10_4 22 true, .sl 1 k62 At8_1 ct8_1 t21_1 24 false, .sl 1 k62 At8_2 ct8_2 t21_2 25 false, .sl 1 .bool At8_3 ct8_3 t21_3 26 false, .sl 1 k62 At9 ct9 t22_1 28 false]) (by kernel_rfl) (sv (EV.as rfl) rfl (re (pr [1, 2, 6, 7, 10, 11, 12] [0, 1, 3] [0, 1, 2, 3, 4, 5, 6, 7, 8, 9, 10, 11] rfl rfl rfl rfl (gs (gs (rg (sv (EV.mv rfl) rfl (sv (EV.lss rfl rfl) rfl (sv (EV.mv rfl) rfl ?_)))))))))))
       revert H; refine ifsI ?_ ?_ <;> intro c23 H
       ·
        refine ts 73 rfl (dT c23) (sk rfl (sk rfl (sk rfl (sk rfl (sv (EV.pt rfl rfl rfl) rfl (sv (EV.mv rfl) rfl (sk rfl (sk rfl (sk rfl (sk rfl (sv (EV.pt rfl rfl rfl) rfl (re (pr [1, 2, 6, 7, 10, 11, 84] [0, 1, 2] [0, 1, 2, 3, 4, 5, 6, 7, 8, 9, 10, 11] rfl rfl rfl rfl (gt rfl rfl (gs (rg (sv (EV.as rfl) rfl (re (pr [4] [] [] rfl rfl rfl rfl ?_)))))))))))))))))))
        cases H
        exact rt Try.func14 rfl (.tmp rfl .nil) rfl [] [] rfl rfl rfl rfl rfl ⟨rfl, rfl, rfl⟩
       ·
        refine ts 73 rfl (dF c23) (sv (EV.mv rfl) rfl (sv (EV.mv rfl) rfl ?_))
        revert H; refine bdI ?_; rintro t24 A24 H
        refine so rfl (op_call (laws_eqPairS.ok k t10_0 At10_0 ct10_0 t7_0 At7_0 ct7_0 _ A24) [⟨8, 0, 0, false⟩, ⟨4, 0, 0, false⟩] 23 rfl rfl rfl rfl rfl ?_)
        rintro _ _ _ ⟨rfl, rfl, rfl⟩
        refine sv (EV.nt rfl) rfl (sv (EV.pf rfl rfl rfl) rfl (sv (EV.mv rfl) rfl ?_))
        revert H; refine ifsI ?_ ?_ <;> intro c25 H
        ·
         subst c25
         refine ts 79 rfl rfl (sv (EV.ld (v := .agg #[.int .i64 t10_1, .slice At10_2 t10_2.length ct10_2, .slice At10_3 t10_3.length ct10_3, .slice At10_4 t10_4.length ct10_4, .int .i64 t10_5]) 2 (some 5) rfl rfl rfl) rfl (sv (EV.ld (v := .agg #[.int .i64 t7_1, .slice At7_2 t7_2.length ct7_2, .slice At7_3 t7_3.length ct7_3, .slice At7_4 t7_4.length ct7_4, .int .i64 t7_5]) 1 (some 5) rfl rfl rfl) rfl ?_))
         revert H; refine bdI ?_; rintro t26 A26 H
         refine so rfl (op_call (laws_eqTask.ok k t10_1 t10_2 At10_2 ct10_2 t10_3 At10_3 ct10_3 t10_4 At10_4 ct10_4 t10_5 t7_1 t7_2 At7_2 ct7_2 t7_3 At7_3 ct7_3 t7_4 At7_4 ct7_4 t7_5 _ A26) [⟨9, 0, 0, false⟩, ⟨10, 0, 0, false⟩, ⟨11, 0, 0, false⟩, ⟨5, 0, 0, false⟩, ⟨6, 0, 0, false⟩, ⟨7, 0, 0, false⟩] 23 rfl rfl rfl rfl rfl ?_)
         rintro _ _ _ ⟨rfl, rfl, rfl⟩
         refine sv (EV.nt rfl) rfl (sv (EV.pf rfl rfl rfl) rfl (re (pr [1, 2, 6, 7, 10, 11, 84] [0, 1, 2] [0, 1, 2, 3, 4, 5, 6, 7, 8, 9, 10, 11] rfl rfl rfl rfl ?_)))
         revert H; refine ifsI ?_ ?_ <;> intro c27 H
         ·
          subst c27
          refine gf rfl rfl (gk (gs (rg (sv (EV.as rfl) rfl (re (gs (rg (sv (EV.mv rfl) rfl (sv (EV.mv rfl) rfl ?_)))))))))
          revert H; refine bdI ?_; rintro ⟨t28_0, t28_1⟩ A28 H
          refine so rfl (op_callM (laws_markPairS.ok k t10_0 At10_0 ct10_0 1 _ _ A28) [⟨8, 1, 1, false⟩] [] [0, 1, 2] 23 rfl rfl rfl rfl rfl rfl rfl rfl ?_)
          rintro _ _ _ ⟨rfl, rfl, rfl, q28_0⟩
          refine rlT 10 (v' := .slice At10_0 t28_1.length ct10_0) rfl (slq _ _ q28_0) (rlT 85 (v' := .slice At10_0 t28_1.length ct10_0) rfl (slq _ _ q28_0) (nmE (en := [.sl 0 k64 Al0_1 cl0_1 l0_1 0 false, .sl 0 k64 Al0_2 cl0_2 l0_2 0 false, .sl 0 .bool Al0_3 cl0_3 l0_3 0 false, .sl 0 k64 Al1 cl1 l1 0 false, .sl 2 k75 At7_0 ct7_0 t7_0 8 true, .sl 2 k62 At7_2 ct7_2 t7_2 9 true, .sl 2 k62 At7_3 ct7_3 t7_3 10 true, .sl 2 .bool At7_4 ct7_4 t7_4 11 true, .sl 2 k62 At10_2 ct10_2 t10_2 20 true, .sl 2 k62 At10_3 ct10_3 t10_3 21 true, .sl 2 .bool At10_4 ct10_4 t10_4 22 true, .sl 1 k75 At10_0 ct10_0 t28_1 24 false]) (by kernel_rfl) (sv (EV.as rfl) rfl (re (gs (rg (sv (EV.ld (v := .agg #[.int .i64 t10_1, .slice At10_2 t10_2.length ct10_2, .slice At10_3 t10_3.length ct10_3, .slice At10_4 t10_4.length ct10_4, .int .i64 t10_5]) 2 (some 5) rfl rfl rfl) rfl (sv (EV.mv rfl) rfl ?_))))))))
          revert H; refine bdI ?_; rintro ⟨t29_0, t29_1, t29_2, t29_3⟩ A29 H
          refine so rfl (op_callM (laws_markTask.ok k t10_1 t10_2 At10_2 ct10_2 t10_3 At10_3 ct10_3 t10_4 At10_4 ct10_4 t10_5 t28_0 _ _ _ _ A29) [⟨8, 1, 1, false⟩, ⟨9, 1, 2, false⟩, ⟨10, 1, 3, false⟩] [] [0, 1, 2] 25 rfl rfl rfl rfl rfl rfl rfl rfl ?_)
          rintro _ _ _ ⟨rfl, rfl, rfl, q29_0, q29_1, q29_2⟩
          refine rlT 88 (v' := .agg #[.int .i64 t10_1, .slice At10_2 t29_1.length ct10_2, .slice At10_3 t10_3.length ct10_3, .slice At10_4 t10_4.length ct10_4, .int .i64 t10_5]) rfl (by simp only [q29_0]) (rlB 2 (cs' := [.int .i64 t10_1, .slice At10_2 t29_1.length ct10_2, .slice At10_3 t10_3.length ct10_3, .slice At10_4 t10_4.length ct10_4, .int .i64 t10_5]) rfl (by simp only [q29_0]) (rlT 88 (v' := .agg #[.int .i64 t10_1, .slice At10_2 t29_1.length ct10_2, .slice At10_3 t29_2.length ct10_3, .slice At10_4 t10_4.length ct10_4, .int .i64 t10_5]) rfl (by simp only [q29_1]) (rlB 2 (cs' := [.int .i64 t10_1, .slice At10_2 t29_1.length ct10_2, .slice At10_3 t29_2.length ct10_3, .slice At10_4 t10_4.length ct10_4, .int .i64 t10_5]) rfl (by simp only [q29_1]) (rlT 88 (v' := .agg #[.int .i64 t10_1, .slice At10_2 t29_1.length ct10_2, .slice At10_3 t29_2.length ct10_3, .slice At10_4 t29_3.length ct10_4, .int .i64 t10_5]) rfl (by simp only [q29_2]) (rlB 2 (cs' := [.int .i64 t10_1, .slice At10_2 t29_1.length ct10_2, .slice At10_3 t29_2.length ct10_3, .slice At10_4 t29_3.length ct10_4, .int .i64 t10_5]) rfl (by simp only [q29_2]) (nmE (en := [.sl 0 k64 Al0_1 cl0_1 l0_1 0 false, .sl 0 k64 Al0_2 cl0_2 l0_2 0 false, .sl 0 .bool Al0_3 cl0_3 l0_3 0 false, .sl 0 k64 Al1 cl1 l1 0 false, .sl 2 k75 At7_0 ct7_0 t7_0 8 true, .sl 2 k62 At7_2 ct7_2 t7_2 9 true, .sl 2 k62 At7_3 ct7_3 t7_3 10 true, .sl 2 .bool At7_4 ct7_4 t7_4 11 true, .sl 1 k75 At10_0 ct10_0 t28_1 24 false, .sl 1 k62 At10_2 ct10_2 t29_1 26 false, .sl 1 k62 At10_3 ct10_3 t29_2 27 false, .sl 1 .bool At10_4 ct10_4 t29_3 28 false]) (by kernel_rfl) (sv (EV.as rfl) rfl (re (pr [1, 2, 6, 7, 10, 11, 13] [0, 1, 2] [0, 1, 2, 3, 4, 5, 6, 7, 8, 9, 10, 11] rfl rfl rfl rfl (gs (rg (sv (EV.as rfl) rfl (re (gs (rg (sv (EV.mv rfl) rfl (sv (EV.mv rfl) rfl ?_)))))))))))))))))
          revert H; refine bdI ?_; rintro t30 A30 H
          refine so rfl (op_call (laws_heldPairS.ok k t28_1 At10_0 ct10_0 1 _ A30) [⟨8, 0, 0, false⟩] 29 rfl rfl rfl rfl rfl ?_)
          rintro _ _ _ ⟨rfl, rfl, rfl⟩
          refine sv (EV.as rfl) rfl (re (gs (gs (rg (sv (EV.mv rfl) rfl (sv (EV.lss rfl rfl) rfl (re ?_)))))))
          revert H; refine ifsI ?_ ?_ <;> intro c31 H
          ·
           refine gt rfl (dT c31) (gs (rg (sv (EV.as rfl) rfl (re (pr [4] [] [] rfl rfl rfl rfl ?_)))))
           cases H
           exact rt Try.func14 rfl (.tmp rfl .nil) rfl [] [] rfl rfl rfl rfl rfl ⟨rfl, rfl, rfl⟩
          ·
           refine gf rfl (dF c31) (gk (gs (rg (sv (EV.ld (v := .agg #[.int .i64 t10_1, .slice At10_2 t29_1.length ct10_2, .slice At10_3 t29_2.length ct10_3, .slice At10_4 t29_3.length ct10_4, .int .i64 t10_5]) 2 (some 5) rfl rfl rfl) rfl (sv (EV.mv rfl) rfl ?_)))))
           revert H; refine bdI ?_; rintro t32 A32 H
           refine so rfl (op_call (laws_heldTask.ok k t10_1 t29_1 At10_2 ct10_2 t29_2 At10_3 ct10_3 t29_3 At10_4 ct10_4 t10_5 t30 _ A32) [⟨9, 0, 0, false⟩, ⟨10, 0, 0, false⟩, ⟨11, 0, 0, false⟩] 29 rfl rfl rfl rfl rfl ?_)
           rintro _ _ _ ⟨rfl, rfl, rfl⟩
           refine sv (EV.as rfl) rfl (re (pr [1, 2, 6, 7, 10, 11, 13, 14] [0, 1, 2] [0, 1, 2, 3, 4, 5, 6, 7, 8, 9, 10, 11] rfl rfl rfl rfl (gs (gs (rg (sv (EV.mv rfl) rfl (sv (EV.lss rfl rfl) rfl (re ?_))))))))
           revert H; refine ifsI ?_ ?_ <;> intro c33 H
           ·
            refine gt rfl (dT c33) (gs (rg (sv (EV.as rfl) rfl (re (pr [4] [] [] rfl rfl rfl rfl ?_)))))
            cases H
            exact rt Try.func14 rfl (.tmp rfl .nil) rfl [] [] rfl rfl rfl rfl rfl ⟨rfl, rfl, rfl⟩
           ·
            refine gf rfl (dF c33) (gk (gs (gs (rg (sv (EV.mv rfl) rfl (sv (EV.mv rfl) rfl (sv (EV.neq rfl rfl) rfl (re ?_))))))))
            revert H; refine ifsI ?_ ?_ <;> intro c34 H
            ·
             refine gf rfl (nF c34) (gk (gs (rg (sv (EV.ld (v := .agg #[.int .i64 a0_0, .slice Al0_1 l0_1.length cl0_1, .slice Al0_2 l0_2.length cl0_2, .slice Al0_3 l0_3.length cl0_3, .int .i64 a0_4]) 0 (some 5) rfl rfl rfl) rfl ?_))))
             revert H; refine bdI ?_; rintro ⟨t35_0, t35_1, t35_2, t35_3, t35_4⟩ A35 H
             refine so rfl (op_call (laws_toTask.ok k a0_0 l0_1 Al0_1 cl0_1 l0_2 Al0_2 cl0_2 l0_3 Al0_3 cl0_3 a0_4 _ _ _ _ _ A35) [⟨0, 0, 0, false⟩, ⟨1, 0, 0, false⟩, ⟨2, 0, 0, false⟩] 29 rfl rfl rfl rfl rfl ?_)
             rintro _ _ _ ⟨At35_1, ct35_1, At35_2, ct35_2, At35_3, ct35_3, rfl, rfl, rfl⟩
             refine sv (EV.mv rfl) rfl ?_
             revert H; refine bdI ?_; rintro t36 A36 H
             refine so rfl (op_call (laws_toRowS.ok k l1 Al1 cl1 _ A36) [⟨3, 0, 0, false⟩] 33 rfl rfl rfl rfl rfl ?_)
             rintro _ _ _ ⟨At36, ct36, rfl, rfl, rfl⟩
             revert H; refine bdI ?_; rintro ⟨t37_0, t37_1, t37_2, t37_3, t37_4, t37_5⟩ A37 H
             refine so rfl (op_call (impl_JoinChunk.ok k t35_0 t35_1 At35_1 ct35_1 t35_2 At35_2 ct35_2 t35_3 At35_3 ct35_3 t35_4 t36 At36 ct36 _ _ _ _ _ _ A37) [⟨12, 0, 0, false⟩, ⟨13, 0, 0, false⟩, ⟨14, 0, 0, false⟩, ⟨15, 0, 0, false⟩] 35 rfl rfl rfl rfl rfl ?_)
             rintro _ _ _ ⟨At37_0, ct37_0, At37_2, ct37_2, At37_3, ct37_3, At37_4, ct37_4, rfl, rfl, rfl⟩
             refine sv (EV.mv rfl) rfl (sv (EV.ex rfl rfl) rfl (sv (EV.ex rfl rfl) rfl (so rfl (op_alloc (cs := [.int .i64 0, .slice none 0 0, .slice none 0 0, .slice none 0 0, .int .i64 0]) (by kernel_rfl) rfl fun b16 => (sv (EV.as rfl) rfl (so rfl (op_st (cs' := [.int .i64 t37_1, .slice At37_2 t37_2.length ct37_2, .slice At37_3 t37_3.length ct37_3, .slice At37_4 t37_4.length ct37_4, .int .i64 t37_5]) 3 rfl rfl rfl rfl rfl rfl (re (pr [6, 7, 10, 11, 13, 15, 16] [1, 2, 3] [4, 5, 6, 7, 8, 9, 10, 11, 16, 17, 18, 19] rfl rfl rfl rfl (gs (gs (rg (sv (EV.mv rfl) rfl (sv (EV.mv rfl) rfl ?_))))))))))))))
             revert H; refine bdI ?_; rintro t38 A38 H
             refine so rfl (op_call (laws_eqPairS.ok k t37_0 At37_0 ct37_0 t7_0 At7_0 ct7_0 _ A38) [⟨8, 0, 0, false⟩, ⟨0, 0, 0, false⟩] 40 rfl rfl rfl rfl rfl ?_)
             rintro _ _ _ ⟨rfl, rfl, rfl⟩
             refine sv (EV.nt rfl) rfl (sv (EV.mv rfl) rfl ?_)
             revert H; refine ifsI ?_ ?_ <;> intro c39 H
             ·
              subst c39
              refine ts 116 rfl rfl (sv (EV.ld (v := .agg #[.int .i64 t37_1, .slice At37_2 t37_2.length ct37_2, .slice At37_3 t37_3.length ct37_3, .slice At37_4 t37_4.length ct37_4, .int .i64 t37_5]) 2 (some 5) rfl rfl rfl) rfl (sv (EV.ld (v := .agg #[.int .i64 t7_1, .slice At7_2 t7_2.length ct7_2, .slice At7_3 t7_3.length ct7_3, .slice At7_4 t7_4.length ct7_4, .int .i64 t7_5]) 0 (some 5) rfl rfl rfl) rfl ?_))
              revert H; refine bdI ?_; rintro t40 A40 H
              refine so rfl (op_call (laws_eqTask.ok k t37_1 t37_2 At37_2 ct37_2 t37_3 At37_3 ct37_3 t37_4 At37_4 ct37_4 t37_5 t7_1 t7_2 At7_2 ct7_2 t7_3 At7_3 ct7_3 t7_4 At7_4 ct7_4 t7_5 _ A40) [⟨9, 0, 0, false⟩, ⟨10, 0, 0, false⟩, ⟨11, 0, 0, false⟩, ⟨1, 0, 0, false⟩, ⟨2, 0, 0, false⟩, ⟨3, 0, 0, false⟩] 40 rfl rfl rfl rfl rfl ?_)
              rintro _ _ _ ⟨rfl, rfl, rfl⟩
              refine sv (EV.nt rfl) rfl (sv (EV.pf rfl rfl rfl) rfl (re (pr [10, 11, 13, 121] [1] [4, 5, 6, 7] rfl rfl rfl rfl ?_)))
              revert H; refine ifsI ?_ ?_ <;> intro c41 H
              ·
               subst c41
               refine gf rfl rfl (gk (gs (rg (sv (EV.as rfl) rfl (re (gs (rg (sv (EV.mv rfl) rfl (sv (EV.mv rfl) rfl ?_)))))))))
               revert H; refine bdI ?_; rintro t42 A42 H
               refine so rfl (op_call (laws_heldPairS.ok k t28_1 At10_0 ct10_0 1 _ A42) [⟨0, 0, 0, false⟩] 29 rfl rfl rfl rfl rfl ?_)
               rintro _ _ _ ⟨rfl, rfl, rfl⟩
               refine sv (EV.as rfl) rfl (re (gs (gs (rg (sv (EV.mv rfl) rfl (sv (EV.lss rfl rfl) rfl (re (pr [11, 13, 14, 126] [0] [1, 2, 3] rfl rfl rfl rfl ?_))))))))
               revert H; refine ifsI ?_ ?_ <;> intro c43 H
               ·
                refine gt rfl (dT c43) (gs (rg (sv (EV.as rfl) rfl (re ?_))))
                cases H
                exact rt Try.func14 rfl (.tmp rfl .nil) rfl [] [] rfl rfl rfl rfl rfl ⟨rfl, rfl, rfl⟩
               ·
                refine gf rfl (dF c43) (gk (gs (rg (sv (EV.ld (v := .agg #[.int .i64 t10_1, .slice At10_2 t29_1.length ct10_2, .slice At10_3 t29_2.length ct10_3, .slice At10_4 t29_3.length ct10_4, .int .i64 t10_5]) 0 (some 5) rfl rfl rfl) rfl (sv (EV.mv rfl) rfl ?_)))))
                revert H; refine bdI ?_; rintro t44 A44 H
                refine so rfl (op_call (laws_heldTask.ok k t10_1 t29_1 At10_2 ct10_2 t29_2 At10_3 ct10_3 t29_3 At10_4 ct10_4 t10_5 t42 _ A44) [⟨0, 0, 0, false⟩, ⟨1, 0, 0, false⟩, ⟨2, 0, 0, false⟩] 29 rfl rfl rfl rfl rfl ?_)
                rintro _ _ _ ⟨rfl, rfl, rfl⟩
                refine sv (EV.as rfl) rfl (re (gs (gs (rg (sv (EV.mv rfl) rfl (sv (EV.lss rfl rfl) rfl (re (pr [13, 14, 131] [] [] rfl rfl rfl rfl ?_))))))))
                revert H; refine ifsI ?_ ?_ <;> intro c45 H
                ·
                 refine gt rfl (dT c45) (gs (rg (sv (EV.as rfl) rfl (re ?_))))
                 cases H
                 exact rt Try.func14 rfl (.tmp rfl .nil) rfl [] [] rfl rfl rfl rfl rfl ⟨rfl, rfl, rfl⟩
                ·
                 refine gf rfl (dF c45) (gk (gs (gs (rg (sv (EV.mv rfl) rfl (sv (EV.mv rfl) rfl (sv (EV.neq rfl rfl) rfl (re ?_))))))))
                 revert H; refine ifsI ?_ ?_ <;> intro c46 H
                 ·
                  refine gf rfl (nF c46) (gk (gs (rg (sv (EV.as rfl) rfl (re (pr [4] [] [] rfl rfl rfl rfl ?_))))))
                  cases H
                  exact rt Try.func14 rfl (.tmp rfl .nil) rfl [] [] rfl rfl rfl rfl rfl ⟨rfl, rfl, rfl⟩
                 ·
                  refine gt rfl (nT c46) (gs (rg (sv (EV.as rfl) rfl (re (pr [4] [] [] rfl rfl rfl rfl ?_)))))
                  cases H
                  exact rt Try.func14 rfl (.tmp rfl .nil) rfl [] [] rfl rfl rfl rfl rfl ⟨rfl, rfl, rfl⟩
              ·
               obtain rfl := bF c41
               refine gt rfl rfl (gs (rg (sv (EV.as rfl) rfl (re ?_))))
               cases H
               exact rt Try.func14 rfl (.tmp rfl .nil) rfl [] [] rfl rfl rfl rfl rfl ⟨rfl, rfl, rfl⟩
             ·
              obtain rfl := bF c39
              refine ts 116 rfl rfl (sk rfl (sk rfl (sk rfl (sk rfl (sv (EV.pt rfl rfl rfl) rfl (re (pr [10, 11, 13, 121] [1] [4, 5, 6, 7] rfl rfl rfl rfl (gt rfl rfl (gs (rg (sv (EV.as rfl) rfl (re ?_))))))))))))
              cases H
              exact rt Try.func14 rfl (.tmp rfl .nil) rfl [] [] rfl rfl rfl rfl rfl ⟨rfl, rfl, rfl⟩
            ·
             refine gt rfl (nT c34) (gs (rg (sv (EV.as rfl) rfl (re (pr [4] [] [] rfl rfl rfl rfl ?_)))))
             cases H
             exact rt Try.func14 rfl (.tmp rfl .nil) rfl [] [] rfl rfl rfl rfl rfl ⟨rfl, rfl, rfl⟩
         ·
          obtain rfl := bF c27
          refine gt rfl rfl (gs (rg (sv (EV.as rfl) rfl (re (pr [4] [] [] rfl rfl rfl rfl ?_)))))
          cases H
          exact rt Try.func14 rfl (.tmp rfl .nil) rfl [] [] rfl rfl rfl rfl rfl ⟨rfl, rfl, rfl⟩
        ·
         obtain rfl := bF c25
         refine ts 79 rfl rfl (sk rfl (sk rfl (sk rfl (sk rfl (sv (EV.pt rfl rfl rfl) rfl (re (pr [1, 2, 6, 7, 10, 11, 84] [0, 1, 2] [0, 1, 2, 3, 4, 5, 6, 7, 8, 9, 10, 11] rfl rfl rfl rfl (gt rfl rfl (gs (rg (sv (EV.as rfl) rfl (re (pr [4] [] [] rfl rfl rfl rfl ?_)))))))))))))
         cases H
         exact rt Try.func14 rfl (.tmp rfl .nil) rfl [] [] rfl rfl rfl rfl rfl ⟨rfl, rfl, rfl⟩
      ·
       obtain rfl := bF c20
       refine gt rfl rfl (gs (rg (sv (EV.as rfl) rfl (re (pr [4] [] [] rfl rfl rfl rfl ?_)))))
       cases H
       exact rt Try.func14 rfl (.tmp rfl .nil) rfl [] [] rfl rfl rfl rfl rfl ⟨rfl, rfl, rfl⟩
     ·
      obtain rfl := bF c17
      refine gt rfl rfl (gs (rg (sv (EV.as rfl) rfl (re (pr [4] [] [] rfl rfl rfl rfl ?_)))))
      cases H
      exact rt Try.func14 rfl (.tmp rfl .nil) rfl [] [] rfl rfl rfl rfl rfl ⟨rfl, rfl, rfl⟩
    ·
     obtain rfl := bF c14
     refine gt rfl rfl (gs (rg (sv (EV.as rfl) rfl (re (pr [4] [] [] rfl rfl rfl rfl ?_)))))
     cases H
     exact rt Try.func14 rfl (.tmp rfl .nil) rfl [] [] rfl rfl rfl rfl rfl ⟨rfl, rfl, rfl⟩
   ·
    obtain rfl := bF c12
    refine ts 49 rfl rfl (sk rfl (sk rfl (sk rfl (sk rfl (sv (EV.pt rfl rfl rfl) rfl (re (pr [1, 2, 6, 7, 8, 9, 10, 11, 54] [0, 1, 2, 3] [0, 1, 2, 3, 4, 5, 6, 7, 8, 9, 10, 11, 12, 13, 14, 15] rfl rfl rfl rfl (gt rfl rfl (gs (rg (sv (EV.as rfl) rfl (re (pr [4] [] [] rfl rfl rfl rfl ?_)))))))))))))
    cases H
    exact rt Try.func14 rfl (.tmp rfl .nil) rfl [] [] rfl rfl rfl rfl rfl ⟨rfl, rfl, rfl⟩
end Go.Proofs.Ythciieopabndcaa.K
