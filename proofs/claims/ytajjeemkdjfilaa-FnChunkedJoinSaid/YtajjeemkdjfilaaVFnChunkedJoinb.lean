/- Walks: what the functions compute. Printed by gen.py; no condition. -/
import Derived.Test.YtajjeemkdjfilaaVFnChunkedJoina
namespace Go.Proofs.Ytajjeemkdjfilaa.K
open Go Go.RowKit
set_option linter.unusedVariables false
set_option linter.unusedSimpArgs false
def spec_l7One.l0 : Nat → Int → (List S92) → Int → Int → Int → Int → Int → (List S70) → Option ((List S92))
 | 0, _, _, _, _, _, _, _, _ => none
 | k + 1, x2_0, x2_7, x2_8, x2_9, x2_4_0, x2_4_1, x2_4_2, l2 => if x2_9 < (l2.length : Int) then (if 0 ≤ x2_9 then (if ((rd_T70 l2 x2_9).f0) = x2_4_0 then (if x2_7.length < 2513169434916 then (spec_l7One.l0 k x2_0 (x2_7 ++ ([(⟨(⟨x2_4_0, x2_4_1, x2_4_2⟩ : S70), (⟨(rd_T70 l2 x2_9).f0, (rd_T70 l2 x2_9).f1, (rd_T70 l2 x2_9).f2⟩ : S70), true⟩ : S92)] : List S92)) x2_8 (wrap64 (x2_9 + 1)) x2_4_0 x2_4_1 x2_4_2 l2) else none) else (spec_l7One.l0 k x2_0 x2_7 x2_8 (wrap64 (x2_9 + 1)) x2_4_0 x2_4_1 x2_4_2 l2)) else none) else (if x2_8 = 0 then (if x2_0 = 4 then (if x2_7.length < 2513169434916 then (some (x2_7 ++ ([(⟨(⟨x2_4_0, x2_4_1, x2_4_2⟩ : S70), (⟨0, 0, 0⟩ : S70), false⟩ : S92)] : List S92))) else none) else (some x2_7)) else (some x2_7))
def spec_l7One.f (k : Nat) (a0 : Int) (a1_0 : Int) (a1_1 : Int) (a1_2 : Int) (l2 : List S70) : Option ((List S92)) := (spec_CountMatches.f k a1_0 a1_1 a1_2 l2).bind fun t2 => (if a0 = 2 then (if t2 > 0 then (if ([] : List S92).length < 2513169434916 then (some ([(⟨(⟨a1_0, a1_1, a1_2⟩ : S70), (⟨0, 0, 0⟩ : S70), false⟩ : S92)] : List S92)) else none) else (some [])) else (if a0 = 3 then (if t2 = 0 then (if ([] : List S92).length < 2513169434916 then (some ([(⟨(⟨a1_0, a1_1, a1_2⟩ : S70), (⟨0, 0, 0⟩ : S70), false⟩ : S92)] : List S92)) else none) else (some [])) else (spec_l7One.l0 k a0 [] t2 0 a1_0 a1_1 a1_2 l2)))
set_option maxHeartbeats 4000000 in
set_option maxRecDepth 100000 in
theorem spec_l7One.ok (k : Nat) (a0 : Int) (a1_0 : Int) (a1_1 : Int) (a1_2 : Int) (l2 : List S70) (Al2 : Option Addr) (cl2 : Nat) (r0 : List S92) (H : spec_l7One.f k a0 a1_0 a1_1 a1_2 l2 = some r0) : Fn Try.prog 74 [.int .i64 a0, .agg #[.int .i64 a1_0, .int .i64 a1_1, .int .i64 a1_2], .slice Al2 l2.length cl2] [] [.sl 0 k70 Al2 cl2 l2 0 false] (fun v bx en => ∃ A0 c0, v = .slice A0 r0.length c0 ∧ bx = [] ∧ en = [.sl 2 k92 A0 c0 r0 1 true]) := by
 refine fn_ 70 Try.func74 rfl rfl rfl (fun base T w0 => ?_)
 rw [spec_l7One.f] at H
 refine gs (rg (so rfl (op_box (cs := [.int .i64 a1_0, .int .i64 a1_1, .int .i64 a1_2]) rfl rfl rfl fun b4 => (sv (EV.as rfl) rfl (re (gs (rg (so rfl (op_lit (s := 7) (by_ := 56) k92 ([] : List S92) [] [] 1 [] rfl rfl rfl rfl rfl rfl rfl rfl rfl rfl rfl rfl rfl dq rfl fun A10_1 c10_1 => (sv (EV.as rfl) rfl (re (gs (rg (sv (EV.ld (v := .agg #[.int .i64 a1_0, .int .i64 a1_1, .int .i64 a1_2]) 0 (some 3) rfl rfl rfl) rfl (sv (EV.mv rfl) rfl ?_)))))))))))))))
 revert H; refine bdI ?_; rintro t2 A2 H
 refine so rfl (op_call (spec_CountMatches.ok k a1_0 a1_1 a1_2 l2 Al2 cl2 _ A2) [⟨0, 0, 0, false⟩] 2 rfl rfl rfl rfl rfl ?_)
 rintro _ _ _ ⟨rfl, rfl, rfl⟩
 refine sv (EV.as rfl) rfl (re (pr [0, 2, 4, 7, 8] [0] [0, 1] rfl rfl rfl rfl (gs (gs (rg (sv (EV.mv rfl) rfl (re (gb (gs (rg (sv (EV.eql rfl rfl) rfl (sv (EV.as rfl) rfl (re ?_)))))))))))))
 revert H; refine ifsI ?_ ?_ <;> intro c3 H
 ·
  refine gt rfl (dT c3) (gs (gs (rg (sv (EV.mv rfl) rfl (sv (EV.gtr rfl rfl) rfl (re (pr [4, 7, 18] [0] [1] rfl rfl rfl rfl ?_)))))))
  revert H; refine ifsI ?_ ?_ <;> intro c4 H
  ·
   refine gt rfl (dT c4) (rg (sv (EV.mv rfl) rfl (sv (EV.ld (v := .agg #[.int .i64 a1_0, .int .i64 a1_1, .int .i64 a1_2]) 0 (some 3) rfl rfl rfl) rfl (sv (EV.bd (v := .agg #[.int .i64 a1_0, .int .i64 a1_1, .int .i64 a1_2, .int .i64 0, .int .i64 0, .int .i64 0, .bool false]) rfl (by kernel_rfl)) rfl (so rfl (op_lit (s := 7) (by_ := 56) k92 ([(⟨(⟨a1_0, a1_1, a1_2⟩ : S70), (⟨0, 0, 0⟩ : S70), false⟩ : S92)] : List S92) [[]] [] 2 [.tmp 21] rfl rfl rfl rfl rfl rfl rfl rfl rfl rfl rfl rfl rfl dq rfl fun A22_5 c22_5 => ?_))))))
   revert H; refine ggI ?_; intro g6 H
   refine so rfl (op_app (k := k92) (s := 7) (by_ := 56) 0 1 rfl rfl rfl rfl (ap1 g6 dq) (ap1n g6 dq) (.inl rfl) true (fun _ => .inl rfl) rfl rfl fun A23_7 c23_7 => (nmE (en := [.sl 2 k92 A22_5 c22_5 ([(⟨(⟨a1_0, a1_1, a1_2⟩ : S70), (⟨0, 0, 0⟩ : S70), false⟩ : S92)] : List S92) 2 true, .sl 2 k92 A23_7 c23_7 ([(⟨(⟨a1_0, a1_1, a1_2⟩ : S70), (⟨0, 0, 0⟩ : S70), false⟩ : S92)] : List S92) 1 true]) (by kernel_rfl) (sv (EV.as rfl) rfl (re (pr [7] [] [1] rfl rfl rfl rfl (gs (rg (sv (EV.mv rfl) rfl (sv (EV.as rfl) rfl (re ?_))))))))))
   cases H
   exact rt Try.func74 rfl (.tmp rfl .nil) rfl [] [⟨0, 2, 1, true⟩] rfl rfl rfl rfl rfl ⟨_, _, rfl, rfl, rfl⟩
  ·
   refine gf rfl (dF c4) (gk (gs (rg (sv (EV.mv rfl) rfl (sv (EV.as rfl) rfl (re ?_))))))
   cases H
   exact rt Try.func74 rfl (.tmp rfl .nil) rfl [] [⟨0, 2, 1, true⟩] rfl rfl rfl rfl rfl ⟨_, _, rfl, rfl, rfl⟩
 ·
  refine gf rfl (dF c3) (gs (rg (sv (EV.eql rfl rfl) rfl (sv (EV.as rfl) rfl (re ?_)))))
  revert H; refine ifsI ?_ ?_ <;> intro c8 H
  ·
   refine gt rfl (dT c8) (gs (gs (rg (sv (EV.mv rfl) rfl (sv (EV.eql rfl rfl) rfl (re (pr [4, 7, 28] [0] [1] rfl rfl rfl rfl ?_)))))))
   revert H; refine ifsI ?_ ?_ <;> intro c9 H
   ·
    refine gt rfl (dT c9) (rg (sv (EV.mv rfl) rfl (sv (EV.ld (v := .agg #[.int .i64 a1_0, .int .i64 a1_1, .int .i64 a1_2]) 0 (some 3) rfl rfl rfl) rfl (sv (EV.bd (v := .agg #[.int .i64 a1_0, .int .i64 a1_1, .int .i64 a1_2, .int .i64 0, .int .i64 0, .int .i64 0, .bool false]) rfl (by kernel_rfl)) rfl (so rfl (op_lit (s := 7) (by_ := 56) k92 ([(⟨(⟨a1_0, a1_1, a1_2⟩ : S70), (⟨0, 0, 0⟩ : S70), false⟩ : S92)] : List S92) [[]] [] 2 [.tmp 31] rfl rfl rfl rfl rfl rfl rfl rfl rfl rfl rfl rfl rfl dq rfl fun A32_10 c32_10 => ?_))))))
    revert H; refine ggI ?_; intro g11 H
    refine so rfl (op_app (k := k92) (s := 7) (by_ := 56) 0 1 rfl rfl rfl rfl (ap1 g11 dq) (ap1n g11 dq) (.inl rfl) true (fun _ => .inl rfl) rfl rfl fun A33_12 c33_12 => (nmE (en := [.sl 2 k92 A32_10 c32_10 ([(⟨(⟨a1_0, a1_1, a1_2⟩ : S70), (⟨0, 0, 0⟩ : S70), false⟩ : S92)] : List S92) 2 true, .sl 2 k92 A33_12 c33_12 ([(⟨(⟨a1_0, a1_1, a1_2⟩ : S70), (⟨0, 0, 0⟩ : S70), false⟩ : S92)] : List S92) 1 true]) (by kernel_rfl) (sv (EV.as rfl) rfl (re (pr [7] [] [1] rfl rfl rfl rfl (gs (rg (sv (EV.mv rfl) rfl (sv (EV.as rfl) rfl (re ?_))))))))))
    cases H
    exact rt Try.func74 rfl (.tmp rfl .nil) rfl [] [⟨0, 2, 1, true⟩] rfl rfl rfl rfl rfl ⟨_, _, rfl, rfl, rfl⟩
   ·
    refine gf rfl (dF c9) (gk (gs (rg (sv (EV.mv rfl) rfl (sv (EV.as rfl) rfl (re ?_))))))
    cases H
    exact rt Try.func74 rfl (.tmp rfl .nil) rfl [] [⟨0, 2, 1, true⟩] rfl rfl rfl rfl rfl ⟨_, _, rfl, rfl, rfl⟩
  ·
   refine gf rfl (dF c8) (gk (ge (gs (gs (rg (sv (EV.as rfl) rfl (re (gb ?_))))))))
   refine lo (fun kk S => ∃ (x2_0 : Int) (x2_7 : List S92) (Ax2_7 : Option Addr) (cx2_7 : Nat) (x2_8 : Int) (x2_9 : Int) (x2_4_0 : Int) (x2_4_1 : Int) (x2_4_2 : Int), spec_l7One.l0 kk x2_0 x2_7 x2_8 x2_9 x2_4_0 x2_4_1 x2_4_2 l2 = some r0 ∧ S = ⟨[(0, .int .i64 x2_0), (2, .slice Al2 l2.length cl2), (4, .pointer (some ⟨b4, 0, none⟩)), (7, .slice Ax2_7 x2_7.length cx2_7), (8, .int .i64 x2_8), (9, .int .i64 x2_9)], [⟨b4, 70, [.int .i64 x2_4_0, .int .i64 x2_4_1, .int .i64 x2_4_2]⟩], [.sl 2 k92 Ax2_7 cx2_7 x2_7 1 true, .sl 0 k70 Al2 cl2 l2 0 false]⟩) (fun S hS => ?_) (fun n0 ih0 S hS => ?_) ⟨a0, [], A10_1, c10_1, t2, 0, a1_0, a1_1, a1_2, H, rfl⟩ (fun h => wk [0, 2, 4, 7, 8, 9] [0] [⟨1, 2, 1, true⟩, ⟨0, 0, 0, false⟩] h)
   · clear H; obtain ⟨_, _, _, _, _, _, _, _, _, H, _⟩ := hS; rw [spec_l7One.l0] at H; cases H
   clear H
   obtain ⟨x2_0, x2_7, Ax2_7, cx2_7, x2_8, x2_9, x2_4_0, x2_4_1, x2_4_2, H, rfl⟩ := hS
   rw [spec_l7One.l0] at H
   refine gs (gs (rg (sv (EV.mv rfl) rfl (sv (EV.mv rfl) rfl (sv (EV.ln rfl) rfl (sv (EV.lss rfl rfl) rfl (re ?_)))))))
   revert H; refine ifsI ?_ ?_ <;> intro c13 H
   ·
    refine gt rfl (dT c13) (gk (gs (gb (gs ?_))))
    revert H; refine ggI ?_; intro g14 H
    refine dr [0] [0, 1] [] 8 rfl rfl rfl rfl (xv 0 [0] [0, 1] rfl (EV.mv rfl) rfl rfl rfl rfl (xv 1 [0] [0, 1] rfl (EV.mv rfl) rfl rfl rfl rfl (xv 2 [0] [0, 1] rfl (EV.ix 1 rfl rfl rfl g14 c13 rfl) rfl rfl rfl rfl (xv 3 [0] [0, 1] rfl (EV.fa 0 rfl) rfl rfl rfl rfl (xv 4 [0] [0, 1] rfl (EV.le (v := .int .i64 ((rd_T70 l2 x2_9).f0)) x2_9 0 none 1 z70 rfl rfl rfl g14 c13 rfl rfl rfl) rfl rfl rfl rfl (xv 5 [0] [0, 1] rfl (EV.fa 0 rfl) rfl rfl rfl rfl (xv 6 [0] [0, 1] rfl (EV.ld 0 none rfl rfl rfl) rfl rfl rfl rfl (xv 7 [0] [0, 1] rfl (EV.eql rfl rfl) rfl rfl rfl rfl (xd (pr [0, 2, 4, 7, 8, 9, 48] [0] [0, 1] rfl rfl rfl rfl ?_))))))))))
    revert H; refine ifsI ?_ ?_ <;> intro c15 H
    ·
     refine gt rfl (dT c15) ?_
     revert H; refine ggI ?_; intro g16 H
     exact dr [0] [1] [9] 10 rfl rfl rfl rfl (xv 0 [0] [1] rfl (EV.mv rfl) rfl rfl rfl rfl (xv 1 [0] [1] rfl (EV.ld (v := .agg #[.int .i64 x2_4_0, .int .i64 x2_4_1, .int .i64 x2_4_2]) 0 (some 3) rfl rfl rfl) rfl rfl rfl rfl (xv 2 [0] [1] rfl (EV.mv rfl) rfl rfl rfl rfl (xv 3 [0] [1] rfl (EV.mv rfl) rfl rfl rfl rfl (xv 4 [0] [1] rfl (EV.ix 0 rfl rfl rfl g14 c13 rfl) rfl rfl rfl rfl (xv 5 [0] [1] rfl (EV.le (v := .agg #[.int .i64 ((rd_T70 l2 x2_9).f0), .int .i64 ((rd_T70 l2 x2_9).f1), .int .i64 ((rd_T70 l2 x2_9).f2)]) x2_9 0 (some 3) 0 z70 rfl rfl rfl g14 c13 rfl rfl rfl) rfl rfl rfl rfl (xv 6 [0] [1] rfl (EV.bd (v := .agg #[.int .i64 x2_4_0, .int .i64 x2_4_1, .int .i64 x2_4_2, .int .i64 ((rd_T70 l2 x2_9).f0), .int .i64 ((rd_T70 l2 x2_9).f1), .int .i64 ((rd_T70 l2 x2_9).f2), .bool true]) rfl (by kernel_rfl)) rfl rfl rfl rfl (one1 7 rfl rfl (op_lit (s := 7) (by_ := 56) k92 ([(⟨(⟨x2_4_0, x2_4_1, x2_4_2⟩ : S70), (⟨(rd_T70 l2 x2_9).f0, (rd_T70 l2 x2_9).f1, (rd_T70 l2 x2_9).f2⟩ : S70), true⟩ : S92)] : List S92) [[]] [] 2 [.tmp 55] rfl rfl rfl rfl rfl rfl rfl rfl rfl rfl rfl rfl rfl dq rfl fun A56_17 c56_17 => (xs [0] [1] rfl rfl rfl (one1 8 rfl rfl (op_app (k := k92) (s := 7) (by_ := 56) 0 2 rfl rfl rfl rfl (ap1 g16 dq) (ap1n g16 dq) (.inl rfl) true (fun _ => .inl rfl) rfl rfl fun A57_18 c57_18 => (nmE (en := [.sl 0 k70 Al2 cl2 l2 0 false, .sl 2 k92 A56_17 c56_17 ([(⟨(⟨x2_4_0, x2_4_1, x2_4_2⟩ : S70), (⟨(rd_T70 l2 x2_9).f0, (rd_T70 l2 x2_9).f1, (rd_T70 l2 x2_9).f2⟩ : S70), true⟩ : S92)] : List S92) 2 true, .sl 2 k92 A57_18 c57_18 (x2_7 ++ ([(⟨(⟨x2_4_0, x2_4_1, x2_4_2⟩ : S70), (⟨(rd_T70 l2 x2_9).f0, (rd_T70 l2 x2_9).f1, (rd_T70 l2 x2_9).f2⟩ : S70), true⟩ : S92)] : List S92)) 1 true]) (by kernel_rfl) (xs [0] [0] rfl rfl rfl (one1 9 rfl rfl (ov (EV.as rfl) rfl (xn rfl (xd (pr [0, 2, 4, 7, 8, 9] [0] [0, 2] rfl rfl rfl rfl (ge (rg (sv (EV.mv rfl) rfl (sv (EV.add rfl rfl) rfl (sv (EV.as rfl) rfl (re (wk [0, 2, 4, 7, 8, 9] [0] [⟨1, 2, 1, true⟩, ⟨0, 0, 0, false⟩] (ih0 _ (by omega) _ ⟨x2_0, x2_7 ++ ([(⟨(⟨x2_4_0, x2_4_1, x2_4_2⟩ : S70), (⟨(rd_T70 l2 x2_9).f0, (rd_T70 l2 x2_9).f1, (rd_T70 l2 x2_9).f2⟩ : S70), true⟩ : S92)] : List S92), A57_18, c57_18, x2_8, wrap64 (x2_9 + 1), x2_4_0, x2_4_1, x2_4_2, H, rfl⟩)))))))))))))))))))))))))))
    ·
     exact gf rfl (dF c15) (gk (ge (rg (sv (EV.mv rfl) rfl (sv (EV.add rfl rfl) rfl (sv (EV.as rfl) rfl (re (wk [0, 2, 4, 7, 8, 9] [0] [⟨0, 2, 1, true⟩, ⟨1, 0, 0, false⟩] (ih0 _ (by omega) _ ⟨x2_0, x2_7, Ax2_7, cx2_7, x2_8, wrap64 (x2_9 + 1), x2_4_0, x2_4_1, x2_4_2, H, rfl⟩)))))))))
   ·
    refine gf rfl (dF c13) (gx rfl (gs (gs (rg (sv (EV.mv rfl) rfl (sv (EV.eql rfl rfl) rfl (sv (EV.mv rfl) rfl ?_)))))))
    revert H; refine ifsI ?_ ?_ <;> intro c19 H
    ·
     refine ts 60 rfl (dT c19) (sv (EV.mv rfl) rfl (sv (EV.eql rfl rfl) rfl (sv (EV.pt rfl rfl rfl) rfl (re (pr [4, 7, 63] [0] [0] rfl rfl rfl rfl ?_)))))
     revert H; refine ifsI ?_ ?_ <;> intro c20 H
     ·
      refine gt rfl (dT c20) (rg (sv (EV.mv rfl) rfl (sv (EV.ld (v := .agg #[.int .i64 x2_4_0, .int .i64 x2_4_1, .int .i64 x2_4_2]) 0 (some 3) rfl rfl rfl) rfl (sv (EV.bd (v := .agg #[.int .i64 x2_4_0, .int .i64 x2_4_1, .int .i64 x2_4_2, .int .i64 0, .int .i64 0, .int .i64 0, .bool false]) rfl (by kernel_rfl)) rfl (so rfl (op_lit (s := 7) (by_ := 56) k92 ([(⟨(⟨x2_4_0, x2_4_1, x2_4_2⟩ : S70), (⟨0, 0, 0⟩ : S70), false⟩ : S92)] : List S92) [[]] [] 2 [.tmp 66] rfl rfl rfl rfl rfl rfl rfl rfl rfl rfl rfl rfl rfl dq rfl fun A67_21 c67_21 => ?_))))))
      revert H; refine ggI ?_; intro g22 H
      refine so rfl (op_app (k := k92) (s := 7) (by_ := 56) 0 1 rfl rfl rfl rfl (ap1 g22 dq) (ap1n g22 dq) (.inl rfl) true (fun _ => .inl rfl) rfl rfl fun A68_23 c68_23 => (nmE (en := [.sl 2 k92 A67_21 c67_21 ([(⟨(⟨x2_4_0, x2_4_1, x2_4_2⟩ : S70), (⟨0, 0, 0⟩ : S70), false⟩ : S92)] : List S92) 2 true, .sl 2 k92 A68_23 c68_23 (x2_7 ++ ([(⟨(⟨x2_4_0, x2_4_1, x2_4_2⟩ : S70), (⟨0, 0, 0⟩ : S70), false⟩ : S92)] : List S92)) 1 true]) (by kernel_rfl) (sv (EV.as rfl) rfl (re (pr [7] [] [1] rfl rfl rfl rfl (gs (rg (sv (EV.mv rfl) rfl (sv (EV.as rfl) rfl (re ?_))))))))))
      cases H
      exact rt Try.func74 rfl (.tmp rfl .nil) rfl [] [⟨0, 2, 1, true⟩] rfl rfl rfl rfl rfl ⟨_, _, rfl, rfl, rfl⟩
     ·
      refine gf rfl (dF c20) (gk (gs (rg (sv (EV.mv rfl) rfl (sv (EV.as rfl) rfl (re ?_))))))
      cases H
      exact rt Try.func74 rfl (.tmp rfl .nil) rfl [] [⟨0, 2, 1, true⟩] rfl rfl rfl rfl rfl ⟨_, _, rfl, rfl, rfl⟩
    ·
     refine ts 60 rfl (dF c19) (sk rfl (sk rfl (sv (EV.pf rfl rfl rfl) rfl (re (pr [4, 7, 63] [0] [0] rfl rfl rfl rfl (gf rfl rfl (gk (gs (rg (sv (EV.mv rfl) rfl (sv (EV.as rfl) rfl (re ?_))))))))))))
     cases H
     exact rt Try.func74 rfl (.tmp rfl .nil) rfl [] [⟨0, 2, 1, true⟩] rfl rfl rfl rfl rfl ⟨_, _, rfl, rfl, rfl⟩
end Go.Proofs.Ytajjeemkdjfilaa.K
namespace Go.Proofs.Ytajjeemkdjfilaa.K
open Go Go.RowKit
set_option linter.unusedVariables false
set_option linter.unusedSimpArgs false
def spec_l16Copy.f (a0_0 : Int) (l0_1 : List S70) (l0_2 : List S70) (l0_3 : List Bool) (a0_4 : Int) : Option (Int × (List S70) × (List S70) × (List Bool) × Int) := if l0_1.length ≤ 5864062014805 then (if l0_2.length ≤ 5864062014805 then (if l0_3.length ≤ 140737488355328 then (some (a0_0, l0_1, l0_2, l0_3, a0_4)) else none) else none) else none
set_option maxHeartbeats 4000000 in
set_option maxRecDepth 100000 in
theorem spec_l16Copy.ok (a0_0 : Int) (l0_1 : List S70) (Al0_1 : Option Addr) (cl0_1 : Nat) (l0_2 : List S70) (Al0_2 : Option Addr) (cl0_2 : Nat) (l0_3 : List Bool) (Al0_3 : Option Addr) (cl0_3 : Nat) (a0_4 : Int) (r0 : Int) (r1 : List S70) (r2 : List S70) (r3 : List Bool) (r4 : Int) (H : spec_l16Copy.f a0_0 l0_1 l0_2 l0_3 a0_4 = some (r0, r1, r2, r3, r4)) : Fn Try.prog 80 [.agg #[.int .i64 a0_0, .slice Al0_1 l0_1.length cl0_1, .slice Al0_2 l0_2.length cl0_2, .slice Al0_3 l0_3.length cl0_3, .int .i64 a0_4]] [] [.sl 0 k70 Al0_1 cl0_1 l0_1 0 false, .sl 0 k70 Al0_2 cl0_2 l0_2 0 false, .sl 0 .bool Al0_3 cl0_3 l0_3 0 false] (fun v bx en => ∃ A1 c1 A2 c2 A3 c3, v = .agg #[.int .i64 r0, .slice A1 r1.length c1, .slice A2 r2.length c2, .slice A3 r3.length c3, .int .i64 r4] ∧ bx = [] ∧ en = [.sl 2 k70 A1 c1 r1 1 true, .sl 2 k70 A2 c2 r2 2 true, .sl 2 .bool A3 c3 r3 3 true]) := by
 refine fn_ 20 Try.func80 rfl rfl rfl (fun base T w0 => ?_)
 rw [spec_l16Copy.f] at H
 refine gs (rg (so rfl (op_box (cs := [.int .i64 a0_0, .slice Al0_1 l0_1.length cl0_1, .slice Al0_2 l0_2.length cl0_2, .slice Al0_3 l0_3.length cl0_3, .int .i64 a0_4]) rfl rfl rfl fun b1 => (so rfl (op_alloc (cs := [.int .i64 0, .slice none 0 0, .slice none 0 0, .slice none 0 0, .int .i64 0]) (by kernel_rfl) rfl fun b2 => (re (gs ?_)))))))
 revert H; refine ggI ?_; intro g1 H
 revert H; refine ggI ?_; intro g2 H
 revert H; refine ggI ?_; intro g3 H
 refine dj (fun S => ∃ (A8_5 : Option Addr) (c8_5 : Nat) (A12_7 : Option Addr) (c12_7 : Nat) (A16_9 : Option Addr) (c16_9 : Nat), S = ⟨[(2, .pointer (some ⟨b2, 0, none⟩))], [⟨b1, 44, [.int .i64 a0_0, .slice Al0_1 l0_1.length cl0_1, .slice Al0_2 l0_2.length cl0_2, .slice Al0_3 l0_3.length cl0_3, .int .i64 a0_4]⟩, ⟨b2, 44, [.int .i64 a0_0, .slice A8_5 l0_1.length c8_5, .slice A12_7 l0_2.length c12_7, .slice A16_9 l0_3.length c16_9, .int .i64 a0_4]⟩], [.sl 0 k70 Al0_1 cl0_1 l0_1 0 false, .sl 0 k70 Al0_2 cl0_2 l0_2 0 false, .sl 0 .bool Al0_3 cl0_3 l0_3 0 false, .sl 2 k70 A8_5 c8_5 l0_1 1 true, .sl 2 k70 A12_7 c12_7 l0_2 2 true, .sl 2 .bool A16_9 c16_9 l0_3 3 true]⟩) (fun S hS => ?_) (fun dj0 => ?_)
 ·
  obtain ⟨A8_5, c8_5, A12_7, c12_7, A16_9, c16_9, rfl⟩ := hS
  cases H
  exact rt Try.func80 rfl (.cell 1 (some 5) rfl rfl rfl .nil) rfl [] [⟨3, 2, 1, true⟩, ⟨4, 2, 2, true⟩, ⟨5, 2, 3, true⟩] rfl rfl rfl rfl rfl ⟨_, _, _, _, _, _, rfl, rfl, rfl⟩
 ·
  refine dr [0, 1] [0, 1, 2] [17] 18 rfl rfl rfl rfl (xv 0 [0, 1] [0, 1, 2] rfl (EV.fa 0 rfl) rfl rfl rfl rfl (xv 1 [0, 1] [0, 1, 2] rfl (EV.ld 0 none rfl rfl rfl) rfl rfl rfl rfl (xv 3 [0, 1] [0, 1, 2] rfl (EV.fa 1 rfl) rfl rfl rfl rfl (xv 4 [0, 1] [0, 1, 2] rfl (EV.ld 0 none rfl rfl rfl) rfl rfl rfl rfl (xv 7 [0, 1] [0, 1, 2] rfl (EV.fa 2 rfl) rfl rfl rfl rfl (xv 8 [0, 1] [0, 1, 2] rfl (EV.ld 0 none rfl rfl rfl) rfl rfl rfl rfl (xv 11 [0, 1] [0, 1, 2] rfl (EV.fa 3 rfl) rfl rfl rfl rfl (xv 12 [0, 1] [0, 1, 2] rfl (EV.ld 0 none rfl rfl rfl) rfl rfl rfl rfl (xv 14 [0, 1] [0, 1, 2] rfl (EV.fa 4 rfl) rfl rfl rfl rfl (xv 15 [0, 1] [0, 1, 2] rfl (EV.ld 0 none rfl rfl rfl) rfl rfl rfl rfl ?_))))))))))
  refine dl 3 #[true, true, true, true, true, true, true, true, true, true, true, true, true, false, true, true, false, false] (fun S => ∃ (A8_5 : Option Addr) (c8_5 : Nat) (A12_7 : Option Addr) (c12_7 : Nat) (A13_8 : Option Addr) (c13_8 : Nat), S = ⟨[(2, .pointer (some ⟨b2, 0, none⟩)), (4, .int .i64 a0_0), (8, .slice A8_5 l0_1.length c8_5), (12, .slice A12_7 l0_2.length c12_7), (13, .slice A13_8 0 c13_8), (15, .slice Al0_3 l0_3.length cl0_3), (18, .int .i64 a0_4)], [⟨b1, 44, [.int .i64 a0_0, .slice Al0_1 l0_1.length cl0_1, .slice Al0_2 l0_2.length cl0_2, .slice Al0_3 l0_3.length cl0_3, .int .i64 a0_4]⟩, ⟨b2, 44, [.int .i64 0, .slice none 0 0, .slice none 0 0, .slice none 0 0, .int .i64 0]⟩], [.sl 0 k70 Al0_1 cl0_1 l0_1 0 false, .sl 0 k70 Al0_2 cl0_2 l0_2 0 false, .sl 0 .bool Al0_3 cl0_3 l0_3 0 false, .sl 2 k70 A8_5 c8_5 l0_1 1 true, .sl 2 k70 A12_7 c12_7 l0_2 2 true, .sl 2 .bool A13_8 c13_8 [] 3 true]⟩) (fun S hS => ?_) (fun hn0 => ?_)
  ·
   obtain ⟨A8_5, c8_5, A12_7, c12_7, A13_8, c13_8, rfl⟩ := hS
   exact one1 13 rfl rfl (op_app (k := .bool) (s := 1) (by_ := 1) 5 2 rfl rfl rfl rfl (ap0 g3 dq) (ap0n g3 dq) (.inl rfl) true (fun _ => .inl rfl) rfl rfl fun A16_4 c16_4 => (nmE (en := [.sl 0 k70 Al0_1 cl0_1 l0_1 0 false, .sl 0 k70 Al0_2 cl0_2 l0_2 0 false, .sl 0 .bool Al0_3 cl0_3 l0_3 0 false, .sl 2 k70 A8_5 c8_5 l0_1 1 true, .sl 2 k70 A12_7 c12_7 l0_2 2 true, .sl 2 .bool A16_4 c16_4 l0_3 3 true]) (by kernel_rfl) (xs [0, 1] [0, 1, 2] rfl rfl rfl (one1 16 rfl rfl (ov (EV.bd (v := .agg #[.int .i64 a0_0, .slice A8_5 l0_1.length c8_5, .slice A12_7 l0_2.length c12_7, .slice A16_4 l0_3.length c16_4, .int .i64 a0_4]) rfl (by kernel_rfl)) rfl (xs [0, 1] [0, 1, 2] rfl rfl rfl (one1 17 rfl rfl (op_st (cs' := [.int .i64 a0_0, .slice A8_5 l0_1.length c8_5, .slice A12_7 l0_2.length c12_7, .slice A16_4 l0_3.length c16_4, .int .i64 a0_4]) 1 rfl rfl rfl rfl rfl rfl (xn rfl (xd (wk [2] [0, 1] [⟨0, 0, 0, false⟩, ⟨1, 0, 0, false⟩, ⟨2, 0, 0, false⟩, ⟨3, 2, 1, true⟩, ⟨4, 2, 2, true⟩, ⟨5, 2, 3, true⟩] (dj0 _ ⟨A8_5, c8_5, A12_7, c12_7, A16_4, c16_4, rfl⟩))))))))))))
  refine dl 4 #[true, true, true, true, true, true, true, true, true, false, true, true, true, false, true, true, false, false] (fun S => ∃ (A8_5 : Option Addr) (c8_5 : Nat) (A9_6 : Option Addr) (c9_6 : Nat) (A13_10 : Option Addr) (c13_10 : Nat), S = ⟨[(2, .pointer (some ⟨b2, 0, none⟩)), (4, .int .i64 a0_0), (8, .slice A8_5 l0_1.length c8_5), (9, .slice A9_6 0 c9_6), (11, .slice Al0_2 l0_2.length cl0_2), (13, .slice A13_10 0 c13_10), (15, .slice Al0_3 l0_3.length cl0_3), (18, .int .i64 a0_4)], [⟨b1, 44, [.int .i64 a0_0, .slice Al0_1 l0_1.length cl0_1, .slice Al0_2 l0_2.length cl0_2, .slice Al0_3 l0_3.length cl0_3, .int .i64 a0_4]⟩, ⟨b2, 44, [.int .i64 0, .slice none 0 0, .slice none 0 0, .slice none 0 0, .int .i64 0]⟩], [.sl 0 k70 Al0_1 cl0_1 l0_1 0 false, .sl 0 k70 Al0_2 cl0_2 l0_2 0 false, .sl 0 .bool Al0_3 cl0_3 l0_3 0 false, .sl 2 k70 A8_5 c8_5 l0_1 1 true, .sl 2 k70 A9_6 c9_6 [] 2 true, .sl 2 .bool A13_10 c13_10 [] 3 true]⟩) (fun S hS => ?_) (fun hn1 => ?_)
  ·
   obtain ⟨A8_5, c8_5, A9_6, c9_6, A13_10, c13_10, rfl⟩ := hS
   exact one1 9 rfl rfl (op_app (k := k70) (s := 3) (by_ := 24) 4 1 rfl rfl rfl rfl (ap0 g2 dq) (ap0n g2 dq) (.inl rfl) true (fun _ => .inl rfl) rfl rfl fun A12_5 c12_5 => (nmE (en := [.sl 0 k70 Al0_1 cl0_1 l0_1 0 false, .sl 0 k70 Al0_2 cl0_2 l0_2 0 false, .sl 0 .bool Al0_3 cl0_3 l0_3 0 false, .sl 2 k70 A8_5 c8_5 l0_1 1 true, .sl 2 .bool A13_10 c13_10 [] 3 true, .sl 2 k70 A12_5 c12_5 l0_2 2 true]) (by kernel_rfl) (xs [0, 1] [0, 1, 2] rfl rfl rfl (da (wk [2, 4, 8, 12, 13, 15, 18] [0, 1] [⟨0, 0, 0, false⟩, ⟨1, 0, 0, false⟩, ⟨2, 0, 0, false⟩, ⟨3, 2, 1, true⟩, ⟨5, 2, 2, true⟩, ⟨4, 2, 3, true⟩] (hn0 _ ⟨A8_5, c8_5, A12_5, c12_5, A13_10, c13_10, rfl⟩))))))
  refine dl 5 #[true, true, true, true, true, true, true, true, true, false, false, true, true, false, true, true, false, false] (fun S => ∃ (A8_5 : Option Addr) (c8_5 : Nat) (A9_6 : Option Addr) (c9_6 : Nat), S = ⟨[(2, .pointer (some ⟨b2, 0, none⟩)), (4, .int .i64 a0_0), (8, .slice A8_5 l0_1.length c8_5), (9, .slice A9_6 0 c9_6), (11, .slice Al0_2 l0_2.length cl0_2), (15, .slice Al0_3 l0_3.length cl0_3), (18, .int .i64 a0_4)], [⟨b1, 44, [.int .i64 a0_0, .slice Al0_1 l0_1.length cl0_1, .slice Al0_2 l0_2.length cl0_2, .slice Al0_3 l0_3.length cl0_3, .int .i64 a0_4]⟩, ⟨b2, 44, [.int .i64 0, .slice none 0 0, .slice none 0 0, .slice none 0 0, .int .i64 0]⟩], [.sl 0 k70 Al0_1 cl0_1 l0_1 0 false, .sl 0 k70 Al0_2 cl0_2 l0_2 0 false, .sl 0 .bool Al0_3 cl0_3 l0_3 0 false, .sl 2 k70 A8_5 c8_5 l0_1 1 true, .sl 2 k70 A9_6 c9_6 [] 2 true]⟩) (fun S hS => ?_) (fun hn2 => ?_)
  ·
   obtain ⟨A8_5, c8_5, A9_6, c9_6, rfl⟩ := hS
   refine one2 9 10 rfl rfl rfl rfl ?_ ?_
   ·
    exact op_app (k := k70) (s := 3) (by_ := 24) 4 1 rfl rfl rfl rfl (ap0 g2 dq) (ap0n g2 dq) (.inl rfl) true (fun _ => .inl rfl) rfl rfl fun A12_6 c12_6 => (nmE (en := [.sl 0 k70 Al0_1 cl0_1 l0_1 0 false, .sl 0 k70 Al0_2 cl0_2 l0_2 0 false, .sl 0 .bool Al0_3 cl0_3 l0_3 0 false, .sl 2 k70 A8_5 c8_5 l0_1 1 true, .sl 2 k70 A12_6 c12_6 l0_2 2 true]) (by kernel_rfl) (xs [0, 1] [0, 1, 2] rfl rfl rfl (one1 10 rfl rfl (op_lit (s := 1) (by_ := 1) .bool ([] : List Bool) [] [] 3 [] rfl rfl rfl rfl rfl rfl rfl rfl rfl rfl rfl rfl rfl dq rfl fun A13_7 c13_7 => (xs [0, 1] [0, 1, 2] rfl rfl rfl (da (wk [2, 4, 8, 12, 13, 15, 18] [0, 1] [⟨0, 0, 0, false⟩, ⟨1, 0, 0, false⟩, ⟨2, 0, 0, false⟩, ⟨3, 2, 1, true⟩, ⟨4, 2, 2, true⟩, ⟨5, 2, 3, true⟩] (hn0 _ ⟨A8_5, c8_5, A12_6, c12_6, A13_7, c13_7, rfl⟩))))))))
   ·
    exact op_lit (s := 1) (by_ := 1) .bool ([] : List Bool) [] [] 3 [] rfl rfl rfl rfl rfl rfl rfl rfl rfl rfl rfl rfl rfl dq rfl fun A13_8 c13_8 => (xs [0, 1] [0, 1, 2] rfl rfl rfl (da (wk [2, 4, 8, 9, 11, 13, 15, 18] [0, 1] [⟨0, 0, 0, false⟩, ⟨1, 0, 0, false⟩, ⟨2, 0, 0, false⟩, ⟨3, 2, 1, true⟩, ⟨4, 2, 2, true⟩, ⟨5, 2, 3, true⟩] (hn1 _ ⟨A8_5, c8_5, A9_6, c9_6, A13_8, c13_8, rfl⟩))))
  refine dl 5 #[true, true, true, true, true, true, false, true, true, false, true, true, true, false, true, true, false, false] (fun S => ∃ (A8_5 : Option Addr) (c8_5 : Nat) (A13_12 : Option Addr) (c13_12 : Nat), S = ⟨[(2, .pointer (some ⟨b2, 0, none⟩)), (4, .int .i64 a0_0), (8, .slice A8_5 l0_1.length c8_5), (11, .slice Al0_2 l0_2.length cl0_2), (13, .slice A13_12 0 c13_12), (15, .slice Al0_3 l0_3.length cl0_3), (18, .int .i64 a0_4)], [⟨b1, 44, [.int .i64 a0_0, .slice Al0_1 l0_1.length cl0_1, .slice Al0_2 l0_2.length cl0_2, .slice Al0_3 l0_3.length cl0_3, .int .i64 a0_4]⟩, ⟨b2, 44, [.int .i64 0, .slice none 0 0, .slice none 0 0, .slice none 0 0, .int .i64 0]⟩], [.sl 0 k70 Al0_1 cl0_1 l0_1 0 false, .sl 0 k70 Al0_2 cl0_2 l0_2 0 false, .sl 0 .bool Al0_3 cl0_3 l0_3 0 false, .sl 2 k70 A8_5 c8_5 l0_1 1 true, .sl 2 .bool A13_12 c13_12 [] 2 true]⟩) (fun S hS => ?_) (fun hn3 => ?_)
  ·
   obtain ⟨A8_5, c8_5, A13_12, c13_12, rfl⟩ := hS
   exact one1 6 rfl rfl (op_lit (s := 3) (by_ := 24) k70 ([] : List S70) [] [] 3 [] rfl rfl rfl rfl rfl rfl rfl rfl rfl rfl rfl rfl rfl dq rfl fun A9_9 c9_9 => (xs [0, 1] [0, 1, 2] rfl rfl rfl (da (wk [2, 4, 8, 9, 11, 13, 15, 18] [0, 1] [⟨0, 0, 0, false⟩, ⟨1, 0, 0, false⟩, ⟨2, 0, 0, false⟩, ⟨3, 2, 1, true⟩, ⟨5, 2, 2, true⟩, ⟨4, 2, 3, true⟩] (hn1 _ ⟨A8_5, c8_5, A9_9, c9_9, A13_12, c13_12, rfl⟩)))))
  refine dl 5 #[true, true, true, true, true, false, true, true, true, false, true, true, true, false, true, true, false, false] (fun S => ∃ (A5_4 : Option Addr) (c5_4 : Nat) (A9_14 : Option Addr) (c9_14 : Nat) (A13_16 : Option Addr) (c13_16 : Nat), S = ⟨[(2, .pointer (some ⟨b2, 0, none⟩)), (4, .int .i64 a0_0), (5, .slice A5_4 0 c5_4), (7, .slice Al0_1 l0_1.length cl0_1), (9, .slice A9_14 0 c9_14), (11, .slice Al0_2 l0_2.length cl0_2), (13, .slice A13_16 0 c13_16), (15, .slice Al0_3 l0_3.length cl0_3), (18, .int .i64 a0_4)], [⟨b1, 44, [.int .i64 a0_0, .slice Al0_1 l0_1.length cl0_1, .slice Al0_2 l0_2.length cl0_2, .slice Al0_3 l0_3.length cl0_3, .int .i64 a0_4]⟩, ⟨b2, 44, [.int .i64 0, .slice none 0 0, .slice none 0 0, .slice none 0 0, .int .i64 0]⟩], [.sl 0 k70 Al0_1 cl0_1 l0_1 0 false, .sl 0 k70 Al0_2 cl0_2 l0_2 0 false, .sl 0 .bool Al0_3 cl0_3 l0_3 0 false, .sl 2 k70 A5_4 c5_4 [] 1 true, .sl 2 k70 A9_14 c9_14 [] 2 true, .sl 2 .bool A13_16 c13_16 [] 3 true]⟩) (fun S hS => ?_) (fun hn4 => ?_)
  ·
   obtain ⟨A5_4, c5_4, A9_14, c9_14, A13_16, c13_16, rfl⟩ := hS
   exact one1 5 rfl rfl (op_app (k := k70) (s := 3) (by_ := 24) 3 0 rfl rfl rfl rfl (ap0 g1 dq) (ap0n g1 dq) (.inl rfl) true (fun _ => .inl rfl) rfl rfl fun A8_10 c8_10 => (nmE (en := [.sl 0 k70 Al0_1 cl0_1 l0_1 0 false, .sl 0 k70 Al0_2 cl0_2 l0_2 0 false, .sl 0 .bool Al0_3 cl0_3 l0_3 0 false, .sl 2 k70 A9_14 c9_14 [] 2 true, .sl 2 .bool A13_16 c13_16 [] 3 true, .sl 2 k70 A8_10 c8_10 l0_1 1 true]) (by kernel_rfl) (xs [0, 1] [0, 1, 2] rfl rfl rfl (da (wk [2, 4, 8, 9, 11, 13, 15, 18] [0, 1] [⟨0, 0, 0, false⟩, ⟨1, 0, 0, false⟩, ⟨2, 0, 0, false⟩, ⟨5, 2, 1, true⟩, ⟨3, 2, 2, true⟩, ⟨4, 2, 3, true⟩] (hn1 _ ⟨A8_10, c8_10, A9_14, c9_14, A13_16, c13_16, rfl⟩))))))
  refine dl 6 #[true, true, true, true, true, false, true, true, true, false, false, true, true, false, true, true, false, false] (fun S => ∃ (A5_4 : Option Addr) (c5_4 : Nat) (A9_14 : Option Addr) (c9_14 : Nat), S = ⟨[(2, .pointer (some ⟨b2, 0, none⟩)), (4, .int .i64 a0_0), (5, .slice A5_4 0 c5_4), (7, .slice Al0_1 l0_1.length cl0_1), (9, .slice A9_14 0 c9_14), (11, .slice Al0_2 l0_2.length cl0_2), (15, .slice Al0_3 l0_3.length cl0_3), (18, .int .i64 a0_4)], [⟨b1, 44, [.int .i64 a0_0, .slice Al0_1 l0_1.length cl0_1, .slice Al0_2 l0_2.length cl0_2, .slice Al0_3 l0_3.length cl0_3, .int .i64 a0_4]⟩, ⟨b2, 44, [.int .i64 0, .slice none 0 0, .slice none 0 0, .slice none 0 0, .int .i64 0]⟩], [.sl 0 k70 Al0_1 cl0_1 l0_1 0 false, .sl 0 k70 Al0_2 cl0_2 l0_2 0 false, .sl 0 .bool Al0_3 cl0_3 l0_3 0 false, .sl 2 k70 A5_4 c5_4 [] 1 true, .sl 2 k70 A9_14 c9_14 [] 2 true]⟩) (fun S hS => ?_) (fun hn5 => ?_)
  ·
   obtain ⟨A5_4, c5_4, A9_14, c9_14, rfl⟩ := hS
   refine one2 5 10 rfl rfl rfl rfl ?_ ?_
   ·
    exact op_app (k := k70) (s := 3) (by_ := 24) 3 0 rfl rfl rfl rfl (ap0 g1 dq) (ap0n g1 dq) (.inl rfl) true (fun _ => .inl rfl) rfl rfl fun A8_11 c8_11 => (nmE (en := [.sl 0 k70 Al0_1 cl0_1 l0_1 0 false, .sl 0 k70 Al0_2 cl0_2 l0_2 0 false, .sl 0 .bool Al0_3 cl0_3 l0_3 0 false, .sl 2 k70 A9_14 c9_14 [] 2 true, .sl 2 k70 A8_11 c8_11 l0_1 1 true]) (by kernel_rfl) (xs [0, 1] [0, 1, 2] rfl rfl rfl (da (wk [2, 4, 8, 9, 11, 15, 18] [0, 1] [⟨0, 0, 0, false⟩, ⟨1, 0, 0, false⟩, ⟨2, 0, 0, false⟩, ⟨4, 2, 1, true⟩, ⟨3, 2, 2, true⟩] (hn2 _ ⟨A8_11, c8_11, A9_14, c9_14, rfl⟩)))))
   ·
    exact op_lit (s := 1) (by_ := 1) .bool ([] : List Bool) [] [] 3 [] rfl rfl rfl rfl rfl rfl rfl rfl rfl rfl rfl rfl rfl dq rfl fun A13_12 c13_12 => (xs [0, 1] [0, 1, 2] rfl rfl rfl (da (wk [2, 4, 5, 7, 9, 11, 13, 15, 18] [0, 1] [⟨0, 0, 0, false⟩, ⟨1, 0, 0, false⟩, ⟨2, 0, 0, false⟩, ⟨3, 2, 1, true⟩, ⟨4, 2, 2, true⟩, ⟨5, 2, 3, true⟩] (hn4 _ ⟨A5_4, c5_4, A9_14, c9_14, A13_12, c13_12, rfl⟩))))
  refine dl 6 #[true, true, true, true, true, false, false, true, true, false, true, true, true, false, true, true, false, false] (fun S => ∃ (A5_4 : Option Addr) (c5_4 : Nat) (A13_18 : Option Addr) (c13_18 : Nat), S = ⟨[(2, .pointer (some ⟨b2, 0, none⟩)), (4, .int .i64 a0_0), (5, .slice A5_4 0 c5_4), (7, .slice Al0_1 l0_1.length cl0_1), (11, .slice Al0_2 l0_2.length cl0_2), (13, .slice A13_18 0 c13_18), (15, .slice Al0_3 l0_3.length cl0_3), (18, .int .i64 a0_4)], [⟨b1, 44, [.int .i64 a0_0, .slice Al0_1 l0_1.length cl0_1, .slice Al0_2 l0_2.length cl0_2, .slice Al0_3 l0_3.length cl0_3, .int .i64 a0_4]⟩, ⟨b2, 44, [.int .i64 0, .slice none 0 0, .slice none 0 0, .slice none 0 0, .int .i64 0]⟩], [.sl 0 k70 Al0_1 cl0_1 l0_1 0 false, .sl 0 k70 Al0_2 cl0_2 l0_2 0 false, .sl 0 .bool Al0_3 cl0_3 l0_3 0 false, .sl 2 k70 A5_4 c5_4 [] 1 true, .sl 2 .bool A13_18 c13_18 [] 2 true]⟩) (fun S hS => ?_) (fun hn6 => ?_)
  ·
   obtain ⟨A5_4, c5_4, A13_18, c13_18, rfl⟩ := hS
   refine one2 5 6 rfl rfl rfl rfl ?_ ?_
   ·
    exact op_app (k := k70) (s := 3) (by_ := 24) 3 0 rfl rfl rfl rfl (ap0 g1 dq) (ap0n g1 dq) (.inl rfl) true (fun _ => .inl rfl) rfl rfl fun A8_13 c8_13 => (nmE (en := [.sl 0 k70 Al0_1 cl0_1 l0_1 0 false, .sl 0 k70 Al0_2 cl0_2 l0_2 0 false, .sl 0 .bool Al0_3 cl0_3 l0_3 0 false, .sl 2 .bool A13_18 c13_18 [] 2 true, .sl 2 k70 A8_13 c8_13 l0_1 1 true]) (by kernel_rfl) (xs [0, 1] [0, 1, 2] rfl rfl rfl (da (wk [2, 4, 8, 11, 13, 15, 18] [0, 1] [⟨0, 0, 0, false⟩, ⟨1, 0, 0, false⟩, ⟨2, 0, 0, false⟩, ⟨4, 2, 1, true⟩, ⟨3, 2, 2, true⟩] (hn3 _ ⟨A8_13, c8_13, A13_18, c13_18, rfl⟩)))))
   ·
    exact op_lit (s := 3) (by_ := 24) k70 ([] : List S70) [] [] 3 [] rfl rfl rfl rfl rfl rfl rfl rfl rfl rfl rfl rfl rfl dq rfl fun A9_14 c9_14 => (xs [0, 1] [0, 1, 2] rfl rfl rfl (da (wk [2, 4, 5, 7, 9, 11, 13, 15, 18] [0, 1] [⟨0, 0, 0, false⟩, ⟨1, 0, 0, false⟩, ⟨2, 0, 0, false⟩, ⟨3, 2, 1, true⟩, ⟨5, 2, 2, true⟩, ⟨4, 2, 3, true⟩] (hn4 _ ⟨A5_4, c5_4, A9_14, c9_14, A13_18, c13_18, rfl⟩))))
  refine dl 6 #[true, true, false, true, true, false, true, true, true, false, true, true, true, false, true, true, false, false] (fun S => ∃ (A9_21 : Option Addr) (c9_21 : Nat) (A13_23 : Option Addr) (c13_23 : Nat), S = ⟨[(2, .pointer (some ⟨b2, 0, none⟩)), (4, .int .i64 a0_0), (7, .slice Al0_1 l0_1.length cl0_1), (9, .slice A9_21 0 c9_21), (11, .slice Al0_2 l0_2.length cl0_2), (13, .slice A13_23 0 c13_23), (15, .slice Al0_3 l0_3.length cl0_3), (18, .int .i64 a0_4)], [⟨b1, 44, [.int .i64 a0_0, .slice Al0_1 l0_1.length cl0_1, .slice Al0_2 l0_2.length cl0_2, .slice Al0_3 l0_3.length cl0_3, .int .i64 a0_4]⟩, ⟨b2, 44, [.int .i64 0, .slice none 0 0, .slice none 0 0, .slice none 0 0, .int .i64 0]⟩], [.sl 0 k70 Al0_1 cl0_1 l0_1 0 false, .sl 0 k70 Al0_2 cl0_2 l0_2 0 false, .sl 0 .bool Al0_3 cl0_3 l0_3 0 false, .sl 2 k70 A9_21 c9_21 [] 1 true, .sl 2 .bool A13_23 c13_23 [] 2 true]⟩) (fun S hS => ?_) (fun hn7 => ?_)
  ·
   obtain ⟨A9_21, c9_21, A13_23, c13_23, rfl⟩ := hS
   exact one1 2 rfl rfl (op_lit (s := 3) (by_ := 24) k70 ([] : List S70) [] [] 3 [] rfl rfl rfl rfl rfl rfl rfl rfl rfl rfl rfl rfl rfl dq rfl fun A5_15 c5_15 => (xs [0, 1] [0, 1, 2] rfl rfl rfl (da (wk [2, 4, 5, 7, 9, 11, 13, 15, 18] [0, 1] [⟨0, 0, 0, false⟩, ⟨1, 0, 0, false⟩, ⟨2, 0, 0, false⟩, ⟨5, 2, 1, true⟩, ⟨3, 2, 2, true⟩, ⟨4, 2, 3, true⟩] (hn4 _ ⟨A5_15, c5_15, A9_21, c9_21, A13_23, c13_23, rfl⟩)))))
  refine one3 2 6 10 rfl rfl rfl rfl rfl rfl ?_ ?_ ?_
  ·
   refine op_lit (s := 3) (by_ := 24) k70 ([] : List S70) [] [] 1 [] rfl rfl rfl rfl rfl rfl rfl rfl rfl rfl rfl rfl rfl dq rfl fun A5_16 c5_16 => (xs [0, 1] [0, 1, 2] rfl rfl rfl ?_)
   refine one3 5 6 10 rfl rfl rfl rfl rfl rfl ?_ ?_ ?_
   ·
    refine op_app (k := k70) (s := 3) (by_ := 24) 3 0 rfl rfl rfl rfl (ap0 g1 dq) (ap0n g1 dq) (.inl rfl) true (fun _ => .inl rfl) rfl rfl fun A8_17 c8_17 => (nmE (en := [.sl 0 k70 Al0_1 cl0_1 l0_1 0 false, .sl 0 k70 Al0_2 cl0_2 l0_2 0 false, .sl 0 .bool Al0_3 cl0_3 l0_3 0 false, .sl 2 k70 A8_17 c8_17 l0_1 1 true]) (by kernel_rfl) (xs [0, 1] [0, 1, 2] rfl rfl rfl ?_))
    refine one2 6 10 rfl rfl rfl rfl ?_ ?_
    ·
     exact op_lit (s := 3) (by_ := 24) k70 ([] : List S70) [] [] 2 [] rfl rfl rfl rfl rfl rfl rfl rfl rfl rfl rfl rfl rfl dq rfl fun A9_18 c9_18 => (xs [0, 1] [0, 1, 2] rfl rfl rfl (da (wk [2, 4, 8, 9, 11, 15, 18] [0, 1] [⟨0, 0, 0, false⟩, ⟨1, 0, 0, false⟩, ⟨2, 0, 0, false⟩, ⟨3, 2, 1, true⟩, ⟨4, 2, 2, true⟩] (hn2 _ ⟨A8_17, c8_17, A9_18, c9_18, rfl⟩))))
    ·
     exact op_lit (s := 1) (by_ := 1) .bool ([] : List Bool) [] [] 2 [] rfl rfl rfl rfl rfl rfl rfl rfl rfl rfl rfl rfl rfl dq rfl fun A13_19 c13_19 => (xs [0, 1] [0, 1, 2] rfl rfl rfl (da (wk [2, 4, 8, 11, 13, 15, 18] [0, 1] [⟨0, 0, 0, false⟩, ⟨1, 0, 0, false⟩, ⟨2, 0, 0, false⟩, ⟨3, 2, 1, true⟩, ⟨4, 2, 2, true⟩] (hn3 _ ⟨A8_17, c8_17, A13_19, c13_19, rfl⟩))))
   ·
    exact op_lit (s := 3) (by_ := 24) k70 ([] : List S70) [] [] 2 [] rfl rfl rfl rfl rfl rfl rfl rfl rfl rfl rfl rfl rfl dq rfl fun A9_20 c9_20 => (xs [0, 1] [0, 1, 2] rfl rfl rfl (da (wk [2, 4, 5, 7, 9, 11, 15, 18] [0, 1] [⟨0, 0, 0, false⟩, ⟨1, 0, 0, false⟩, ⟨2, 0, 0, false⟩, ⟨3, 2, 1, true⟩, ⟨4, 2, 2, true⟩] (hn5 _ ⟨A5_16, c5_16, A9_20, c9_20, rfl⟩))))
   ·
    exact op_lit (s := 1) (by_ := 1) .bool ([] : List Bool) [] [] 2 [] rfl rfl rfl rfl rfl rfl rfl rfl rfl rfl rfl rfl rfl dq rfl fun A13_21 c13_21 => (xs [0, 1] [0, 1, 2] rfl rfl rfl (da (wk [2, 4, 5, 7, 11, 13, 15, 18] [0, 1] [⟨0, 0, 0, false⟩, ⟨1, 0, 0, false⟩, ⟨2, 0, 0, false⟩, ⟨3, 2, 1, true⟩, ⟨4, 2, 2, true⟩] (hn6 _ ⟨A5_16, c5_16, A13_21, c13_21, rfl⟩))))
  ·
   refine op_lit (s := 3) (by_ := 24) k70 ([] : List S70) [] [] 1 [] rfl rfl rfl rfl rfl rfl rfl rfl rfl rfl rfl rfl rfl dq rfl fun A9_22 c9_22 => (xs [0, 1] [0, 1, 2] rfl rfl rfl ?_)
   refine one2 2 10 rfl rfl rfl rfl ?_ ?_
   ·
    exact op_lit (s := 3) (by_ := 24) k70 ([] : List S70) [] [] 2 [] rfl rfl rfl rfl rfl rfl rfl rfl rfl rfl rfl rfl rfl dq rfl fun A5_23 c5_23 => (xs [0, 1] [0, 1, 2] rfl rfl rfl (da (wk [2, 4, 5, 7, 9, 11, 15, 18] [0, 1] [⟨0, 0, 0, false⟩, ⟨1, 0, 0, false⟩, ⟨2, 0, 0, false⟩, ⟨4, 2, 1, true⟩, ⟨3, 2, 2, true⟩] (hn5 _ ⟨A5_23, c5_23, A9_22, c9_22, rfl⟩))))
   ·
    exact op_lit (s := 1) (by_ := 1) .bool ([] : List Bool) [] [] 2 [] rfl rfl rfl rfl rfl rfl rfl rfl rfl rfl rfl rfl rfl dq rfl fun A13_24 c13_24 => (xs [0, 1] [0, 1, 2] rfl rfl rfl (da (wk [2, 4, 7, 9, 11, 13, 15, 18] [0, 1] [⟨0, 0, 0, false⟩, ⟨1, 0, 0, false⟩, ⟨2, 0, 0, false⟩, ⟨3, 2, 1, true⟩, ⟨4, 2, 2, true⟩] (hn7 _ ⟨A9_22, c9_22, A13_24, c13_24, rfl⟩))))
  ·
   refine op_lit (s := 1) (by_ := 1) .bool ([] : List Bool) [] [] 1 [] rfl rfl rfl rfl rfl rfl rfl rfl rfl rfl rfl rfl rfl dq rfl fun A13_25 c13_25 => (xs [0, 1] [0, 1, 2] rfl rfl rfl ?_)
   refine one2 2 6 rfl rfl rfl rfl ?_ ?_
   ·
    exact op_lit (s := 3) (by_ := 24) k70 ([] : List S70) [] [] 2 [] rfl rfl rfl rfl rfl rfl rfl rfl rfl rfl rfl rfl rfl dq rfl fun A5_26 c5_26 => (xs [0, 1] [0, 1, 2] rfl rfl rfl (da (wk [2, 4, 5, 7, 11, 13, 15, 18] [0, 1] [⟨0, 0, 0, false⟩, ⟨1, 0, 0, false⟩, ⟨2, 0, 0, false⟩, ⟨4, 2, 1, true⟩, ⟨3, 2, 2, true⟩] (hn6 _ ⟨A5_26, c5_26, A13_25, c13_25, rfl⟩))))
   ·
    exact op_lit (s := 3) (by_ := 24) k70 ([] : List S70) [] [] 2 [] rfl rfl rfl rfl rfl rfl rfl rfl rfl rfl rfl rfl rfl dq rfl fun A9_27 c9_27 => (xs [0, 1] [0, 1, 2] rfl rfl rfl (da (wk [2, 4, 7, 9, 11, 13, 15, 18] [0, 1] [⟨0, 0, 0, false⟩, ⟨1, 0, 0, false⟩, ⟨2, 0, 0, false⟩, ⟨4, 2, 1, true⟩, ⟨3, 2, 2, true⟩] (hn7 _ ⟨A9_27, c9_27, A13_25, c13_25, rfl⟩))))
end Go.Proofs.Ytajjeemkdjfilaa.K
namespace Go.Proofs.Ytajjeemkdjfilaa.K
open Go Go.RowKit
set_option linter.unusedVariables false
set_option linter.unusedSimpArgs false
mutual
def spec_JoinChunk.j0 : Nat → (List S92) → Int → (List S70) → (List S70) → (List Bool) → Int → Int → (List S70) → (List S70) → (List Bool) → Int → Option ((List S92) × Int × (List S70) × (List S70) × (List Bool) × Int)
 | 0, _, _, _, _, _, _, _, _, _, _, _ => none
 | k + 1, x14_6, x14_5_0, x14_5_1, x14_5_2, x14_5_3, x14_5_4, x14_7_0, x14_7_1, x14_7_2, x14_7_3, x14_7_4 => some (x14_6, x14_7_0, x14_7_1, x14_7_2, x14_7_3, x14_7_4)
def spec_JoinChunk.j1 : Nat → (List S92) → Int → Int → Int → Bool → Int → Int → Int → (List S70) → (List S70) → (List Bool) → Int → Int → (List S70) → (List S70) → (List Bool) → Int → (List S70) → (List S70) → (List S70) → (List Bool) → Option ((List S92) × Int × (List S70) × (List S70) × (List Bool) × Int)
 | 0, _, _, _, _, _, _, _, _, _, _, _, _, _, _, _, _, _, _, _, _, _ => none
 | k + 1, x26_6, x26_8, x26_19_0, x26_19_4, x26_20, x26_2_0, x26_2_4, x26_5_0, x26_5_1, x26_5_2, x26_5_3, x26_5_4, x26_7_0, x26_7_1, x26_7_2, x26_7_3, x26_7_4, l1, l0_1, l0_2, l0_3 => if 0 ≤ x26_8 then (if x26_8 < (x26_7_3.length : Int) then (spec_JoinChunk.l0 k x26_6 (wrap64 (x26_8 + 1)) x26_2_0 x26_2_4 x26_5_0 x26_5_1 x26_5_2 x26_5_3 x26_5_4 x26_7_0 x26_7_1 x26_7_2 (x26_7_3.set x26_8.toNat true) x26_7_4 l1 l0_1 l0_2 l0_3) else none) else none
def spec_JoinChunk.j2 : Nat → (List S92) → Int → Int → Int → Bool → Bool → Int → Int → Int → (List S70) → (List S70) → (List Bool) → Int → Int → (List S70) → (List S70) → (List Bool) → Int → (List S70) → (List S70) → (List S70) → (List Bool) → Option ((List S92) × Int × (List S70) × (List S70) × (List Bool) × Int)
 | 0, _, _, _, _, _, _, _, _, _, _, _, _, _, _, _, _, _, _, _, _, _, _ => none
 | k + 1, x27_6, x27_8, x27_19_0, x27_19_4, x27_20, x27_52, x27_2_0, x27_2_4, x27_5_0, x27_5_1, x27_5_2, x27_5_3, x27_5_4, x27_7_0, x27_7_1, x27_7_2, x27_7_3, x27_7_4, l1, l0_1, l0_2, l0_3 => if x27_52 = true then (if 0 ≤ x27_8 then (if x27_8 < (l0_1.length : Int) then ((spec_l7One.f k 1 ((rd_T70 l0_1 x27_8).f0) ((rd_T70 l0_1 x27_8).f1) ((rd_T70 l0_1 x27_8).f2) l1).bind fun t23 => (if x27_6.length + t23.length ≤ 2513169434916 then (spec_JoinChunk.j1 k (x27_6 ++ t23) x27_8 x27_19_0 x27_19_4 x27_20 x27_2_0 x27_2_4 x27_5_0 x27_5_1 x27_5_2 x27_5_3 x27_5_4 x27_7_0 x27_7_1 x27_7_2 x27_7_3 x27_7_4 l1 l0_1 l0_2 l0_3) else none)) else none) else none) else (spec_JoinChunk.j1 k x27_6 x27_8 x27_19_0 x27_19_4 x27_20 x27_2_0 x27_2_4 x27_5_0 x27_5_1 x27_5_2 x27_5_3 x27_5_4 x27_7_0 x27_7_1 x27_7_2 x27_7_3 x27_7_4 l1 l0_1 l0_2 l0_3)
def spec_JoinChunk.l0 : Nat → (List S92) → Int → Int → Int → Int → (List S70) → (List S70) → (List Bool) → Int → Int → (List S70) → (List S70) → (List Bool) → Int → (List S70) → (List S70) → (List S70) → (List Bool) → Option ((List S92) × Int × (List S70) × (List S70) × (List Bool) × Int)
 | 0, _, _, _, _, _, _, _, _, _, _, _, _, _, _, _, _, _, _ => none
 | k + 1, x15_6, x15_8, x15_2_0, x15_2_4, x15_5_0, x15_5_1, x15_5_2, x15_5_3, x15_5_4, x15_7_0, x15_7_1, x15_7_2, x15_7_3, x15_7_4, l1, l0_1, l0_2, l0_3 => if x15_8 < (l0_1.length : Int) then ((spec_IsValidTask.f k x15_2_0 l0_1 l0_2 l0_3 x15_2_4).bind fun t5 => (if t5 = true then (if 0 ≤ x15_8 then ((spec_CountMatches.f k ((rd_T70 l0_1 x15_8).f0) ((rd_T70 l0_1 x15_8).f1) ((rd_T70 l0_1 x15_8).f2) l1).bind fun t8 => (if t8 = 0 then (spec_JoinChunk.l0 k x15_6 (wrap64 (x15_8 + 1)) x15_2_0 x15_2_4 x15_5_0 x15_5_1 x15_5_2 x15_5_3 x15_5_4 x15_7_0 x15_7_1 x15_7_2 x15_7_3 x15_7_4 l1 l0_1 l0_2 l0_3) else (if x15_2_0 = 2 then (if x15_8 < (l0_3.length : Int) then (if (rdOf false l0_3 x15_8) = true then (spec_JoinChunk.j1 k x15_6 x15_8 x15_2_0 x15_2_4 true x15_2_0 x15_2_4 x15_5_0 x15_5_1 x15_5_2 x15_5_3 x15_5_4 x15_7_0 x15_7_1 x15_7_2 x15_7_3 x15_7_4 l1 l0_1 l0_2 l0_3) else (if x15_6.length < 2513169434916 then (spec_JoinChunk.j1 k (x15_6 ++ ([(⟨(⟨(rd_T70 l0_1 x15_8).f0, (rd_T70 l0_1 x15_8).f1, (rd_T70 l0_1 x15_8).f2⟩ : S70), (⟨0, 0, 0⟩ : S70), false⟩ : S92)] : List S92)) x15_8 x15_2_0 x15_2_4 true x15_2_0 x15_2_4 x15_5_0 x15_5_1 x15_5_2 x15_5_3 x15_5_4 x15_7_0 x15_7_1 x15_7_2 x15_7_3 x15_7_4 l1 l0_1 l0_2 l0_3) else none)) else none) else (if x15_2_0 = 1 then (spec_JoinChunk.j2 k x15_6 x15_8 x15_2_0 x15_2_4 true (decide (x15_2_0 = 1)) x15_2_0 x15_2_4 x15_5_0 x15_5_1 x15_5_2 x15_5_3 x15_5_4 x15_7_0 x15_7_1 x15_7_2 x15_7_3 x15_7_4 l1 l0_1 l0_2 l0_3) else (spec_JoinChunk.j2 k x15_6 x15_8 x15_2_0 x15_2_4 true (decide (x15_2_0 = 4)) x15_2_0 x15_2_4 x15_5_0 x15_5_1 x15_5_2 x15_5_3 x15_5_4 x15_7_0 x15_7_1 x15_7_2 x15_7_3 x15_7_4 l1 l0_1 l0_2 l0_3))))) else none) else (spec_JoinChunk.j0 k x15_6 x15_5_0 x15_5_1 x15_5_2 x15_5_3 x15_5_4 x15_7_0 x15_7_1 x15_7_2 x15_7_3 x15_7_4))) else (spec_JoinChunk.j0 k x15_6 x15_5_0 x15_5_1 x15_5_2 x15_5_3 x15_5_4 x15_7_0 x15_7_1 x15_7_2 x15_7_3 x15_7_4)
end
def spec_JoinChunk.f (k : Nat) (a0_0 : Int) (l0_1 : List S70) (l0_2 : List S70) (l0_3 : List Bool) (a0_4 : Int) (l1 : List S70) : Option ((List S92) × Int × (List S70) × (List S70) × (List Bool) × Int) := (spec_l16Copy.f a0_0 l0_1 l0_2 l0_3 a0_4).bind fun bt2 => (spec_JoinChunk.l0 k [] 0 a0_0 a0_4 0 [] [] [] 0 bt2.1 bt2.2.1 bt2.2.2.1 bt2.2.2.2.1 bt2.2.2.2.2 l1 l0_1 l0_2 l0_3)
set_option maxHeartbeats 4000000 in
set_option maxRecDepth 100000 in
theorem spec_JoinChunk.ok (k : Nat) (a0_0 : Int) (l0_1 : List S70) (Al0_1 : Option Addr) (cl0_1 : Nat) (l0_2 : List S70) (Al0_2 : Option Addr) (cl0_2 : Nat) (l0_3 : List Bool) (Al0_3 : Option Addr) (cl0_3 : Nat) (a0_4 : Int) (l1 : List S70) (Al1 : Option Addr) (cl1 : Nat) (r0 : List S92) (r1 : Int) (r2 : List S70) (r3 : List S70) (r4 : List Bool) (r5 : Int) (H : spec_JoinChunk.f k a0_0 l0_1 l0_2 l0_3 a0_4 l1 = some (r0, r1, r2, r3, r4, r5)) : Fn Try.prog 26 [.agg #[.int .i64 a0_0, .slice Al0_1 l0_1.length cl0_1, .slice Al0_2 l0_2.length cl0_2, .slice Al0_3 l0_3.length cl0_3, .int .i64 a0_4], .slice Al1 l1.length cl1] [] [.sl 0 k70 Al0_1 cl0_1 l0_1 0 false, .sl 0 k70 Al0_2 cl0_2 l0_2 0 false, .sl 0 .bool Al0_3 cl0_3 l0_3 0 false, .sl 0 k70 Al1 cl1 l1 0 false] (fun v bx en => ∃ A0 c0 A2 c2 A3 c3 A4 c4, v = .tuple #[.slice A0 r0.length c0, .agg #[.int .i64 r1, .slice A2 r2.length c2, .slice A3 r3.length c3, .slice A4 r4.length c4, .int .i64 r5]] ∧ bx = [] ∧ en = [.sl 2 k92 A0 c0 r0 1 true, .sl 2 k70 A2 c2 r2 2 true, .sl 2 k70 A3 c3 r3 3 true, .sl 2 .bool A4 c4 r4 4 true]) := by
 refine fn_ 70 Try.func26 rfl rfl rfl (fun base T w0 => ?_)
 rw [spec_JoinChunk.f] at H
 refine gs (rg (so rfl (op_box (cs := [.int .i64 a0_0, .slice Al0_1 l0_1.length cl0_1, .slice Al0_2 l0_2.length cl0_2, .slice Al0_3 l0_3.length cl0_3, .int .i64 a0_4]) rfl rfl rfl fun b2 => (sv (EV.as rfl) rfl (so rfl (op_alloc (cs := [.int .i64 0, .slice none 0 0, .slice none 0 0, .slice none 0 0, .int .i64 0]) (by kernel_rfl) rfl fun b5 => (re (gs (rg (so rfl (op_lit (s := 7) (by_ := 56) k92 ([] : List S92) [] [] 1 [] rfl rfl rfl rfl rfl rfl rfl rfl rfl rfl rfl rfl rfl dq rfl fun A10_1 c10_1 => (sv (EV.as rfl) rfl (re (gs (rg (sv (EV.ld (v := .agg #[.int .i64 a0_0, .slice Al0_1 l0_1.length cl0_1, .slice Al0_2 l0_2.length cl0_2, .slice Al0_3 l0_3.length cl0_3, .int .i64 a0_4]) 0 (some 5) rfl rfl rfl) rfl ?_))))))))))))))))
 revert H; refine bdI ?_; rintro ⟨t2_0, t2_1, t2_2, t2_3, t2_4⟩ A2 H
 refine so rfl (op_call (spec_l16Copy.ok a0_0 l0_1 Al0_1 cl0_1 l0_2 Al0_2 cl0_2 l0_3 Al0_3 cl0_3 a0_4 _ _ _ _ _ A2) [⟨0, 0, 0, false⟩, ⟨1, 0, 0, false⟩, ⟨2, 0, 0, false⟩] 2 rfl rfl rfl rfl rfl ?_)
 rintro _ _ _ ⟨At2_1, ct2_1, At2_2, ct2_2, At2_3, ct2_3, rfl, rfl, rfl⟩
 refine so rfl (op_alloc (cs := [.int .i64 0, .slice none 0 0, .slice none 0 0, .slice none 0 0, .int .i64 0]) (by kernel_rfl) rfl fun b7 => (so rfl (op_st (cs' := [.int .i64 t2_0, .slice At2_1 t2_1.length ct2_1, .slice At2_2 t2_2.length ct2_2, .slice At2_3 t2_3.length ct2_3, .int .i64 t2_4]) 2 rfl rfl rfl rfl rfl rfl (re ?_))))
 refine jo (fun S => ∃ (m : Nat) (x14_6 : List S92) (Ax14_6 : Option Addr) (cx14_6 : Nat) (x14_5_0 : Int) (x14_5_1 : List S70) (Ax14_5_1 : Option Addr) (cx14_5_1 : Nat) (x14_5_2 : List S70) (Ax14_5_2 : Option Addr) (cx14_5_2 : Nat) (x14_5_3 : List Bool) (Ax14_5_3 : Option Addr) (cx14_5_3 : Nat) (x14_5_4 : Int) (x14_7_0 : Int) (x14_7_1 : List S70) (Ax14_7_1 : Option Addr) (cx14_7_1 : Nat) (x14_7_2 : List S70) (Ax14_7_2 : Option Addr) (cx14_7_2 : Nat) (x14_7_3 : List Bool) (Ax14_7_3 : Option Addr) (cx14_7_3 : Nat) (x14_7_4 : Int), spec_JoinChunk.j0 m x14_6 x14_5_0 x14_5_1 x14_5_2 x14_5_3 x14_5_4 x14_7_0 x14_7_1 x14_7_2 x14_7_3 x14_7_4 = some (r0, r1, r2, r3, r4, r5) ∧ S = ⟨[(5, .pointer (some ⟨b5, 0, none⟩)), (6, .slice Ax14_6 x14_6.length cx14_6), (7, .pointer (some ⟨b7, 0, none⟩))], [⟨b5, 44, [.int .i64 x14_5_0, .slice Ax14_5_1 x14_5_1.length cx14_5_1, .slice Ax14_5_2 x14_5_2.length cx14_5_2, .slice Ax14_5_3 x14_5_3.length cx14_5_3, .int .i64 x14_5_4]⟩, ⟨b7, 44, [.int .i64 x14_7_0, .slice Ax14_7_1 x14_7_1.length cx14_7_1, .slice Ax14_7_2 x14_7_2.length cx14_7_2, .slice Ax14_7_3 x14_7_3.length cx14_7_3, .int .i64 x14_7_4]⟩], [.sl 2 k92 Ax14_6 cx14_6 x14_6 1 true, .sl 2 k70 Ax14_5_1 cx14_5_1 x14_5_1 2 true, .sl 2 k70 Ax14_5_2 cx14_5_2 x14_5_2 3 true, .sl 2 .bool Ax14_5_3 cx14_5_3 x14_5_3 4 true, .sl 2 k70 Ax14_7_1 cx14_7_1 x14_7_1 5 true, .sl 2 k70 Ax14_7_2 cx14_7_2 x14_7_2 6 true, .sl 2 .bool Ax14_7_3 cx14_7_3 x14_7_3 7 true]⟩) (fun S hS => ?_) (fun jh0 => ?_)
 ·
  clear H
  obtain ⟨m3, x14_6, Ax14_6, cx14_6, x14_5_0, x14_5_1, Ax14_5_1, cx14_5_1, x14_5_2, Ax14_5_2, cx14_5_2, x14_5_3, Ax14_5_3, cx14_5_3, x14_5_4, x14_7_0, x14_7_1, Ax14_7_1, cx14_7_1, x14_7_2, Ax14_7_2, cx14_7_2, x14_7_3, Ax14_7_3, cx14_7_3, x14_7_4, H, rfl⟩ := hS
  rcases m3 with _ | m3
  · rw [spec_JoinChunk.j0] at H; cases H
  rw [spec_JoinChunk.j0] at H
  refine gs (dr [0, 1] [0, 1, 2, 3, 4, 5, 6] [3] 4 rfl rfl rfl rfl (xv 0 [0, 1] [0, 1, 2, 3, 4, 5, 6] rfl (EV.mv rfl) rfl rfl rfl rfl (xv 1 [0, 1] [0, 1, 2, 3, 4, 5, 6] rfl (EV.ld (v := .agg #[.int .i64 x14_7_0, .slice Ax14_7_1 x14_7_1.length cx14_7_1, .slice Ax14_7_2 x14_7_2.length cx14_7_2, .slice Ax14_7_3 x14_7_3.length cx14_7_3, .int .i64 x14_7_4]) 1 (some 5) rfl rfl rfl) rfl rfl rfl rfl (xv 2 [0, 1] [0, 1, 2, 3, 4, 5, 6] rfl (EV.as rfl) rfl rfl rfl rfl (one1 3 rfl rfl (op_st (cs' := [.int .i64 x14_7_0, .slice Ax14_7_1 x14_7_1.length cx14_7_1, .slice Ax14_7_2 x14_7_2.length cx14_7_2, .slice Ax14_7_3 x14_7_3.length cx14_7_3, .int .i64 x14_7_4]) 0 rfl rfl rfl rfl rfl rfl (xn rfl (xd ?_))))))))
  cases H
  exact rt Try.func26 rfl (.tmp rfl (.cell 0 (some 5) rfl rfl rfl .nil)) rfl [] [⟨0, 2, 1, true⟩, ⟨4, 2, 2, true⟩, ⟨5, 2, 3, true⟩, ⟨6, 2, 4, true⟩] rfl rfl rfl rfl rfl ⟨_, _, _, _, _, _, _, _, rfl, rfl, rfl⟩
 ·
  refine gs (rg (sv (EV.as rfl) rfl (re (gb (nil_ k70 6 dq (nil_ k70 7 dq (nil_ .bool 8 dq ?_)))))))
  refine lo (fun kk S => ∃ (x15_6 : List S92) (Ax15_6 : Option Addr) (cx15_6 : Nat) (x15_8 : Int) (x15_2_0 : Int) (x15_2_4 : Int) (x15_5_0 : Int) (x15_5_1 : List S70) (Ax15_5_1 : Option Addr) (cx15_5_1 : Nat) (x15_5_2 : List S70) (Ax15_5_2 : Option Addr) (cx15_5_2 : Nat) (x15_5_3 : List Bool) (Ax15_5_3 : Option Addr) (cx15_5_3 : Nat) (x15_5_4 : Int) (x15_7_0 : Int) (x15_7_1 : List S70) (Ax15_7_1 : Option Addr) (cx15_7_1 : Nat) (x15_7_2 : List S70) (Ax15_7_2 : Option Addr) (cx15_7_2 : Nat) (x15_7_3 : List Bool) (Ax15_7_3 : Option Addr) (cx15_7_3 : Nat) (x15_7_4 : Int), spec_JoinChunk.l0 kk x15_6 x15_8 x15_2_0 x15_2_4 x15_5_0 x15_5_1 x15_5_2 x15_5_3 x15_5_4 x15_7_0 x15_7_1 x15_7_2 x15_7_3 x15_7_4 l1 l0_1 l0_2 l0_3 = some (r0, r1, r2, r3, r4, r5) ∧ S = ⟨[(1, .slice Al1 l1.length cl1), (2, .pointer (some ⟨b2, 0, none⟩)), (5, .pointer (some ⟨b5, 0, none⟩)), (6, .slice Ax15_6 x15_6.length cx15_6), (7, .pointer (some ⟨b7, 0, none⟩)), (8, .int .i64 x15_8)], [⟨b2, 44, [.int .i64 x15_2_0, .slice Al0_1 l0_1.length cl0_1, .slice Al0_2 l0_2.length cl0_2, .slice Al0_3 l0_3.length cl0_3, .int .i64 x15_2_4]⟩, ⟨b5, 44, [.int .i64 x15_5_0, .slice Ax15_5_1 x15_5_1.length cx15_5_1, .slice Ax15_5_2 x15_5_2.length cx15_5_2, .slice Ax15_5_3 x15_5_3.length cx15_5_3, .int .i64 x15_5_4]⟩, ⟨b7, 44, [.int .i64 x15_7_0, .slice Ax15_7_1 x15_7_1.length cx15_7_1, .slice Ax15_7_2 x15_7_2.length cx15_7_2, .slice Ax15_7_3 x15_7_3.length cx15_7_3, .int .i64 x15_7_4]⟩], [.sl 2 k92 Ax15_6 cx15_6 x15_6 1 true, .sl 2 k70 Ax15_5_1 cx15_5_1 x15_5_1 2 true, .sl 2 k70 Ax15_5_2 cx15_5_2 x15_5_2 3 true, .sl 2 .bool Ax15_5_3 cx15_5_3 x15_5_3 4 true, .sl 2 k70 Ax15_7_1 cx15_7_1 x15_7_1 5 true, .sl 2 k70 Ax15_7_2 cx15_7_2 x15_7_2 6 true, .sl 2 .bool Ax15_7_3 cx15_7_3 x15_7_3 7 true, .sl 0 k70 Al1 cl1 l1 0 false, .sl 0 k70 Al0_1 cl0_1 l0_1 0 false, .sl 0 k70 Al0_2 cl0_2 l0_2 0 false, .sl 0 .bool Al0_3 cl0_3 l0_3 0 false]⟩) (fun S hS => ?_) (fun n0 ih0 S hS => ?_) ⟨[], A10_1, c10_1, 0, a0_0, a0_4, 0, [], none, 0, [], none, 0, [], none, 0, 0, t2_0, t2_1, At2_1, ct2_1, t2_2, At2_2, ct2_2, t2_3, At2_3, ct2_3, t2_4, H, rfl⟩ (fun h => wk [1, 2, 5, 6, 7, 8] [0, 1, 2] [⟨4, 2, 1, true⟩, ⟨8, 2, 2, true⟩, ⟨9, 2, 3, true⟩, ⟨10, 2, 4, true⟩, ⟨5, 2, 5, true⟩, ⟨6, 2, 6, true⟩, ⟨7, 2, 7, true⟩, ⟨3, 0, 0, false⟩, ⟨0, 0, 0, false⟩, ⟨1, 0, 0, false⟩, ⟨2, 0, 0, false⟩] h)
  · clear H; obtain ⟨_, _, _, _, _, _, _, _, _, _, _, _, _, _, _, _, _, _, _, _, _, _, _, _, _, _, _, _, H, _⟩ := hS; rw [spec_JoinChunk.l0] at H; cases H
  clear H
  obtain ⟨x15_6, Ax15_6, cx15_6, x15_8, x15_2_0, x15_2_4, x15_5_0, x15_5_1, Ax15_5_1, cx15_5_1, x15_5_2, Ax15_5_2, cx15_5_2, x15_5_3, Ax15_5_3, cx15_5_3, x15_5_4, x15_7_0, x15_7_1, Ax15_7_1, cx15_7_1, x15_7_2, Ax15_7_2, cx15_7_2, x15_7_3, Ax15_7_3, cx15_7_3, x15_7_4, H, rfl⟩ := hS
  rw [spec_JoinChunk.l0] at H
  refine gs (gs (rg (sv (EV.mv rfl) rfl (sv (EV.fa 1 rfl) rfl (sv (EV.ld 0 none rfl rfl rfl) rfl (sv (EV.ln rfl) rfl (sv (EV.lss rfl rfl) rfl (sv (EV.mv rfl) rfl ?_))))))))
  revert H; refine ifsI ?_ ?_ <;> intro c4 H
  ·
   refine ts 18 rfl (dT c4) (sv (EV.ld (v := .agg #[.int .i64 x15_2_0, .slice Al0_1 l0_1.length cl0_1, .slice Al0_2 l0_2.length cl0_2, .slice Al0_3 l0_3.length cl0_3, .int .i64 x15_2_4]) 0 (some 5) rfl rfl rfl) rfl ?_)
   revert H; refine bdI ?_; rintro t5 A5 H
   refine so rfl (op_call (spec_IsValidTask.ok n0 x15_2_0 l0_1 Al0_1 cl0_1 l0_2 Al0_2 cl0_2 l0_3 Al0_3 cl0_3 x15_2_4 _ A5) [⟨8, 0, 0, false⟩, ⟨9, 0, 0, false⟩, ⟨10, 0, 0, false⟩] 8 rfl rfl rfl rfl rfl ?_)
   rintro _ _ _ ⟨rfl, rfl, rfl⟩
   refine sv (EV.pt rfl rfl rfl) rfl (re (pr [1, 2, 5, 6, 7, 8, 19, 20, 21] [0, 1, 2] [0, 1, 2, 3, 4, 5, 6, 7, 8, 9, 10] rfl rfl rfl rfl ?_))
   revert H; refine ifsI ?_ ?_ <;> intro c6 H
   ·
    subst c6
    refine gt rfl rfl (gk (gs (gb (gs (rg (sv (EV.fa 1 rfl) rfl (sv (EV.ld 0 none rfl rfl rfl) rfl (sv (EV.mv rfl) rfl ?_))))))))
    revert H; refine ggI ?_; intro g7 H
    refine sv (EV.ix 8 rfl rfl rfl g7 c4 rfl) rfl (sv (EV.le (v := .agg #[.int .i64 ((rd_T70 l0_1 x15_8).f0), .int .i64 ((rd_T70 l0_1 x15_8).f1), .int .i64 ((rd_T70 l0_1 x15_8).f2)]) x15_8 0 (some 3) 8 z70 rfl rfl rfl g7 c4 rfl rfl rfl) rfl (sv (EV.mv rfl) rfl ?_))
    revert H; refine bdI ?_; rintro t8 A8 H
    refine so rfl (op_call (spec_CountMatches.ok n0 ((rd_T70 l0_1 x15_8).f0) ((rd_T70 l0_1 x15_8).f1) ((rd_T70 l0_1 x15_8).f2) l1 Al1 cl1 _ A8) [⟨7, 0, 0, false⟩] 8 rfl rfl rfl rfl rfl ?_)
    rintro _ _ _ ⟨rfl, rfl, rfl⟩
    refine sv (EV.as rfl) rfl (re (pr [1, 2, 5, 6, 7, 8, 9, 19, 20] [0, 1, 2] [0, 1, 2, 3, 4, 5, 6, 7, 8, 9, 10] rfl rfl rfl rfl (gs (gs (rg (sv (EV.mv rfl) rfl (sv (EV.eql rfl rfl) rfl (re ?_))))))))
    revert H; refine ifsI ?_ ?_ <;> intro c9 H
    ·
     exact gt rfl (dT c9) (gx rfl (rg (sv (EV.mv rfl) rfl (sv (EV.add rfl rfl) rfl (sv (EV.as rfl) rfl (re (wk [1, 2, 5, 6, 7, 8] [0, 1, 2] [⟨0, 2, 1, true⟩, ⟨1, 2, 2, true⟩, ⟨2, 2, 3, true⟩, ⟨3, 2, 4, true⟩, ⟨4, 2, 5, true⟩, ⟨5, 2, 6, true⟩, ⟨6, 2, 7, true⟩, ⟨7, 0, 0, false⟩, ⟨8, 0, 0, false⟩, ⟨9, 0, 0, false⟩, ⟨10, 0, 0, false⟩] (ih0 _ (by omega) _ ⟨x15_6, Ax15_6, cx15_6, wrap64 (x15_8 + 1), x15_2_0, x15_2_4, x15_5_0, x15_5_1, Ax15_5_1, cx15_5_1, x15_5_2, Ax15_5_2, cx15_5_2, x15_5_3, Ax15_5_3, cx15_5_3, x15_5_4, x15_7_0, x15_7_1, Ax15_7_1, cx15_7_1, x15_7_2, Ax15_7_2, cx15_7_2, x15_7_3, Ax15_7_3, cx15_7_3, x15_7_4, H, rfl⟩))))))))
    ·
     refine gf rfl (dF c9) (gk ?_)
     refine jo (fun S => ∃ (m : Nat) (x26_6 : List S92) (Ax26_6 : Option Addr) (cx26_6 : Nat) (x26_8 : Int) (x26_19_0 : Int) (x26_19_4 : Int) (x26_20 : Bool) (x26_2_0 : Int) (x26_2_4 : Int) (x26_5_0 : Int) (x26_5_1 : List S70) (Ax26_5_1 : Option Addr) (cx26_5_1 : Nat) (x26_5_2 : List S70) (Ax26_5_2 : Option Addr) (cx26_5_2 : Nat) (x26_5_3 : List Bool) (Ax26_5_3 : Option Addr) (cx26_5_3 : Nat) (x26_5_4 : Int) (x26_7_0 : Int) (x26_7_1 : List S70) (Ax26_7_1 : Option Addr) (cx26_7_1 : Nat) (x26_7_2 : List S70) (Ax26_7_2 : Option Addr) (cx26_7_2 : Nat) (x26_7_3 : List Bool) (Ax26_7_3 : Option Addr) (cx26_7_3 : Nat) (x26_7_4 : Int), m ≤ n0 ∧ spec_JoinChunk.j1 m x26_6 x26_8 x26_19_0 x26_19_4 x26_20 x26_2_0 x26_2_4 x26_5_0 x26_5_1 x26_5_2 x26_5_3 x26_5_4 x26_7_0 x26_7_1 x26_7_2 x26_7_3 x26_7_4 l1 l0_1 l0_2 l0_3 = some (r0, r1, r2, r3, r4, r5) ∧ S = ⟨[(1, .slice Al1 l1.length cl1), (2, .pointer (some ⟨b2, 0, none⟩)), (5, .pointer (some ⟨b5, 0, none⟩)), (6, .slice Ax26_6 x26_6.length cx26_6), (7, .pointer (some ⟨b7, 0, none⟩)), (8, .int .i64 x26_8), (19, .agg #[.int .i64 x26_19_0, .slice Al0_1 l0_1.length cl0_1, .slice Al0_2 l0_2.length cl0_2, .slice Al0_3 l0_3.length cl0_3, .int .i64 x26_19_4]), (20, .bool x26_20)], [⟨b2, 44, [.int .i64 x26_2_0, .slice Al0_1 l0_1.length cl0_1, .slice Al0_2 l0_2.length cl0_2, .slice Al0_3 l0_3.length cl0_3, .int .i64 x26_2_4]⟩, ⟨b5, 44, [.int .i64 x26_5_0, .slice Ax26_5_1 x26_5_1.length cx26_5_1, .slice Ax26_5_2 x26_5_2.length cx26_5_2, .slice Ax26_5_3 x26_5_3.length cx26_5_3, .int .i64 x26_5_4]⟩, ⟨b7, 44, [.int .i64 x26_7_0, .slice Ax26_7_1 x26_7_1.length cx26_7_1, .slice Ax26_7_2 x26_7_2.length cx26_7_2, .slice Ax26_7_3 x26_7_3.length cx26_7_3, .int .i64 x26_7_4]⟩], [.sl 2 k92 Ax26_6 cx26_6 x26_6 1 true, .sl 2 k70 Ax26_5_1 cx26_5_1 x26_5_1 2 true, .sl 2 k70 Ax26_5_2 cx26_5_2 x26_5_2 3 true, .sl 2 .bool Ax26_5_3 cx26_5_3 x26_5_3 4 true, .sl 2 k70 Ax26_7_1 cx26_7_1 x26_7_1 5 true, .sl 2 k70 Ax26_7_2 cx26_7_2 x26_7_2 6 true, .sl 2 .bool Ax26_7_3 cx26_7_3 x26_7_3 7 true, .sl 0 k70 Al1 cl1 l1 0 false, .sl 0 k70 Al0_1 cl0_1 l0_1 0 false, .sl 0 k70 Al0_2 cl0_2 l0_2 0 false, .sl 0 .bool Al0_3 cl0_3 l0_3 0 false]⟩) (fun S hS => ?_) (fun jh1 => ?_)
     ·
      clear H
      obtain ⟨m10, x26_6, Ax26_6, cx26_6, x26_8, x26_19_0, x26_19_4, x26_20, x26_2_0, x26_2_4, x26_5_0, x26_5_1, Ax26_5_1, cx26_5_1, x26_5_2, Ax26_5_2, cx26_5_2, x26_5_3, Ax26_5_3, cx26_5_3, x26_5_4, x26_7_0, x26_7_1, Ax26_7_1, cx26_7_1, x26_7_2, Ax26_7_2, cx26_7_2, x26_7_3, Ax26_7_3, cx26_7_3, x26_7_4, lm10, H, rfl⟩ := hS
      rcases m10 with _ | m10
      · rw [spec_JoinChunk.j1] at H; cases H
      rw [spec_JoinChunk.j1] at H
      refine rg (sv (EV.fa 3 rfl) rfl (sv (EV.ld 2 none rfl rfl rfl) rfl (sv (EV.mv rfl) rfl ?_)))
      revert H; refine ggI ?_; intro g11 H
      revert H; refine ggI ?_; intro g12 H
      exact sv (EV.ix 6 rfl rfl rfl g11 g12 rfl) rfl (so rfl (op_stf x26_8 0 6 false true rfl rfl rfl rfl g11 g12 rfl rfl rfl rfl dq rfl (rlT 65 (v' := .slice Ax26_7_3 (x26_7_3.set x26_8.toNat true).length cx26_7_3) rfl (sle _ _ _ _ _) (rlB 2 (cs' := [.int .i64 x26_7_0, .slice Ax26_7_1 x26_7_1.length cx26_7_1, .slice Ax26_7_2 x26_7_2.length cx26_7_2, .slice Ax26_7_3 (x26_7_3.set x26_8.toNat true).length cx26_7_3, .int .i64 x26_7_4]) rfl (by simp only [List.length_set]) (nmE (en := [.sl 2 k92 Ax26_6 cx26_6 x26_6 1 true, .sl 2 k70 Ax26_5_1 cx26_5_1 x26_5_1 2 true, .sl 2 k70 Ax26_5_2 cx26_5_2 x26_5_2 3 true, .sl 2 .bool Ax26_5_3 cx26_5_3 x26_5_3 4 true, .sl 2 k70 Ax26_7_1 cx26_7_1 x26_7_1 5 true, .sl 2 k70 Ax26_7_2 cx26_7_2 x26_7_2 6 true, .sl 0 k70 Al1 cl1 l1 0 false, .sl 0 k70 Al0_1 cl0_1 l0_1 0 false, .sl 0 k70 Al0_2 cl0_2 l0_2 0 false, .sl 0 .bool Al0_3 cl0_3 l0_3 0 false, .sl 2 .bool Ax26_7_3 cx26_7_3 (x26_7_3.set x26_8.toNat true) 7 true]) (by kernel_rfl) (re (ge (rg (sv (EV.mv rfl) rfl (sv (EV.add rfl rfl) rfl (sv (EV.as rfl) rfl (re (wk [1, 2, 5, 6, 7, 8] [0, 1, 2] [⟨0, 2, 1, true⟩, ⟨1, 2, 2, true⟩, ⟨2, 2, 3, true⟩, ⟨3, 2, 4, true⟩, ⟨4, 2, 5, true⟩, ⟨5, 2, 6, true⟩, ⟨10, 2, 7, true⟩, ⟨6, 0, 0, false⟩, ⟨7, 0, 0, false⟩, ⟨8, 0, 0, false⟩, ⟨9, 0, 0, false⟩] (ih0 _ (by omega) _ ⟨x26_6, Ax26_6, cx26_6, wrap64 (x26_8 + 1), x26_2_0, x26_2_4, x26_5_0, x26_5_1, Ax26_5_1, cx26_5_1, x26_5_2, Ax26_5_2, cx26_5_2, x26_5_3, Ax26_5_3, cx26_5_3, x26_5_4, x26_7_0, x26_7_1, Ax26_7_1, cx26_7_1, x26_7_2, Ax26_7_2, cx26_7_2, x26_7_3.set x26_8.toNat true, Ax26_7_3, cx26_7_3, x26_7_4, H, rfl⟩))))))))))))))
     ·
      refine gs (rg (sv (EV.fa 0 rfl) rfl (sv (EV.ld 0 none rfl rfl rfl) rfl (re (gb (gs (rg (sv (EV.eql rfl rfl) rfl (sv (EV.as rfl) rfl (re ?_))))))))))
      revert H; refine ifsI ?_ ?_ <;> intro c13 H
      ·
       refine gt rfl (dT c13) (gs (rg (sv (EV.fa 3 rfl) rfl (sv (EV.ld 0 none rfl rfl rfl) rfl (sv (EV.mv rfl) rfl ?_)))))
       revert H; refine ggI ?_; intro g14 H
       refine sv (EV.ix 10 rfl rfl rfl g7 g14 rfl) rfl (sv (EV.le (v := .bool (rdOf false l0_3 x15_8)) x15_8 0 none 10 false rfl rfl rfl g7 g14 rfl rfl rfl) rfl (sv (EV.nt rfl) rfl (re (pr [1, 2, 5, 6, 7, 8, 19, 20, 42] [0, 1, 2] [0, 1, 2, 3, 4, 5, 6, 7, 8, 9, 10] rfl rfl rfl rfl ?_))))
       revert H; refine ifsI ?_ ?_ <;> intro c15 H
       ·
        exact gf rfl (bN c15) (gk (ge (wk [1, 2, 5, 6, 7, 8, 19, 20] [0, 1, 2] [⟨0, 2, 1, true⟩, ⟨1, 2, 2, true⟩, ⟨2, 2, 3, true⟩, ⟨3, 2, 4, true⟩, ⟨4, 2, 5, true⟩, ⟨5, 2, 6, true⟩, ⟨6, 2, 7, true⟩, ⟨7, 0, 0, false⟩, ⟨8, 0, 0, false⟩, ⟨9, 0, 0, false⟩, ⟨10, 0, 0, false⟩] (jh1 _ ⟨_, x15_6, Ax15_6, cx15_6, x15_8, x15_2_0, x15_2_4, true, x15_2_0, x15_2_4, x15_5_0, x15_5_1, Ax15_5_1, cx15_5_1, x15_5_2, Ax15_5_2, cx15_5_2, x15_5_3, Ax15_5_3, cx15_5_3, x15_5_4, x15_7_0, x15_7_1, Ax15_7_1, cx15_7_1, x15_7_2, Ax15_7_2, cx15_7_2, x15_7_3, Ax15_7_3, cx15_7_3, x15_7_4, by omega, H, rfl⟩))))
       ·
        refine gt rfl (bM c15) (rg (sv (EV.mv rfl) rfl (sv (EV.fa 1 rfl) rfl (sv (EV.ld 0 none rfl rfl rfl) rfl (sv (EV.mv rfl) rfl (sv (EV.ix 8 rfl rfl rfl g7 c4 rfl) rfl (sv (EV.le (v := .agg #[.int .i64 ((rd_T70 l0_1 x15_8).f0), .int .i64 ((rd_T70 l0_1 x15_8).f1), .int .i64 ((rd_T70 l0_1 x15_8).f2)]) x15_8 0 (some 3) 8 z70 rfl rfl rfl g7 c4 rfl rfl rfl) rfl (sv (EV.bd (v := .agg #[.int .i64 ((rd_T70 l0_1 x15_8).f0), .int .i64 ((rd_T70 l0_1 x15_8).f1), .int .i64 ((rd_T70 l0_1 x15_8).f2), .int .i64 0, .int .i64 0, .int .i64 0, .bool false]) rfl (by kernel_rfl)) rfl (so rfl (op_lit (s := 7) (by_ := 56) k92 ([(⟨(⟨(rd_T70 l0_1 x15_8).f0, (rd_T70 l0_1 x15_8).f1, (rd_T70 l0_1 x15_8).f2⟩ : S70), (⟨0, 0, 0⟩ : S70), false⟩ : S92)] : List S92) [[]] [] 8 [.tmp 49] rfl rfl rfl rfl rfl rfl rfl rfl rfl rfl rfl rfl rfl dq rfl fun A50_16 c50_16 => ?_))))))))))
        revert H; refine ggI ?_; intro g17 H
        exact so rfl (op_app (k := k92) (s := 7) (by_ := 56) 0 11 rfl rfl rfl rfl (ap1 g17 dq) (ap1n g17 dq) (.inl rfl) true (fun _ => .inl rfl) rfl rfl fun A51_18 c51_18 => (nmE (en := [.sl 2 k70 Ax15_5_1 cx15_5_1 x15_5_1 2 true, .sl 2 k70 Ax15_5_2 cx15_5_2 x15_5_2 3 true, .sl 2 .bool Ax15_5_3 cx15_5_3 x15_5_3 4 true, .sl 2 k70 Ax15_7_1 cx15_7_1 x15_7_1 5 true, .sl 2 k70 Ax15_7_2 cx15_7_2 x15_7_2 6 true, .sl 2 .bool Ax15_7_3 cx15_7_3 x15_7_3 7 true, .sl 0 k70 Al1 cl1 l1 0 false, .sl 0 k70 Al0_1 cl0_1 l0_1 0 false, .sl 0 k70 Al0_2 cl0_2 l0_2 0 false, .sl 0 .bool Al0_3 cl0_3 l0_3 0 false, .sl 2 k92 A50_16 c50_16 ([(⟨(⟨(rd_T70 l0_1 x15_8).f0, (rd_T70 l0_1 x15_8).f1, (rd_T70 l0_1 x15_8).f2⟩ : S70), (⟨0, 0, 0⟩ : S70), false⟩ : S92)] : List S92) 8 true, .sl 2 k92 A51_18 c51_18 (x15_6 ++ ([(⟨(⟨(rd_T70 l0_1 x15_8).f0, (rd_T70 l0_1 x15_8).f1, (rd_T70 l0_1 x15_8).f2⟩ : S70), (⟨0, 0, 0⟩ : S70), false⟩ : S92)] : List S92)) 1 true]) (by kernel_rfl) (sv (EV.as rfl) rfl (re (pr [1, 2, 5, 6, 7, 8, 19, 20] [0, 1, 2] [0, 1, 2, 3, 4, 5, 6, 7, 8, 9, 11] rfl rfl rfl rfl (ge (wk [1, 2, 5, 6, 7, 8, 19, 20] [0, 1, 2] [⟨10, 2, 1, true⟩, ⟨0, 2, 2, true⟩, ⟨1, 2, 3, true⟩, ⟨2, 2, 4, true⟩, ⟨3, 2, 5, true⟩, ⟨4, 2, 6, true⟩, ⟨5, 2, 7, true⟩, ⟨6, 0, 0, false⟩, ⟨7, 0, 0, false⟩, ⟨8, 0, 0, false⟩, ⟨9, 0, 0, false⟩] (jh1 _ ⟨_, x15_6 ++ ([(⟨(⟨(rd_T70 l0_1 x15_8).f0, (rd_T70 l0_1 x15_8).f1, (rd_T70 l0_1 x15_8).f2⟩ : S70), (⟨0, 0, 0⟩ : S70), false⟩ : S92)] : List S92), A51_18, c51_18, x15_8, x15_2_0, x15_2_4, true, x15_2_0, x15_2_4, x15_5_0, x15_5_1, Ax15_5_1, cx15_5_1, x15_5_2, Ax15_5_2, cx15_5_2, x15_5_3, Ax15_5_3, cx15_5_3, x15_5_4, x15_7_0, x15_7_1, Ax15_7_1, cx15_7_1, x15_7_2, Ax15_7_2, cx15_7_2, x15_7_3, Ax15_7_3, cx15_7_3, x15_7_4, by omega, H, rfl⟩))))))))
      ·
       refine gf rfl (dF c13) ?_
       refine jo (fun S => ∃ (m : Nat) (x27_6 : List S92) (Ax27_6 : Option Addr) (cx27_6 : Nat) (x27_8 : Int) (x27_19_0 : Int) (x27_19_4 : Int) (x27_20 : Bool) (x27_52 : Bool) (x27_2_0 : Int) (x27_2_4 : Int) (x27_5_0 : Int) (x27_5_1 : List S70) (Ax27_5_1 : Option Addr) (cx27_5_1 : Nat) (x27_5_2 : List S70) (Ax27_5_2 : Option Addr) (cx27_5_2 : Nat) (x27_5_3 : List Bool) (Ax27_5_3 : Option Addr) (cx27_5_3 : Nat) (x27_5_4 : Int) (x27_7_0 : Int) (x27_7_1 : List S70) (Ax27_7_1 : Option Addr) (cx27_7_1 : Nat) (x27_7_2 : List S70) (Ax27_7_2 : Option Addr) (cx27_7_2 : Nat) (x27_7_3 : List Bool) (Ax27_7_3 : Option Addr) (cx27_7_3 : Nat) (x27_7_4 : Int), m ≤ n0 ∧ spec_JoinChunk.j2 m x27_6 x27_8 x27_19_0 x27_19_4 x27_20 x27_52 x27_2_0 x27_2_4 x27_5_0 x27_5_1 x27_5_2 x27_5_3 x27_5_4 x27_7_0 x27_7_1 x27_7_2 x27_7_3 x27_7_4 l1 l0_1 l0_2 l0_3 = some (r0, r1, r2, r3, r4, r5) ∧ S = ⟨[(1, .slice Al1 l1.length cl1), (2, .pointer (some ⟨b2, 0, none⟩)), (5, .pointer (some ⟨b5, 0, none⟩)), (6, .slice Ax27_6 x27_6.length cx27_6), (7, .pointer (some ⟨b7, 0, none⟩)), (8, .int .i64 x27_8), (19, .agg #[.int .i64 x27_19_0, .slice Al0_1 l0_1.length cl0_1, .slice Al0_2 l0_2.length cl0_2, .slice Al0_3 l0_3.length cl0_3, .int .i64 x27_19_4]), (20, .bool x27_20), (52, .bool x27_52)], [⟨b2, 44, [.int .i64 x27_2_0, .slice Al0_1 l0_1.length cl0_1, .slice Al0_2 l0_2.length cl0_2, .slice Al0_3 l0_3.length cl0_3, .int .i64 x27_2_4]⟩, ⟨b5, 44, [.int .i64 x27_5_0, .slice Ax27_5_1 x27_5_1.length cx27_5_1, .slice Ax27_5_2 x27_5_2.length cx27_5_2, .slice Ax27_5_3 x27_5_3.length cx27_5_3, .int .i64 x27_5_4]⟩, ⟨b7, 44, [.int .i64 x27_7_0, .slice Ax27_7_1 x27_7_1.length cx27_7_1, .slice Ax27_7_2 x27_7_2.length cx27_7_2, .slice Ax27_7_3 x27_7_3.length cx27_7_3, .int .i64 x27_7_4]⟩], [.sl 2 k92 Ax27_6 cx27_6 x27_6 1 true, .sl 2 k70 Ax27_5_1 cx27_5_1 x27_5_1 2 true, .sl 2 k70 Ax27_5_2 cx27_5_2 x27_5_2 3 true, .sl 2 .bool Ax27_5_3 cx27_5_3 x27_5_3 4 true, .sl 2 k70 Ax27_7_1 cx27_7_1 x27_7_1 5 true, .sl 2 k70 Ax27_7_2 cx27_7_2 x27_7_2 6 true, .sl 2 .bool Ax27_7_3 cx27_7_3 x27_7_3 7 true, .sl 0 k70 Al1 cl1 l1 0 false, .sl 0 k70 Al0_1 cl0_1 l0_1 0 false, .sl 0 k70 Al0_2 cl0_2 l0_2 0 false, .sl 0 .bool Al0_3 cl0_3 l0_3 0 false]⟩) (fun S hS => ?_) (fun jh2 => ?_)
       ·
        clear H
        obtain ⟨m19, x27_6, Ax27_6, cx27_6, x27_8, x27_19_0, x27_19_4, x27_20, x27_52, x27_2_0, x27_2_4, x27_5_0, x27_5_1, Ax27_5_1, cx27_5_1, x27_5_2, Ax27_5_2, cx27_5_2, x27_5_3, Ax27_5_3, cx27_5_3, x27_5_4, x27_7_0, x27_7_1, Ax27_7_1, cx27_7_1, x27_7_2, Ax27_7_2, cx27_7_2, x27_7_3, Ax27_7_3, cx27_7_3, x27_7_4, lm19, H, rfl⟩ := hS
        rcases m19 with _ | m19
        · rw [spec_JoinChunk.j2] at H; cases H
        rw [spec_JoinChunk.j2] at H
        revert H; refine ifsI ?_ ?_ <;> intro c20 H
        ·
         subst c20
         refine gt rfl rfl (rg (sv (EV.mv rfl) rfl (sv (EV.fa 1 rfl) rfl (sv (EV.ld 0 none rfl rfl rfl) rfl (sv (EV.mv rfl) rfl ?_)))))
         revert H; refine ggI ?_; intro g21 H
         revert H; refine ggI ?_; intro g22 H
         refine sv (EV.ix 8 rfl rfl rfl g21 g22 rfl) rfl (sv (EV.le (v := .agg #[.int .i64 ((rd_T70 l0_1 x27_8).f0), .int .i64 ((rd_T70 l0_1 x27_8).f1), .int .i64 ((rd_T70 l0_1 x27_8).f2)]) x27_8 0 (some 3) 8 z70 rfl rfl rfl g21 g22 rfl rfl rfl) rfl (sv (EV.mv rfl) rfl ?_))
         revert H; refine bdI ?_; rintro t23 A23 H
         refine so rfl (op_call (spec_l7One.ok m19 1 ((rd_T70 l0_1 x27_8).f0) ((rd_T70 l0_1 x27_8).f1) ((rd_T70 l0_1 x27_8).f2) l1 Al1 cl1 _ A23) [⟨7, 0, 0, false⟩] 8 rfl rfl rfl rfl rfl ?_)
         rintro _ _ _ ⟨At23, ct23, rfl, rfl, rfl⟩
         revert H; refine ggI ?_; intro g24 H
         exact so rfl (op_app (k := k92) (s := 7) (by_ := 56) 0 11 rfl rfl rfl rfl (ap2 g24 dq) (ap2n g24 dq) (.inl rfl) true (fun _ => .inl rfl) rfl rfl fun A63_25 c63_25 => (nmE (en := [.sl 2 k70 Ax27_5_1 cx27_5_1 x27_5_1 2 true, .sl 2 k70 Ax27_5_2 cx27_5_2 x27_5_2 3 true, .sl 2 .bool Ax27_5_3 cx27_5_3 x27_5_3 4 true, .sl 2 k70 Ax27_7_1 cx27_7_1 x27_7_1 5 true, .sl 2 k70 Ax27_7_2 cx27_7_2 x27_7_2 6 true, .sl 2 .bool Ax27_7_3 cx27_7_3 x27_7_3 7 true, .sl 0 k70 Al1 cl1 l1 0 false, .sl 0 k70 Al0_1 cl0_1 l0_1 0 false, .sl 0 k70 Al0_2 cl0_2 l0_2 0 false, .sl 0 .bool Al0_3 cl0_3 l0_3 0 false, .sl 2 k92 At23 ct23 t23 9 true, .sl 2 k92 A63_25 c63_25 (x27_6 ++ t23) 1 true]) (by kernel_rfl) (sv (EV.as rfl) rfl (re (pr [1, 2, 5, 6, 7, 8, 19, 20] [0, 1, 2] [0, 1, 2, 3, 4, 5, 6, 7, 8, 9, 11] rfl rfl rfl rfl (ge (wk [1, 2, 5, 6, 7, 8, 19, 20] [0, 1, 2] [⟨10, 2, 1, true⟩, ⟨0, 2, 2, true⟩, ⟨1, 2, 3, true⟩, ⟨2, 2, 4, true⟩, ⟨3, 2, 5, true⟩, ⟨4, 2, 6, true⟩, ⟨5, 2, 7, true⟩, ⟨6, 0, 0, false⟩, ⟨7, 0, 0, false⟩, ⟨8, 0, 0, false⟩, ⟨9, 0, 0, false⟩] (jh1 _ ⟨_, x27_6 ++ t23, A63_25, c63_25, x27_8, x27_19_0, x27_19_4, x27_20, x27_2_0, x27_2_4, x27_5_0, x27_5_1, Ax27_5_1, cx27_5_1, x27_5_2, Ax27_5_2, cx27_5_2, x27_5_3, Ax27_5_3, cx27_5_3, x27_5_4, x27_7_0, x27_7_1, Ax27_7_1, cx27_7_1, x27_7_2, Ax27_7_2, cx27_7_2, x27_7_3, Ax27_7_3, cx27_7_3, x27_7_4, by omega, H, rfl⟩))))))))
        ·
         obtain rfl := bF c20
         exact gf rfl rfl (gk (ge (wk [1, 2, 5, 6, 7, 8, 19, 20] [0, 1, 2] [⟨0, 2, 1, true⟩, ⟨1, 2, 2, true⟩, ⟨2, 2, 3, true⟩, ⟨3, 2, 4, true⟩, ⟨4, 2, 5, true⟩, ⟨5, 2, 6, true⟩, ⟨6, 2, 7, true⟩, ⟨7, 0, 0, false⟩, ⟨8, 0, 0, false⟩, ⟨9, 0, 0, false⟩, ⟨10, 0, 0, false⟩] (jh1 _ ⟨_, x27_6, Ax27_6, cx27_6, x27_8, x27_19_0, x27_19_4, x27_20, x27_2_0, x27_2_4, x27_5_0, x27_5_1, Ax27_5_1, cx27_5_1, x27_5_2, Ax27_5_2, cx27_5_2, x27_5_3, Ax27_5_3, cx27_5_3, x27_5_4, x27_7_0, x27_7_1, Ax27_7_1, cx27_7_1, x27_7_2, Ax27_7_2, cx27_7_2, x27_7_3, Ax27_7_3, cx27_7_3, x27_7_4, by omega, H, rfl⟩))))
       ·
        refine gs (rg (sv (EV.eql rfl rfl) rfl (sv (EV.as rfl) rfl (re (pr [1, 2, 5, 6, 7, 8, 19, 20, 34, 52] [0, 1, 2] [0, 1, 2, 3, 4, 5, 6, 7, 8, 9, 10] rfl rfl rfl rfl ?_)))))
        revert H; refine ifsI ?_ ?_ <;> intro c26 H
        ·
         exact gt rfl (dT c26) (gk (wk [1, 2, 5, 6, 7, 8, 19, 20, 52] [0, 1, 2] [⟨0, 2, 1, true⟩, ⟨1, 2, 2, true⟩, ⟨2, 2, 3, true⟩, ⟨3, 2, 4, true⟩, ⟨4, 2, 5, true⟩, ⟨5, 2, 6, true⟩, ⟨6, 2, 7, true⟩, ⟨7, 0, 0, false⟩, ⟨8, 0, 0, false⟩, ⟨9, 0, 0, false⟩, ⟨10, 0, 0, false⟩] (jh2 _ ⟨_, x15_6, Ax15_6, cx15_6, x15_8, x15_2_0, x15_2_4, true, decide (x15_2_0 = 1), x15_2_0, x15_2_4, x15_5_0, x15_5_1, Ax15_5_1, cx15_5_1, x15_5_2, Ax15_5_2, cx15_5_2, x15_5_3, Ax15_5_3, cx15_5_3, x15_5_4, x15_7_0, x15_7_1, Ax15_7_1, cx15_7_1, x15_7_2, Ax15_7_2, cx15_7_2, x15_7_3, Ax15_7_3, cx15_7_3, x15_7_4, by omega, H, rfl⟩)))
        ·
         exact gf rfl (dF c26) (rg (sv (EV.eql rfl rfl) rfl (sv (EV.as rfl) rfl (re (wk [1, 2, 5, 6, 7, 8, 19, 20, 52] [0, 1, 2] [⟨0, 2, 1, true⟩, ⟨1, 2, 2, true⟩, ⟨2, 2, 3, true⟩, ⟨3, 2, 4, true⟩, ⟨4, 2, 5, true⟩, ⟨5, 2, 6, true⟩, ⟨6, 2, 7, true⟩, ⟨7, 0, 0, false⟩, ⟨8, 0, 0, false⟩, ⟨9, 0, 0, false⟩, ⟨10, 0, 0, false⟩] (jh2 _ ⟨_, x15_6, Ax15_6, cx15_6, x15_8, x15_2_0, x15_2_4, true, decide (x15_2_0 = 4), x15_2_0, x15_2_4, x15_5_0, x15_5_1, Ax15_5_1, cx15_5_1, x15_5_2, Ax15_5_2, cx15_5_2, x15_5_3, Ax15_5_3, cx15_5_3, x15_5_4, x15_7_0, x15_7_1, Ax15_7_1, cx15_7_1, x15_7_2, Ax15_7_2, cx15_7_2, x15_7_3, Ax15_7_3, cx15_7_3, x15_7_4, by omega, H, rfl⟩))))))
   ·
    obtain rfl := bF c6
    exact gf rfl rfl (gx rfl (wk [5, 6, 7] [1, 2] [⟨0, 2, 1, true⟩, ⟨1, 2, 2, true⟩, ⟨2, 2, 3, true⟩, ⟨3, 2, 4, true⟩, ⟨4, 2, 5, true⟩, ⟨5, 2, 6, true⟩, ⟨6, 2, 7, true⟩] (jh0 _ ⟨_, x15_6, Ax15_6, cx15_6, x15_5_0, x15_5_1, Ax15_5_1, cx15_5_1, x15_5_2, Ax15_5_2, cx15_5_2, x15_5_3, Ax15_5_3, cx15_5_3, x15_5_4, x15_7_0, x15_7_1, Ax15_7_1, cx15_7_1, x15_7_2, Ax15_7_2, cx15_7_2, x15_7_3, Ax15_7_3, cx15_7_3, x15_7_4, H, rfl⟩)))
  ·
   exact ts 18 rfl (dF c4) (sk rfl (sk rfl (sv (EV.pf rfl rfl rfl) rfl (re (pr [1, 2, 5, 6, 7, 8, 21] [0, 1, 2] [0, 1, 2, 3, 4, 5, 6, 7, 8, 9, 10] rfl rfl rfl rfl (gf rfl rfl (gx rfl (wk [5, 6, 7] [1, 2] [⟨0, 2, 1, true⟩, ⟨1, 2, 2, true⟩, ⟨2, 2, 3, true⟩, ⟨3, 2, 4, true⟩, ⟨4, 2, 5, true⟩, ⟨5, 2, 6, true⟩, ⟨6, 2, 7, true⟩] (jh0 _ ⟨_, x15_6, Ax15_6, cx15_6, x15_5_0, x15_5_1, Ax15_5_1, cx15_5_1, x15_5_2, Ax15_5_2, cx15_5_2, x15_5_3, Ax15_5_3, cx15_5_3, x15_5_4, x15_7_0, x15_7_1, Ax15_7_1, cx15_7_1, x15_7_2, Ax15_7_2, cx15_7_2, x15_7_3, Ax15_7_3, cx15_7_3, x15_7_4, H, rfl⟩)))))))))
end Go.Proofs.Ytajjeemkdjfilaa.K
namespace Go.Proofs.Ytajjeemkdjfilaa.K
open Go Go.RowKit
set_option linter.unusedVariables false
set_option linter.unusedSimpArgs false
def spec_DrawUnmatchedRows.f (k : Nat) (l0 : List Int) : Option (Int × (List S70) × (List S70) × (List Bool) × Int) := (spec_l1New.f k l0).bind fun bt1 => ((spec_l16Any.f k l0 bt1.1 bt1.2 6).bind fun bt2 => (some (bt2.1, bt2.2.1, bt2.2.2.1, bt2.2.2.2.1, bt2.2.2.2.2.1)))
set_option maxHeartbeats 4000000 in
set_option maxRecDepth 100000 in
theorem spec_DrawUnmatchedRows.ok (k : Nat) (l0 : List Int) (Al0 : Option Addr) (cl0 : Nat) (r0 : Int) (r1 : List S70) (r2 : List S70) (r3 : List Bool) (r4 : Int) (H : spec_DrawUnmatchedRows.f k l0 = some (r0, r1, r2, r3, r4)) : Fn Try.prog 27 [.slice Al0 l0.length cl0] [] [.sl 0 (.int .u8) Al0 cl0 l0 0 false] (fun v bx en => ∃ A1 c1 A2 c2 A3 c3, v = .agg #[.int .i64 r0, .slice A1 r1.length c1, .slice A2 r2.length c2, .slice A3 r3.length c3, .int .i64 r4] ∧ bx = [] ∧ en = [.sl 2 k70 A1 c1 r1 1 true, .sl 2 k70 A2 c2 r2 2 true, .sl 2 .bool A3 c3 r3 3 true]) := by
 refine fn_ 6 Try.func27 rfl rfl rfl (fun base T w0 => ?_)
 rw [spec_DrawUnmatchedRows.f] at H
 refine gs (rg (so rfl (op_alloc (cs := [.int .i64 0, .slice none 0 0, .slice none 0 0, .slice none 0 0, .int .i64 0]) (by kernel_rfl) rfl fun b2 => (re (gs (rg (sv (EV.mv rfl) rfl ?_)))))))
 revert H; refine bdI ?_; rintro ⟨t1_0, t1_1⟩ A1 H
 refine so rfl (op_callM (spec_l1New.ok k l0 Al0 cl0 _ _ A1) [⟨0, 0, 0, false⟩] [] [0] 1 rfl rfl rfl rfl rfl rfl rfl rfl ?_)
 rintro _ _ _ ⟨b2001, rfl, rfl, rfl⟩
 refine nmE (en := [.sl 0 (.int .u8) Al0 cl0 l0 0 false]) (by kernel_rfl) ?_
 revert H; refine bdI ?_; rintro ⟨t2_0, t2_1, t2_2, t2_3, t2_4, t2_5, t2_6⟩ A2 H
 refine so rfl (op_callM (spec_l16Any.ok k b2001 l0 Al0 cl0 t1_0 t1_1 6 _ _ _ _ _ _ _ A2) [⟨0, 0, 0, false⟩] [1] [0] 1 rfl rfl rfl rfl rfl rfl rfl rfl ?_)
 rintro _ _ _ ⟨At2_1, ct2_1, At2_2, ct2_2, At2_3, ct2_3, rfl, rfl, rfl⟩
 refine nmE (en := [.sl 0 (.int .u8) Al0 cl0 l0 0 false, .sl 2 k70 At2_1 ct2_1 t2_1 2 true, .sl 2 k70 At2_2 ct2_2 t2_2 3 true, .sl 2 .bool At2_3 ct2_3 t2_3 4 true]) (by kernel_rfl) (so rfl (op_st (cs' := [.int .i64 t2_0, .slice At2_1 t2_1.length ct2_1, .slice At2_2 t2_2.length ct2_2, .slice At2_3 t2_3.length ct2_3, .int .i64 t2_4]) 0 rfl rfl rfl rfl rfl rfl (re ?_)))
 cases H
 exact rt Try.func27 rfl (.cell 0 (some 5) rfl rfl rfl .nil) rfl [] [⟨1, 2, 1, true⟩, ⟨2, 2, 2, true⟩, ⟨3, 2, 3, true⟩] rfl rfl rfl rfl rfl ⟨_, _, _, _, _, _, rfl, rfl, rfl⟩
end Go.Proofs.Ytajjeemkdjfilaa.K
namespace Go.Proofs.Ytajjeemkdjfilaa.K
open Go Go.RowKit
set_option linter.unusedVariables false
set_option linter.unusedSimpArgs false
def spec_l6Rows.l0 : Nat → Int → (List S70) → (List S70) → Option (Bool)
 | 0, _, _, _ => none
 | k + 1, x2_5, l0, l1 => if x2_5 < (l0.length : Int) then (if 0 ≤ x2_5 then (if x2_5 < (l1.length : Int) then (if (((rd_T70 l0 x2_5).f0) == ((rd_T70 l1 x2_5).f0) && (((rd_T70 l0 x2_5).f1) == ((rd_T70 l1 x2_5).f1) && (((rd_T70 l0 x2_5).f2) == ((rd_T70 l1 x2_5).f2)))) = true then (spec_l6Rows.l0 k (wrap64 (x2_5 + 1)) l0 l1) else (some false)) else none) else none) else (some true)
def spec_l6Rows.f (k : Nat) (l0 : List S70) (l1 : List S70) : Option (Bool) := if (l0.length : Int) = (l1.length : Int) then (spec_l6Rows.l0 k 0 l0 l1) else (some false)
set_option maxHeartbeats 4000000 in
set_option maxRecDepth 100000 in
theorem spec_l6Rows.ok (k : Nat) (l0 : List S70) (Al0 : Option Addr) (cl0 : Nat) (l1 : List S70) (Al1 : Option Addr) (cl1 : Nat) (r0 : Bool) (H : spec_l6Rows.f k l0 l1 = some r0) : Fn Try.prog 82 [.slice Al0 l0.length cl0, .slice Al1 l1.length cl1] [] [.sl 0 k70 Al0 cl0 l0 0 false, .sl 0 k70 Al1 cl1 l1 0 false] (fun v bx en => v = .bool r0 ∧ bx = [] ∧ en = []) := by
 refine fn_ 26 Try.func82 rfl rfl rfl (fun base T w0 => ?_)
 rw [spec_l6Rows.f] at H
 refine gs (rg (sv (EV.as rfl) rfl (re (gs (gs (rg (sv (EV.mv rfl) rfl (sv (EV.ln rfl) rfl (sv (EV.mv rfl) rfl (sv (EV.ln rfl) rfl (sv (EV.neq rfl rfl) rfl (re ?_))))))))))))
 revert H; refine ifsI ?_ ?_ <;> intro c1 H
 ·
  refine gf rfl (nF c1) (gk (gs (gs (rg (sv (EV.as rfl) rfl (re (pr [0, 1, 5] [] [0, 1] rfl rfl rfl rfl (gb ?_))))))))
  refine lo (fun kk S => ∃ (x2_5 : Int), spec_l6Rows.l0 kk x2_5 l0 l1 = some r0 ∧ S = ⟨[(0, .slice Al0 l0.length cl0), (1, .slice Al1 l1.length cl1), (5, .int .i64 x2_5)], [], [.sl 0 k70 Al0 cl0 l0 0 false, .sl 0 k70 Al1 cl1 l1 0 false]⟩) (fun S hS => ?_) (fun n0 ih0 S hS => ?_) ⟨0, H, rfl⟩ (fun h => wk [0, 1, 5] [] [⟨0, 0, 0, false⟩, ⟨1, 0, 0, false⟩] h)
  · clear H; obtain ⟨_, H, _⟩ := hS; rw [spec_l6Rows.l0] at H; cases H
  clear H
  obtain ⟨x2_5, H, rfl⟩ := hS
  rw [spec_l6Rows.l0] at H
  refine gs (gs (rg (sv (EV.mv rfl) rfl (sv (EV.mv rfl) rfl (sv (EV.ln rfl) rfl (sv (EV.lss rfl rfl) rfl (re ?_)))))))
  revert H; refine ifsI ?_ ?_ <;> intro c2 H
  ·
   refine gt rfl (dT c2) (gk (gs (gb (gs ?_))))
   revert H; refine ggI ?_; intro g3 H
   revert H; refine ggI ?_; intro g4 H
   refine dr [] [0, 1] [] 9 rfl rfl rfl rfl (xv 0 [] [0, 1] rfl (EV.mv rfl) rfl rfl rfl rfl (xv 1 [] [0, 1] rfl (EV.mv rfl) rfl rfl rfl rfl (xv 2 [] [0, 1] rfl (EV.ix 0 rfl rfl rfl g3 c2 rfl) rfl rfl rfl rfl (xv 3 [] [0, 1] rfl (EV.le (v := .agg #[.int .i64 ((rd_T70 l0 x2_5).f0), .int .i64 ((rd_T70 l0 x2_5).f1), .int .i64 ((rd_T70 l0 x2_5).f2)]) x2_5 0 (some 3) 0 z70 rfl rfl rfl g3 c2 rfl rfl rfl) rfl rfl rfl rfl (xv 4 [] [0, 1] rfl (EV.mv rfl) rfl rfl rfl rfl (xv 5 [] [0, 1] rfl (EV.mv rfl) rfl rfl rfl rfl (xv 6 [] [0, 1] rfl (EV.ix 1 rfl rfl rfl g3 g4 rfl) rfl rfl rfl rfl (xv 7 [] [0, 1] rfl (EV.le (v := .agg #[.int .i64 ((rd_T70 l1 x2_5).f0), .int .i64 ((rd_T70 l1 x2_5).f1), .int .i64 ((rd_T70 l1 x2_5).f2)]) x2_5 0 (some 3) 1 z70 rfl rfl rfl g3 g4 rfl rfl rfl) rfl rfl rfl rfl (xv 8 [] [0, 1] rfl (EV.neS rfl rfl (fun d w => eq70 d w ((rd_T70 l0 x2_5).f0) ((rd_T70 l1 x2_5).f0) ((rd_T70 l0 x2_5).f1) ((rd_T70 l1 x2_5).f1) ((rd_T70 l0 x2_5).f2) ((rd_T70 l1 x2_5).f2))) rfl rfl rfl rfl (xd (pr [0, 1, 5, 25] [] [0, 1] rfl rfl rfl rfl ?_)))))))))))
   revert H; refine ifsI ?_ ?_ <;> intro c5 H
   ·
    exact gf rfl (bN c5) (gk (ge (rg (sv (EV.mv rfl) rfl (sv (EV.add rfl rfl) rfl (sv (EV.as rfl) rfl (re (wk [0, 1, 5] [] [⟨0, 0, 0, false⟩, ⟨1, 0, 0, false⟩] (ih0 _ (by omega) _ ⟨wrap64 (x2_5 + 1), H, rfl⟩)))))))))
   ·
    refine gt rfl (bM c5) (gs (rg (sv (EV.as rfl) rfl (re ?_))))
    cases H
    exact rt Try.func82 rfl (.tmp rfl .nil) rfl [] [] rfl rfl rfl rfl rfl ⟨rfl, rfl, rfl⟩
  ·
   refine gf rfl (dF c2) (gx rfl (gs (rg (sv (EV.as rfl) rfl (re (pr [4] [] [] rfl rfl rfl rfl ?_))))))
   cases H
   exact rt Try.func82 rfl (.tmp rfl .nil) rfl [] [] rfl rfl rfl rfl rfl ⟨rfl, rfl, rfl⟩
 ·
  refine gt rfl (nT c1) (gs (rg (sv (EV.as rfl) rfl (re (pr [4] [] [] rfl rfl rfl rfl ?_)))))
  cases H
  exact rt Try.func82 rfl (.tmp rfl .nil) rfl [] [] rfl rfl rfl rfl rfl ⟨rfl, rfl, rfl⟩
end Go.Proofs.Ytajjeemkdjfilaa.K
namespace Go.Proofs.Ytajjeemkdjfilaa.K
open Go Go.RowKit
set_option linter.unusedVariables false
set_option linter.unusedSimpArgs false
def spec_EqualTasks.l0 : Nat → Int → Int → Int → Int → Int → (List S70) → (List S70) → (List Bool) → (List S70) → (List S70) → (List Bool) → Option (Bool)
 | 0, _, _, _, _, _, _, _, _, _, _, _ => none
 | k + 1, x2_5, x2_2_0, x2_2_4, x2_3_0, x2_3_4, l0_1, l0_2, l0_3, l1_1, l1_2, l1_3 => if x2_5 < (l0_3.length : Int) then (if 0 ≤ x2_5 then (if x2_5 < (l1_3.length : Int) then (if ((rdOf false l0_3 x2_5) == (rdOf false l1_3 x2_5)) = true then (spec_EqualTasks.l0 k (wrap64 (x2_5 + 1)) x2_2_0 x2_2_4 x2_3_0 x2_3_4 l0_1 l0_2 l0_3 l1_1 l1_2 l1_3) else (some false)) else none) else none) else (some true)
def spec_EqualTasks.f (k : Nat) (a0_0 : Int) (l0_1 : List S70) (l0_2 : List S70) (l0_3 : List Bool) (a0_4 : Int) (a1_0 : Int) (l1_1 : List S70) (l1_2 : List S70) (l1_3 : List Bool) (a1_4 : Int) : Option (Bool) := if a0_0 = a1_0 then ((spec_l6Rows.f k l0_1 l1_1).bind fun t2 => (if t2 = true then ((spec_l6Rows.f k l0_2 l1_2).bind fun t4 => (if t4 = true then (if a0_4 = a1_4 then (if (l0_3.length : Int) = (l1_3.length : Int) then (spec_EqualTasks.l0 k 0 a0_0 a0_4 a1_0 a1_4 l0_1 l0_2 l0_3 l1_1 l1_2 l1_3) else (some false)) else (some false)) else (some false))) else (some false))) else (some false)
set_option maxHeartbeats 4000000 in
set_option maxRecDepth 100000 in
theorem spec_EqualTasks.ok (k : Nat) (a0_0 : Int) (l0_1 : List S70) (Al0_1 : Option Addr) (cl0_1 : Nat) (l0_2 : List S70) (Al0_2 : Option Addr) (cl0_2 : Nat) (l0_3 : List Bool) (Al0_3 : Option Addr) (cl0_3 : Nat) (a0_4 : Int) (a1_0 : Int) (l1_1 : List S70) (Al1_1 : Option Addr) (cl1_1 : Nat) (l1_2 : List S70) (Al1_2 : Option Addr) (cl1_2 : Nat) (l1_3 : List Bool) (Al1_3 : Option Addr) (cl1_3 : Nat) (a1_4 : Int) (r0 : Bool) (H : spec_EqualTasks.f k a0_0 l0_1 l0_2 l0_3 a0_4 a1_0 l1_1 l1_2 l1_3 a1_4 = some r0) : Fn Try.prog 28 [.agg #[.int .i64 a0_0, .slice Al0_1 l0_1.length cl0_1, .slice Al0_2 l0_2.length cl0_2, .slice Al0_3 l0_3.length cl0_3, .int .i64 a0_4], .agg #[.int .i64 a1_0, .slice Al1_1 l1_1.length cl1_1, .slice Al1_2 l1_2.length cl1_2, .slice Al1_3 l1_3.length cl1_3, .int .i64 a1_4]] [] [.sl 0 k70 Al0_1 cl0_1 l0_1 0 false, .sl 0 k70 Al0_2 cl0_2 l0_2 0 false, .sl 0 .bool Al0_3 cl0_3 l0_3 0 false, .sl 0 k70 Al1_1 cl1_1 l1_1 0 false, .sl 0 k70 Al1_2 cl1_2 l1_2 0 false, .sl 0 .bool Al1_3 cl1_3 l1_3 0 false] (fun v bx en => v = .bool r0 ∧ bx = [] ∧ en = []) := by
 refine fn_ 61 Try.func28 rfl rfl rfl (fun base T w0 => ?_)
 rw [spec_EqualTasks.f] at H
 refine gs (rg (so rfl (op_box (cs := [.int .i64 a0_0, .slice Al0_1 l0_1.length cl0_1, .slice Al0_2 l0_2.length cl0_2, .slice Al0_3 l0_3.length cl0_3, .int .i64 a0_4]) rfl rfl rfl fun b2 => (so rfl (op_box (cs := [.int .i64 a1_0, .slice Al1_1 l1_1.length cl1_1, .slice Al1_2 l1_2.length cl1_2, .slice Al1_3 l1_3.length cl1_3, .int .i64 a1_4]) rfl rfl rfl fun b3 => (sv (EV.as rfl) rfl (re (gs (gs (rg (sv (EV.fa 0 rfl) rfl (sv (EV.ld 0 none rfl rfl rfl) rfl (sv (EV.fa 0 rfl) rfl (sv (EV.ld 1 none rfl rfl rfl) rfl (sv (EV.neq rfl rfl) rfl (sv (EV.mv rfl) rfl ?_))))))))))))))))
 revert H; refine ifsI ?_ ?_ <;> intro c1 H
 ·
  refine ts 11 rfl (nF c1) (sv (EV.fa 1 rfl) rfl (sv (EV.ld 0 none rfl rfl rfl) rfl (sv (EV.fa 1 rfl) rfl (sv (EV.ld 1 none rfl rfl rfl) rfl ?_))))
  revert H; refine bdI ?_; rintro t2 A2 H
  refine so rfl (op_call (spec_l6Rows.ok k l0_1 Al0_1 cl0_1 l1_1 Al1_1 cl1_1 _ A2) [⟨0, 0, 0, false⟩, ⟨3, 0, 0, false⟩] 1 rfl rfl rfl rfl rfl ?_)
  rintro _ _ _ ⟨rfl, rfl, rfl⟩
  refine sv (EV.nt rfl) rfl (sv (EV.pf rfl rfl rfl) rfl (sv (EV.mv rfl) rfl ?_))
  revert H; refine ifsI ?_ ?_ <;> intro c3 H
  ·
   subst c3
   refine ts 19 rfl rfl (sv (EV.fa 2 rfl) rfl (sv (EV.ld 0 none rfl rfl rfl) rfl (sv (EV.fa 2 rfl) rfl (sv (EV.ld 1 none rfl rfl rfl) rfl ?_))))
   revert H; refine bdI ?_; rintro t4 A4 H
   refine so rfl (op_call (spec_l6Rows.ok k l0_2 Al0_2 cl0_2 l1_2 Al1_2 cl1_2 _ A4) [⟨1, 0, 0, false⟩, ⟨4, 0, 0, false⟩] 1 rfl rfl rfl rfl rfl ?_)
   rintro _ _ _ ⟨rfl, rfl, rfl⟩
   refine sv (EV.nt rfl) rfl (sv (EV.pf rfl rfl rfl) rfl (sv (EV.mv rfl) rfl ?_))
   revert H; refine ifsI ?_ ?_ <;> intro c5 H
   ·
    subst c5
    refine ts 27 rfl rfl (sv (EV.fa 4 rfl) rfl (sv (EV.ld 0 none rfl rfl rfl) rfl (sv (EV.fa 4 rfl) rfl (sv (EV.ld 1 none rfl rfl rfl) rfl (sv (EV.neq rfl rfl) rfl (sv (EV.pf rfl rfl rfl) rfl (sv (EV.mv rfl) rfl ?_)))))))
    revert H; refine ifsI ?_ ?_ <;> intro c6 H
    ·
     refine ts 34 rfl (nF c6) (sv (EV.fa 3 rfl) rfl (sv (EV.ld 0 none rfl rfl rfl) rfl (sv (EV.ln rfl) rfl (sv (EV.fa 3 rfl) rfl (sv (EV.ld 1 none rfl rfl rfl) rfl (sv (EV.ln rfl) rfl (sv (EV.neq rfl rfl) rfl (sv (EV.pf rfl rfl rfl) rfl (re (pr [2, 3, 42] [0, 1] [0, 1, 2, 3, 4, 5] rfl rfl rfl rfl ?_))))))))))
     revert H; refine ifsI ?_ ?_ <;> intro c7 H
     ·
      refine gf rfl (nF c7) (gk (gs (gs (rg (sv (EV.as rfl) rfl (re (gb ?_)))))))
      refine lo (fun kk S => ∃ (x2_5 : Int) (x2_2_0 : Int) (x2_2_4 : Int) (x2_3_0 : Int) (x2_3_4 : Int), spec_EqualTasks.l0 kk x2_5 x2_2_0 x2_2_4 x2_3_0 x2_3_4 l0_1 l0_2 l0_3 l1_1 l1_2 l1_3 = some r0 ∧ S = ⟨[(2, .pointer (some ⟨b2, 0, none⟩)), (3, .pointer (some ⟨b3, 0, none⟩)), (5, .int .i64 x2_5)], [⟨b2, 44, [.int .i64 x2_2_0, .slice Al0_1 l0_1.length cl0_1, .slice Al0_2 l0_2.length cl0_2, .slice Al0_3 l0_3.length cl0_3, .int .i64 x2_2_4]⟩, ⟨b3, 44, [.int .i64 x2_3_0, .slice Al1_1 l1_1.length cl1_1, .slice Al1_2 l1_2.length cl1_2, .slice Al1_3 l1_3.length cl1_3, .int .i64 x2_3_4]⟩], [.sl 0 k70 Al0_1 cl0_1 l0_1 0 false, .sl 0 k70 Al0_2 cl0_2 l0_2 0 false, .sl 0 .bool Al0_3 cl0_3 l0_3 0 false, .sl 0 k70 Al1_1 cl1_1 l1_1 0 false, .sl 0 k70 Al1_2 cl1_2 l1_2 0 false, .sl 0 .bool Al1_3 cl1_3 l1_3 0 false]⟩) (fun S hS => ?_) (fun n0 ih0 S hS => ?_) ⟨0, a0_0, a0_4, a1_0, a1_4, H, rfl⟩ (fun h => wk [2, 3, 5] [0, 1] [⟨0, 0, 0, false⟩, ⟨1, 0, 0, false⟩, ⟨2, 0, 0, false⟩, ⟨3, 0, 0, false⟩, ⟨4, 0, 0, false⟩, ⟨5, 0, 0, false⟩] h)
      · clear H; obtain ⟨_, _, _, _, _, H, _⟩ := hS; rw [spec_EqualTasks.l0] at H; cases H
      clear H
      obtain ⟨x2_5, x2_2_0, x2_2_4, x2_3_0, x2_3_4, H, rfl⟩ := hS
      rw [spec_EqualTasks.l0] at H
      refine gs (gs (rg (sv (EV.mv rfl) rfl (sv (EV.fa 3 rfl) rfl (sv (EV.ld 0 none rfl rfl rfl) rfl (sv (EV.ln rfl) rfl (sv (EV.lss rfl rfl) rfl (re ?_))))))))
      revert H; refine ifsI ?_ ?_ <;> intro c8 H
      ·
       refine gt rfl (dT c8) (gk (gs (gb (gs ?_))))
       revert H; refine ggI ?_; intro g9 H
       revert H; refine ggI ?_; intro g10 H
       refine dr [0, 1] [0, 1, 2, 3, 4, 5] [] 11 rfl rfl rfl rfl (xv 0 [0, 1] [0, 1, 2, 3, 4, 5] rfl (EV.fa 3 rfl) rfl rfl rfl rfl (xv 1 [0, 1] [0, 1, 2, 3, 4, 5] rfl (EV.ld 0 none rfl rfl rfl) rfl rfl rfl rfl (xv 2 [0, 1] [0, 1, 2, 3, 4, 5] rfl (EV.mv rfl) rfl rfl rfl rfl (xv 3 [0, 1] [0, 1, 2, 3, 4, 5] rfl (EV.ix 2 rfl rfl rfl g9 c8 rfl) rfl rfl rfl rfl (xv 4 [0, 1] [0, 1, 2, 3, 4, 5] rfl (EV.le (v := .bool (rdOf false l0_3 x2_5)) x2_5 0 none 2 false rfl rfl rfl g9 c8 rfl rfl rfl) rfl rfl rfl rfl (xv 5 [0, 1] [0, 1, 2, 3, 4, 5] rfl (EV.fa 3 rfl) rfl rfl rfl rfl (xv 6 [0, 1] [0, 1, 2, 3, 4, 5] rfl (EV.ld 1 none rfl rfl rfl) rfl rfl rfl rfl (xv 7 [0, 1] [0, 1, 2, 3, 4, 5] rfl (EV.mv rfl) rfl rfl rfl rfl (xv 8 [0, 1] [0, 1, 2, 3, 4, 5] rfl (EV.ix 5 rfl rfl rfl g9 g10 rfl) rfl rfl rfl rfl (xv 9 [0, 1] [0, 1, 2, 3, 4, 5] rfl (EV.le (v := .bool (rdOf false l1_3 x2_5)) x2_5 0 none 5 false rfl rfl rfl g9 g10 rfl rfl rfl) rfl rfl rfl rfl (xv 10 [0, 1] [0, 1, 2, 3, 4, 5] rfl (EV.neb rfl rfl) rfl rfl rfl rfl (xd (pr [2, 3, 5, 60] [0, 1] [0, 1, 2, 3, 4, 5] rfl rfl rfl rfl ?_)))))))))))))
       revert H; refine ifsI ?_ ?_ <;> intro c11 H
       ·
        exact gf rfl (bN c11) (gk (ge (rg (sv (EV.mv rfl) rfl (sv (EV.add rfl rfl) rfl (sv (EV.as rfl) rfl (re (wk [2, 3, 5] [0, 1] [⟨0, 0, 0, false⟩, ⟨1, 0, 0, false⟩, ⟨2, 0, 0, false⟩, ⟨3, 0, 0, false⟩, ⟨4, 0, 0, false⟩, ⟨5, 0, 0, false⟩] (ih0 _ (by omega) _ ⟨wrap64 (x2_5 + 1), x2_2_0, x2_2_4, x2_3_0, x2_3_4, H, rfl⟩)))))))))
       ·
        refine gt rfl (bM c11) (gs (rg (sv (EV.as rfl) rfl (re ?_))))
        cases H
        exact rt Try.func28 rfl (.tmp rfl .nil) rfl [] [] rfl rfl rfl rfl rfl ⟨rfl, rfl, rfl⟩
      ·
       refine gf rfl (dF c8) (gx rfl (gs (rg (sv (EV.as rfl) rfl (re (pr [4] [] [] rfl rfl rfl rfl ?_))))))
       cases H
       exact rt Try.func28 rfl (.tmp rfl .nil) rfl [] [] rfl rfl rfl rfl rfl ⟨rfl, rfl, rfl⟩
     ·
      refine gt rfl (nT c7) (gs (rg (sv (EV.as rfl) rfl (re ?_))))
      cases H
      exact rt Try.func28 rfl (.tmp rfl .nil) rfl [] [] rfl rfl rfl rfl rfl ⟨rfl, rfl, rfl⟩
    ·
     refine ts 34 rfl (nT c6) (sk rfl (sk rfl (sk rfl (sk rfl (sk rfl (sk rfl (sk rfl (sv (EV.pt rfl rfl rfl) rfl (re (pr [2, 3, 42] [0, 1] [0, 1, 2, 3, 4, 5] rfl rfl rfl rfl (gt rfl rfl (gs (rg (sv (EV.as rfl) rfl (re ?_)))))))))))))))
     cases H
     exact rt Try.func28 rfl (.tmp rfl .nil) rfl [] [] rfl rfl rfl rfl rfl ⟨rfl, rfl, rfl⟩
   ·
    obtain rfl := bF c5
    refine ts 27 rfl rfl (sk rfl (sk rfl (sk rfl (sk rfl (sk rfl (sv (EV.pt rfl rfl rfl) rfl (sv (EV.mv rfl) rfl (sk rfl (sk rfl (sk rfl (sk rfl (sk rfl (sk rfl (sk rfl (sv (EV.pt rfl rfl rfl) rfl (re (pr [2, 3, 42] [0, 1] [0, 1, 2, 3, 4, 5] rfl rfl rfl rfl (gt rfl rfl (gs (rg (sv (EV.as rfl) rfl (re ?_))))))))))))))))))))))
    cases H
    exact rt Try.func28 rfl (.tmp rfl .nil) rfl [] [] rfl rfl rfl rfl rfl ⟨rfl, rfl, rfl⟩
  ·
   obtain rfl := bF c3
   refine ts 19 rfl rfl (sk rfl (sk rfl (sk rfl (sk rfl (sk rfl (sk rfl (sv (EV.pt rfl rfl rfl) rfl (sv (EV.mv rfl) rfl (sk rfl (sk rfl (sk rfl (sk rfl (sk rfl (sv (EV.pt rfl rfl rfl) rfl (sv (EV.mv rfl) rfl (sk rfl (sk rfl (sk rfl (sk rfl (sk rfl (sk rfl (sk rfl (sv (EV.pt rfl rfl rfl) rfl (re (pr [2, 3, 42] [0, 1] [0, 1, 2, 3, 4, 5] rfl rfl rfl rfl (gt rfl rfl (gs (rg (sv (EV.as rfl) rfl ?_)))))))))))))))))))))))))))))
   refine re ?_
   cases H
   exact rt Try.func28 rfl (.tmp rfl .nil) rfl [] [] rfl rfl rfl rfl rfl ⟨rfl, rfl, rfl⟩
 ·
  refine ts 11 rfl (nT c1) (sk rfl (sk rfl (sk rfl (sk rfl (sk rfl (sk rfl (sv (EV.pt rfl rfl rfl) rfl (sv (EV.mv rfl) rfl (sk rfl (sk rfl (sk rfl (sk rfl (sk rfl (sk rfl (sv (EV.pt rfl rfl rfl) rfl (sv (EV.mv rfl) rfl (sk rfl (sk rfl (sk rfl (sk rfl (sk rfl (sv (EV.pt rfl rfl rfl) rfl (sv (EV.mv rfl) rfl (sk rfl (sk rfl (sk rfl (sk rfl (sk rfl (sk rfl ?_)))))))))))))))))))))))))))))
  refine sk rfl (sv (EV.pt rfl rfl rfl) rfl (re (pr [2, 3, 42] [0, 1] [0, 1, 2, 3, 4, 5] rfl rfl rfl rfl (gt rfl rfl (gs (rg (sv (EV.as rfl) rfl (re ?_))))))))
  cases H
  exact rt Try.func28 rfl (.tmp rfl .nil) rfl [] [] rfl rfl rfl rfl rfl ⟨rfl, rfl, rfl⟩
end Go.Proofs.Ytajjeemkdjfilaa.K
namespace Go.Proofs.Ytajjeemkdjfilaa.K
open Go Go.RowKit
set_option linter.unusedVariables false
set_option linter.unusedSimpArgs false
mutual
def impl_UnmatchedRows.l0 : Nat → (List S92) → Int → Int → Int → Int → (List S70) → (List S70) → (List Bool) → Option ((List S92))
 | 0, _, _, _, _, _, _, _, _ => none
 | k + 1, x3_3, x3_22, x3_23, x3_1_0, x3_1_4, l0_1, l0_2, l0_3 => if x3_23 < x3_22 then (if 0 ≤ x3_23 then (if x3_23 < (l0_1.length : Int) then (if x3_23 < (l0_3.length : Int) then (if (rdOf false l0_3 x3_23) = true then (impl_UnmatchedRows.l0 k x3_3 x3_22 (wrap64 (x3_23 + 1)) x3_1_0 x3_1_4 l0_1 l0_2 l0_3) else (if x3_3.length < 2513169434916 then (impl_UnmatchedRows.l0 k (x3_3 ++ ([(⟨(⟨(rd_T70 l0_1 x3_23).f0, (rd_T70 l0_1 x3_23).f1, (rd_T70 l0_1 x3_23).f2⟩ : S70), (⟨0, 0, 0⟩ : S70), false⟩ : S92)] : List S92)) x3_22 (wrap64 (x3_23 + 1)) x3_1_0 x3_1_4 l0_1 l0_2 l0_3) else none)) else none) else none) else none) else (some x3_3)
def impl_UnmatchedRows.j0 : Nat → Int → Int → (List S70) → (List S70) → (List Bool) → Option ((List S92))
 | 0, _, _, _, _, _ => none
 | k + 1, x1_1_0, x1_1_4, l0_1, l0_2, l0_3 => impl_UnmatchedRows.l0 k [] (l0_1.length : Int) 0 x1_1_0 x1_1_4 l0_1 l0_2 l0_3
end
def impl_UnmatchedRows.f (k : Nat) (a0_0 : Int) (l0_1 : List S70) (l0_2 : List S70) (l0_3 : List Bool) (a0_4 : Int) : Option ((List S92)) := (impl_IsValidTask.f k a0_0 l0_1 l0_2 l0_3 a0_4).bind fun t11 => (if t11 = true then (if a0_0 = 3 then (impl_UnmatchedRows.j0 k a0_0 a0_4 l0_1 l0_2 l0_3) else (if a0_0 = 4 then (impl_UnmatchedRows.j0 k a0_0 a0_4 l0_1 l0_2 l0_3) else (some []))) else (some []))
set_option maxHeartbeats 4000000 in
set_option maxRecDepth 100000 in
theorem impl_UnmatchedRows.ok (k : Nat) (a0_0 : Int) (l0_1 : List S70) (Al0_1 : Option Addr) (cl0_1 : Nat) (l0_2 : List S70) (Al0_2 : Option Addr) (cl0_2 : Nat) (l0_3 : List Bool) (Al0_3 : Option Addr) (cl0_3 : Nat) (a0_4 : Int) (r0 : List S92) (H : impl_UnmatchedRows.f k a0_0 l0_1 l0_2 l0_3 a0_4 = some r0) : Fn Try.prog 29 [.agg #[.int .i64 a0_0, .slice Al0_1 l0_1.length cl0_1, .slice Al0_2 l0_2.length cl0_2, .slice Al0_3 l0_3.length cl0_3, .int .i64 a0_4]] [] [.sl 0 k70 Al0_1 cl0_1 l0_1 0 false, .sl 0 k70 Al0_2 cl0_2 l0_2 0 false, .sl 0 .bool Al0_3 cl0_3 l0_3 0 false] (fun v bx en => ∃ A0 c0, v = .slice A0 r0.length c0 ∧ bx = [] ∧ en = [.sl 2 k92 A0 c0 r0 1 true]) := by
 refine fn_ 41 Try.func29 rfl rfl rfl (fun base T w0 => ?_)
 rw [impl_UnmatchedRows.f] at H
 refine gs (rg (so rfl (op_box (cs := [.int .i64 a0_0, .slice Al0_1 l0_1.length cl0_1, .slice Al0_2 l0_2.length cl0_2, .slice Al0_3 l0_3.length cl0_3, .int .i64 a0_4]) rfl rfl rfl fun b1 => (sv (EV.as rfl) rfl (re ?_)))))
 refine jo (fun S => ∃ (m : Nat) (x1_1_0 : Int) (x1_1_4 : Int), impl_UnmatchedRows.j0 m x1_1_0 x1_1_4 l0_1 l0_2 l0_3 = some r0 ∧ S = ⟨[(1, .pointer (some ⟨b1, 0, none⟩))], [⟨b1, 44, [.int .i64 x1_1_0, .slice Al0_1 l0_1.length cl0_1, .slice Al0_2 l0_2.length cl0_2, .slice Al0_3 l0_3.length cl0_3, .int .i64 x1_1_4]⟩], [.sl 0 k70 Al0_1 cl0_1 l0_1 0 false, .sl 0 k70 Al0_2 cl0_2 l0_2 0 false, .sl 0 .bool Al0_3 cl0_3 l0_3 0 false]⟩) (fun S hS => ?_) (fun jh0 => ?_)
 ·
  clear H
  obtain ⟨m1, x1_1_0, x1_1_4, H, rfl⟩ := hS
  rcases m1 with _ | m1
  · rw [impl_UnmatchedRows.j0] at H; cases H
  rw [impl_UnmatchedRows.j0] at H
  refine gs (rg (so rfl (op_lit (s := 7) (by_ := 56) k92 ([] : List S92) [] [] 1 [] rfl rfl rfl rfl rfl rfl rfl rfl rfl rfl rfl rfl rfl dq rfl fun A19_2 c19_2 => (sv (EV.as rfl) rfl (re (gs (gs (rg (sv (EV.fa 1 rfl) rfl (sv (EV.ld 0 none rfl rfl rfl) rfl (sv (EV.ln rfl) rfl (sv (EV.mv rfl) rfl (re (gb ?_))))))))))))))
  refine lo (fun kk S => ∃ (x3_3 : List S92) (Ax3_3 : Option Addr) (cx3_3 : Nat) (x3_22 : Int) (x3_23 : Int) (x3_1_0 : Int) (x3_1_4 : Int), kk ≤ m1 ∧ impl_UnmatchedRows.l0 kk x3_3 x3_22 x3_23 x3_1_0 x3_1_4 l0_1 l0_2 l0_3 = some r0 ∧ S = ⟨[(1, .pointer (some ⟨b1, 0, none⟩)), (3, .slice Ax3_3 x3_3.length cx3_3), (21, .slice Al0_1 l0_1.length cl0_1), (22, .int .i64 x3_22), (23, .int .i64 x3_23)], [⟨b1, 44, [.int .i64 x3_1_0, .slice Al0_1 l0_1.length cl0_1, .slice Al0_2 l0_2.length cl0_2, .slice Al0_3 l0_3.length cl0_3, .int .i64 x3_1_4]⟩], [.sl 2 k92 Ax3_3 cx3_3 x3_3 1 true, .sl 0 k70 Al0_1 cl0_1 l0_1 0 false, .sl 0 k70 Al0_2 cl0_2 l0_2 0 false, .sl 0 .bool Al0_3 cl0_3 l0_3 0 false]⟩) (fun S hS => ?_) (fun n0 ih0 S hS => ?_) ⟨[], A19_2, c19_2, (l0_1.length : Int), 0, x1_1_0, x1_1_4, by omega, H, rfl⟩ (fun h => wk [1, 3, 21, 22, 23] [0] [⟨3, 2, 1, true⟩, ⟨0, 0, 0, false⟩, ⟨1, 0, 0, false⟩, ⟨2, 0, 0, false⟩] h)
  · clear H; obtain ⟨_, _, _, _, _, _, _, _, H, _⟩ := hS; rw [impl_UnmatchedRows.l0] at H; cases H
  clear H
  obtain ⟨x3_3, Ax3_3, cx3_3, x3_22, x3_23, x3_1_0, x3_1_4, lk0, H, rfl⟩ := hS
  rw [impl_UnmatchedRows.l0] at H
  refine gs (rg (sv (EV.lss rfl rfl) rfl (re (gs ?_))))
  revert H; refine ifsI ?_ ?_ <;> intro c3 H
  ·
   refine gt rfl (dT c3) (gk (gs (gb (gs (rg (sv (EV.mv rfl) rfl ?_))))))
   revert H; refine ggI ?_; intro g4 H
   revert H; refine ggI ?_; intro g5 H
   refine sv (EV.ix 1 rfl rfl rfl g4 g5 rfl) rfl (sv (EV.le (v := .agg #[.int .i64 ((rd_T70 l0_1 x3_23).f0), .int .i64 ((rd_T70 l0_1 x3_23).f1), .int .i64 ((rd_T70 l0_1 x3_23).f2)]) x3_23 0 (some 3) 1 z70 rfl rfl rfl g4 g5 rfl rfl rfl) rfl (so rfl (op_alloc (cs := [.int .i64 0, .int .i64 0, .int .i64 0]) (by kernel_rfl) rfl fun b5 => (sv (EV.as rfl) rfl (so rfl (op_st (cs' := [.int .i64 ((rd_T70 l0_1 x3_23).f0), .int .i64 ((rd_T70 l0_1 x3_23).f1), .int .i64 ((rd_T70 l0_1 x3_23).f2)]) 1 rfl rfl rfl rfl rfl rfl (re (gs (rg (sv (EV.fa 3 rfl) rfl (sv (EV.ld 0 none rfl rfl rfl) rfl (sv (EV.mv rfl) rfl ?_))))))))))))
   revert H; refine ggI ?_; intro g6 H
   refine sv (EV.ix 3 rfl rfl rfl g4 g6 rfl) rfl (sv (EV.le (v := .bool (rdOf false l0_3 x3_23)) x3_23 0 none 3 false rfl rfl rfl g4 g6 rfl rfl rfl) rfl (sv (EV.nt rfl) rfl (re (pr [1, 3, 5, 21, 22, 23, 33] [0, 1] [0, 1, 2, 3] rfl rfl rfl rfl ?_))))
   revert H; refine ifsI ?_ ?_ <;> intro c7 H
   ·
    exact gf rfl (bN c7) (gk (ge (rg (sv (EV.add rfl rfl) rfl (sv (EV.mv rfl) rfl (re (wk [1, 3, 21, 22, 23] [0] [⟨0, 2, 1, true⟩, ⟨1, 0, 0, false⟩, ⟨2, 0, 0, false⟩, ⟨3, 0, 0, false⟩] (ih0 _ (by omega) _ ⟨x3_3, Ax3_3, cx3_3, x3_22, wrap64 (x3_23 + 1), x3_1_0, x3_1_4, by omega, H, rfl⟩))))))))
   ·
    refine gt rfl (bM c7) (rg (sv (EV.mv rfl) rfl (sv (EV.ld (v := .agg #[.int .i64 ((rd_T70 l0_1 x3_23).f0), .int .i64 ((rd_T70 l0_1 x3_23).f1), .int .i64 ((rd_T70 l0_1 x3_23).f2)]) 1 (some 3) rfl rfl rfl) rfl (sv (EV.bd (v := .agg #[.int .i64 ((rd_T70 l0_1 x3_23).f0), .int .i64 ((rd_T70 l0_1 x3_23).f1), .int .i64 ((rd_T70 l0_1 x3_23).f2), .int .i64 0, .int .i64 0, .int .i64 0, .bool false]) rfl (by kernel_rfl)) rfl (so rfl (op_lit (s := 7) (by_ := 56) k92 ([(⟨(⟨(rd_T70 l0_1 x3_23).f0, (rd_T70 l0_1 x3_23).f1, (rd_T70 l0_1 x3_23).f2⟩ : S70), (⟨0, 0, 0⟩ : S70), false⟩ : S92)] : List S92) [[]] [] 2 [.tmp 36] rfl rfl rfl rfl rfl rfl rfl rfl rfl rfl rfl rfl rfl dq rfl fun A37_8 c37_8 => ?_))))))
    revert H; refine ggI ?_; intro g9 H
    exact so rfl (op_app (k := k92) (s := 7) (by_ := 56) 0 4 rfl rfl rfl rfl (ap1 g9 dq) (ap1n g9 dq) (.inl rfl) true (fun _ => .inl rfl) rfl rfl fun A38_10 c38_10 => (nmE (en := [.sl 0 k70 Al0_1 cl0_1 l0_1 0 false, .sl 0 k70 Al0_2 cl0_2 l0_2 0 false, .sl 0 .bool Al0_3 cl0_3 l0_3 0 false, .sl 2 k92 A37_8 c37_8 ([(⟨(⟨(rd_T70 l0_1 x3_23).f0, (rd_T70 l0_1 x3_23).f1, (rd_T70 l0_1 x3_23).f2⟩ : S70), (⟨0, 0, 0⟩ : S70), false⟩ : S92)] : List S92) 2 true, .sl 2 k92 A38_10 c38_10 (x3_3 ++ ([(⟨(⟨(rd_T70 l0_1 x3_23).f0, (rd_T70 l0_1 x3_23).f1, (rd_T70 l0_1 x3_23).f2⟩ : S70), (⟨0, 0, 0⟩ : S70), false⟩ : S92)] : List S92)) 1 true]) (by kernel_rfl) (sv (EV.as rfl) rfl (re (pr [1, 3, 21, 22, 23] [0] [0, 1, 2, 4] rfl rfl rfl rfl (ge (rg (sv (EV.add rfl rfl) rfl (sv (EV.mv rfl) rfl (re (wk [1, 3, 21, 22, 23] [0] [⟨3, 2, 1, true⟩, ⟨0, 0, 0, false⟩, ⟨1, 0, 0, false⟩, ⟨2, 0, 0, false⟩] (ih0 _ (by omega) _ ⟨x3_3 ++ ([(⟨(⟨(rd_T70 l0_1 x3_23).f0, (rd_T70 l0_1 x3_23).f1, (rd_T70 l0_1 x3_23).f2⟩ : S70), (⟨0, 0, 0⟩ : S70), false⟩ : S92)] : List S92), A38_10, c38_10, x3_22, wrap64 (x3_23 + 1), x3_1_0, x3_1_4, by omega, H, rfl⟩))))))))))))
  ·
   refine gf rfl (dF c3) (gx rfl (gs (rg (sv (EV.mv rfl) rfl (sv (EV.as rfl) rfl (re (pr [2] [] [0] rfl rfl rfl rfl ?_)))))))
   cases H
   exact rt Try.func29 rfl (.tmp rfl .nil) rfl [] [⟨0, 2, 1, true⟩] rfl rfl rfl rfl rfl ⟨_, _, rfl, rfl, rfl⟩
 ·
  refine gs (rg (sv (EV.ld (v := .agg #[.int .i64 a0_0, .slice Al0_1 l0_1.length cl0_1, .slice Al0_2 l0_2.length cl0_2, .slice Al0_3 l0_3.length cl0_3, .int .i64 a0_4]) 0 (some 5) rfl rfl rfl) rfl ?_))
  revert H; refine bdI ?_; rintro t11 A11 H
  refine so rfl (op_call (impl_IsValidTask.ok k a0_0 l0_1 Al0_1 cl0_1 l0_2 Al0_2 cl0_2 l0_3 Al0_3 cl0_3 a0_4 _ A11) [⟨0, 0, 0, false⟩, ⟨1, 0, 0, false⟩, ⟨2, 0, 0, false⟩] 1 rfl rfl rfl rfl rfl ?_)
  rintro _ _ _ ⟨rfl, rfl, rfl⟩
  refine sv (EV.nt rfl) rfl (sv (EV.mv rfl) rfl ?_)
  revert H; refine ifsI ?_ ?_ <;> intro c12 H
  ·
   subst c12
   refine ts 9 rfl rfl (sv (EV.fa 0 rfl) rfl (sv (EV.ld 0 none rfl rfl rfl) rfl (sv (EV.neq rfl rfl) rfl (sv (EV.mv rfl) rfl ?_))))
   revert H; refine ifsI ?_ ?_ <;> intro c13 H
   ·
    exact ts 13 rfl (nF c13) (sk rfl (sk rfl (sk rfl (sv (EV.pf rfl rfl rfl) rfl (sv (EV.pf rfl rfl rfl) rfl (re (pr [1, 18] [0] [0, 1, 2] rfl rfl rfl rfl (gf rfl rfl (gk (wk [1] [0] [⟨0, 0, 0, false⟩, ⟨1, 0, 0, false⟩, ⟨2, 0, 0, false⟩] (jh0 _ ⟨_, a0_0, a0_4, H, rfl⟩)))))))))))
   ·
    refine ts 13 rfl (nT c13) (sv (EV.fa 0 rfl) rfl (sv (EV.ld 0 none rfl rfl rfl) rfl (sv (EV.neq rfl rfl) rfl (sv (EV.pt rfl rfl rfl) rfl (sv (EV.pf rfl rfl rfl) rfl (re (pr [1, 18] [0] [0, 1, 2] rfl rfl rfl rfl ?_)))))))
    revert H; refine ifsI ?_ ?_ <;> intro c14 H
    ·
     exact gf rfl (nF c14) (gk (wk [1] [0] [⟨0, 0, 0, false⟩, ⟨1, 0, 0, false⟩, ⟨2, 0, 0, false⟩] (jh0 _ ⟨_, a0_0, a0_4, H, rfl⟩)))
    ·
     refine gt rfl (nT c14) (gs (rg (sv (EV.as rfl) rfl (re (nil_ k92 1 dq ?_)))))
     cases H
     exact rt Try.func29 rfl (.tmp rfl .nil) rfl [] [⟨3, 2, 1, true⟩] rfl rfl rfl rfl rfl ⟨_, _, rfl, rfl, rfl⟩
  ·
   obtain rfl := bF c12
   refine ts 9 rfl rfl (sk rfl (sk rfl (sk rfl (sk rfl (sk rfl (sk rfl (sk rfl (sk rfl (sv (EV.pt rfl rfl rfl) rfl (re (pr [1, 18] [0] [0, 1, 2] rfl rfl rfl rfl (gt rfl rfl (gs (rg (sv (EV.as rfl) rfl (re (nil_ k92 1 dq ?_)))))))))))))))))
   cases H
   exact rt Try.func29 rfl (.tmp rfl .nil) rfl [] [⟨3, 2, 1, true⟩] rfl rfl rfl rfl rfl ⟨_, _, rfl, rfl, rfl⟩
end Go.Proofs.Ytajjeemkdjfilaa.K
namespace Go.Proofs.Ytajjeemkdjfilaa.K
open Go Go.RowKit
set_option linter.unusedVariables false
set_option linter.unusedSimpArgs false
def spec_UnmatchedRows.l0 : Nat → (List S92) → Int → Int → Int → (List S70) → (List S70) → (List Bool) → Option ((List S92))
 | 0, _, _, _, _, _, _, _ => none
 | k + 1, x2_3, x2_4, x2_1_0, x2_1_4, l0_1, l0_2, l0_3 => if x2_4 < (l0_1.length : Int) then ((spec_IsValidTask.f k x2_1_0 l0_1 l0_2 l0_3 x2_1_4).bind fun t3 => (if t3 = true then (if 0 ≤ x2_4 then (if x2_4 < (l0_3.length : Int) then (if (rdOf false l0_3 x2_4) = true then (spec_UnmatchedRows.l0 k x2_3 (wrap64 (x2_4 + 1)) x2_1_0 x2_1_4 l0_1 l0_2 l0_3) else (if x2_1_0 = 3 then (if x2_3.length < 2513169434916 then (spec_UnmatchedRows.l0 k (x2_3 ++ ([(⟨(⟨(rd_T70 l0_1 x2_4).f0, (rd_T70 l0_1 x2_4).f1, (rd_T70 l0_1 x2_4).f2⟩ : S70), (⟨0, 0, 0⟩ : S70), false⟩ : S92)] : List S92)) (wrap64 (x2_4 + 1)) x2_1_0 x2_1_4 l0_1 l0_2 l0_3) else none) else (if x2_1_0 = 4 then (if x2_3.length < 2513169434916 then (spec_UnmatchedRows.l0 k (x2_3 ++ ([(⟨(⟨(rd_T70 l0_1 x2_4).f0, (rd_T70 l0_1 x2_4).f1, (rd_T70 l0_1 x2_4).f2⟩ : S70), (⟨0, 0, 0⟩ : S70), false⟩ : S92)] : List S92)) (wrap64 (x2_4 + 1)) x2_1_0 x2_1_4 l0_1 l0_2 l0_3) else none) else (spec_UnmatchedRows.l0 k x2_3 (wrap64 (x2_4 + 1)) x2_1_0 x2_1_4 l0_1 l0_2 l0_3)))) else none) else none) else (some x2_3))) else (some x2_3)
def spec_UnmatchedRows.f (k : Nat) (a0_0 : Int) (l0_1 : List S70) (l0_2 : List S70) (l0_3 : List Bool) (a0_4 : Int) : Option ((List S92)) := spec_UnmatchedRows.l0 k [] 0 a0_0 a0_4 l0_1 l0_2 l0_3
set_option maxHeartbeats 4000000 in
set_option maxRecDepth 100000 in
theorem spec_UnmatchedRows.ok (k : Nat) (a0_0 : Int) (l0_1 : List S70) (Al0_1 : Option Addr) (cl0_1 : Nat) (l0_2 : List S70) (Al0_2 : Option Addr) (cl0_2 : Nat) (l0_3 : List Bool) (Al0_3 : Option Addr) (cl0_3 : Nat) (a0_4 : Int) (r0 : List S92) (H : spec_UnmatchedRows.f k a0_0 l0_1 l0_2 l0_3 a0_4 = some r0) : Fn Try.prog 30 [.agg #[.int .i64 a0_0, .slice Al0_1 l0_1.length cl0_1, .slice Al0_2 l0_2.length cl0_2, .slice Al0_3 l0_3.length cl0_3, .int .i64 a0_4]] [] [.sl 0 k70 Al0_1 cl0_1 l0_1 0 false, .sl 0 k70 Al0_2 cl0_2 l0_2 0 false, .sl 0 .bool Al0_3 cl0_3 l0_3 0 false] (fun v bx en => ∃ A0 c0, v = .slice A0 r0.length c0 ∧ bx = [] ∧ en = [.sl 2 k92 A0 c0 r0 1 true]) := by
 refine fn_ 43 Try.func30 rfl rfl rfl (fun base T w0 => ?_)
 rw [spec_UnmatchedRows.f] at H
 refine gs (rg (so rfl (op_box (cs := [.int .i64 a0_0, .slice Al0_1 l0_1.length cl0_1, .slice Al0_2 l0_2.length cl0_2, .slice Al0_3 l0_3.length cl0_3, .int .i64 a0_4]) rfl rfl rfl fun b1 => (sv (EV.as rfl) rfl (re (gs (rg (so rfl (op_lit (s := 7) (by_ := 56) k92 ([] : List S92) [] [] 1 [] rfl rfl rfl rfl rfl rfl rfl rfl rfl rfl rfl rfl rfl dq rfl fun A5_1 c5_1 => (sv (EV.as rfl) rfl (re (gs (gs (rg (sv (EV.as rfl) rfl (re (gb ?_)))))))))))))))))
 refine lo (fun kk S => ∃ (x2_3 : List S92) (Ax2_3 : Option Addr) (cx2_3 : Nat) (x2_4 : Int) (x2_1_0 : Int) (x2_1_4 : Int), spec_UnmatchedRows.l0 kk x2_3 x2_4 x2_1_0 x2_1_4 l0_1 l0_2 l0_3 = some r0 ∧ S = ⟨[(1, .pointer (some ⟨b1, 0, none⟩)), (3, .slice Ax2_3 x2_3.length cx2_3), (4, .int .i64 x2_4)], [⟨b1, 44, [.int .i64 x2_1_0, .slice Al0_1 l0_1.length cl0_1, .slice Al0_2 l0_2.length cl0_2, .slice Al0_3 l0_3.length cl0_3, .int .i64 x2_1_4]⟩], [.sl 2 k92 Ax2_3 cx2_3 x2_3 1 true, .sl 0 k70 Al0_1 cl0_1 l0_1 0 false, .sl 0 k70 Al0_2 cl0_2 l0_2 0 false, .sl 0 .bool Al0_3 cl0_3 l0_3 0 false]⟩) (fun S hS => ?_) (fun n0 ih0 S hS => ?_) ⟨[], A5_1, c5_1, 0, a0_0, a0_4, H, rfl⟩ (fun h => wk [1, 3, 4] [0] [⟨3, 2, 1, true⟩, ⟨0, 0, 0, false⟩, ⟨1, 0, 0, false⟩, ⟨2, 0, 0, false⟩] h)
 · clear H; obtain ⟨_, _, _, _, _, _, H, _⟩ := hS; rw [spec_UnmatchedRows.l0] at H; cases H
 clear H
 obtain ⟨x2_3, Ax2_3, cx2_3, x2_4, x2_1_0, x2_1_4, H, rfl⟩ := hS
 rw [spec_UnmatchedRows.l0] at H
 refine gs (gs (rg (sv (EV.mv rfl) rfl (sv (EV.fa 1 rfl) rfl (sv (EV.ld 0 none rfl rfl rfl) rfl (sv (EV.ln rfl) rfl (sv (EV.lss rfl rfl) rfl (sv (EV.mv rfl) rfl ?_))))))))
 revert H; refine ifsI ?_ ?_ <;> intro c2 H
 ·
  refine ts 11 rfl (dT c2) (sv (EV.ld (v := .agg #[.int .i64 x2_1_0, .slice Al0_1 l0_1.length cl0_1, .slice Al0_2 l0_2.length cl0_2, .slice Al0_3 l0_3.length cl0_3, .int .i64 x2_1_4]) 0 (some 5) rfl rfl rfl) rfl ?_)
  revert H; refine bdI ?_; rintro t3 A3 H
  refine so rfl (op_call (spec_IsValidTask.ok n0 x2_1_0 l0_1 Al0_1 cl0_1 l0_2 Al0_2 cl0_2 l0_3 Al0_3 cl0_3 x2_1_4 _ A3) [⟨1, 0, 0, false⟩, ⟨2, 0, 0, false⟩, ⟨3, 0, 0, false⟩] 2 rfl rfl rfl rfl rfl ?_)
  rintro _ _ _ ⟨rfl, rfl, rfl⟩
  refine sv (EV.pt rfl rfl rfl) rfl (re (pr [1, 3, 4, 12, 13, 14] [0] [0, 1, 2, 3] rfl rfl rfl rfl ?_))
  revert H; refine ifsI ?_ ?_ <;> intro c4 H
  ·
   subst c4
   refine gt rfl rfl (gk (gs (gb (gs (rg (sv (EV.fa 3 rfl) rfl (sv (EV.ld 0 none rfl rfl rfl) rfl (sv (EV.mv rfl) rfl ?_))))))))
   revert H; refine ggI ?_; intro g5 H
   revert H; refine ggI ?_; intro g6 H
   refine sv (EV.ix 3 rfl rfl rfl g5 g6 rfl) rfl (sv (EV.le (v := .bool (rdOf false l0_3 x2_4)) x2_4 0 none 3 false rfl rfl rfl g5 g6 rfl rfl rfl) rfl (sv (EV.nt rfl) rfl (sv (EV.mv rfl) rfl ?_)))
   revert H; refine ifsI ?_ ?_ <;> intro c7 H
   ·
    exact ts 23 rfl (bN c7) (sk rfl (sk rfl (sk rfl (sk rfl (sk rfl (sk rfl (sk rfl (sk rfl (sv (EV.pf rfl rfl rfl) rfl (re (pr [1, 3, 4, 12, 13, 32] [0] [0, 1, 2, 3] rfl rfl rfl rfl (gf rfl rfl (gk (ge (rg (sv (EV.mv rfl) rfl (sv (EV.add rfl rfl) rfl (sv (EV.as rfl) rfl (re (wk [1, 3, 4] [0] [⟨0, 2, 1, true⟩, ⟨1, 0, 0, false⟩, ⟨2, 0, 0, false⟩, ⟨3, 0, 0, false⟩] (ih0 _ (by omega) _ ⟨x2_3, Ax2_3, cx2_3, wrap64 (x2_4 + 1), x2_1_0, x2_1_4, H, rfl⟩)))))))))))))))))))))
   ·
    refine ts 23 rfl (bM c7) (sv (EV.fa 0 rfl) rfl (sv (EV.ld 0 none rfl rfl rfl) rfl (sv (EV.eql rfl rfl) rfl (sv (EV.mv rfl) rfl ?_))))
    revert H; refine ifsI ?_ ?_ <;> intro c8 H
    ·
     refine ts 27 rfl (dT c8) (sk rfl (sk rfl (sk rfl (sv (EV.pt rfl rfl rfl) rfl (sv (EV.pt rfl rfl rfl) rfl (re (pr [1, 3, 4, 12, 13, 24, 25, 26, 27, 31, 32] [0] [0, 1, 2, 3] rfl rfl rfl rfl (gt rfl rfl (rg (sv (EV.mv rfl) rfl (sv (EV.fa 1 rfl) rfl (sv (EV.ld 0 none rfl rfl rfl) rfl (sv (EV.mv rfl) rfl (sv (EV.ix 1 rfl rfl rfl g5 c2 rfl) rfl (sv (EV.le (v := .agg #[.int .i64 ((rd_T70 l0_1 x2_4).f0), .int .i64 ((rd_T70 l0_1 x2_4).f1), .int .i64 ((rd_T70 l0_1 x2_4).f2)]) x2_4 0 (some 3) 1 z70 rfl rfl rfl g5 c2 rfl rfl rfl) rfl (sv (EV.bd (v := .agg #[.int .i64 ((rd_T70 l0_1 x2_4).f0), .int .i64 ((rd_T70 l0_1 x2_4).f1), .int .i64 ((rd_T70 l0_1 x2_4).f2), .int .i64 0, .int .i64 0, .int .i64 0, .bool false]) rfl (by kernel_rfl)) rfl (so rfl (op_lit (s := 7) (by_ := 56) k92 ([(⟨(⟨(rd_T70 l0_1 x2_4).f0, (rd_T70 l0_1 x2_4).f1, (rd_T70 l0_1 x2_4).f2⟩ : S70), (⟨0, 0, 0⟩ : S70), false⟩ : S92)] : List S92) [[]] [] 2 [.tmp 39] rfl rfl rfl rfl rfl rfl rfl rfl rfl rfl rfl rfl rfl dq rfl fun A40_9 c40_9 => ?_))))))))))))))))))
     revert H; refine ggI ?_; intro g10 H
     exact so rfl (op_app (k := k92) (s := 7) (by_ := 56) 0 4 rfl rfl rfl rfl (ap1 g10 dq) (ap1n g10 dq) (.inl rfl) true (fun _ => .inl rfl) rfl rfl fun A41_11 c41_11 => (nmE (en := [.sl 0 k70 Al0_1 cl0_1 l0_1 0 false, .sl 0 k70 Al0_2 cl0_2 l0_2 0 false, .sl 0 .bool Al0_3 cl0_3 l0_3 0 false, .sl 2 k92 A40_9 c40_9 ([(⟨(⟨(rd_T70 l0_1 x2_4).f0, (rd_T70 l0_1 x2_4).f1, (rd_T70 l0_1 x2_4).f2⟩ : S70), (⟨0, 0, 0⟩ : S70), false⟩ : S92)] : List S92) 2 true, .sl 2 k92 A41_11 c41_11 (x2_3 ++ ([(⟨(⟨(rd_T70 l0_1 x2_4).f0, (rd_T70 l0_1 x2_4).f1, (rd_T70 l0_1 x2_4).f2⟩ : S70), (⟨0, 0, 0⟩ : S70), false⟩ : S92)] : List S92)) 1 true]) (by kernel_rfl) (sv (EV.as rfl) rfl (re (pr [1, 3, 4, 12, 13, 24, 25, 26, 27, 31] [0] [0, 1, 2, 4] rfl rfl rfl rfl (ge (rg (sv (EV.mv rfl) rfl (sv (EV.add rfl rfl) rfl (sv (EV.as rfl) rfl (re (wk [1, 3, 4] [0] [⟨3, 2, 1, true⟩, ⟨0, 0, 0, false⟩, ⟨1, 0, 0, false⟩, ⟨2, 0, 0, false⟩] (ih0 _ (by omega) _ ⟨x2_3 ++ ([(⟨(⟨(rd_T70 l0_1 x2_4).f0, (rd_T70 l0_1 x2_4).f1, (rd_T70 l0_1 x2_4).f2⟩ : S70), (⟨0, 0, 0⟩ : S70), false⟩ : S92)] : List S92), A41_11, c41_11, wrap64 (x2_4 + 1), x2_1_0, x2_1_4, H, rfl⟩)))))))))))))
    ·
     refine ts 27 rfl (dF c8) (sv (EV.fa 0 rfl) rfl (sv (EV.ld 0 none rfl rfl rfl) rfl (sv (EV.eql rfl rfl) rfl (sv (EV.pf rfl rfl rfl) rfl (sv (EV.pt rfl rfl rfl) rfl (re (pr [1, 3, 4, 12, 13, 24, 25, 26, 27, 28, 29, 30, 31, 32] [0] [0, 1, 2, 3] rfl rfl rfl rfl ?_)))))))
     revert H; refine ifsI ?_ ?_ <;> intro c12 H
     ·
      refine gt rfl (dT c12) (rg (sv (EV.mv rfl) rfl (sv (EV.fa 1 rfl) rfl (sv (EV.ld 0 none rfl rfl rfl) rfl (sv (EV.mv rfl) rfl (sv (EV.ix 1 rfl rfl rfl g5 c2 rfl) rfl (sv (EV.le (v := .agg #[.int .i64 ((rd_T70 l0_1 x2_4).f0), .int .i64 ((rd_T70 l0_1 x2_4).f1), .int .i64 ((rd_T70 l0_1 x2_4).f2)]) x2_4 0 (some 3) 1 z70 rfl rfl rfl g5 c2 rfl rfl rfl) rfl (sv (EV.bd (v := .agg #[.int .i64 ((rd_T70 l0_1 x2_4).f0), .int .i64 ((rd_T70 l0_1 x2_4).f1), .int .i64 ((rd_T70 l0_1 x2_4).f2), .int .i64 0, .int .i64 0, .int .i64 0, .bool false]) rfl (by kernel_rfl)) rfl (so rfl (op_lit (s := 7) (by_ := 56) k92 ([(⟨(⟨(rd_T70 l0_1 x2_4).f0, (rd_T70 l0_1 x2_4).f1, (rd_T70 l0_1 x2_4).f2⟩ : S70), (⟨0, 0, 0⟩ : S70), false⟩ : S92)] : List S92) [[]] [] 2 [.tmp 39] rfl rfl rfl rfl rfl rfl rfl rfl rfl rfl rfl rfl rfl dq rfl fun A40_13 c40_13 => ?_))))))))))
      revert H; refine ggI ?_; intro g14 H
      exact so rfl (op_app (k := k92) (s := 7) (by_ := 56) 0 4 rfl rfl rfl rfl (ap1 g14 dq) (ap1n g14 dq) (.inl rfl) true (fun _ => .inl rfl) rfl rfl fun A41_15 c41_15 => (nmE (en := [.sl 0 k70 Al0_1 cl0_1 l0_1 0 false, .sl 0 k70 Al0_2 cl0_2 l0_2 0 false, .sl 0 .bool Al0_3 cl0_3 l0_3 0 false, .sl 2 k92 A40_13 c40_13 ([(⟨(⟨(rd_T70 l0_1 x2_4).f0, (rd_T70 l0_1 x2_4).f1, (rd_T70 l0_1 x2_4).f2⟩ : S70), (⟨0, 0, 0⟩ : S70), false⟩ : S92)] : List S92) 2 true, .sl 2 k92 A41_15 c41_15 (x2_3 ++ ([(⟨(⟨(rd_T70 l0_1 x2_4).f0, (rd_T70 l0_1 x2_4).f1, (rd_T70 l0_1 x2_4).f2⟩ : S70), (⟨0, 0, 0⟩ : S70), false⟩ : S92)] : List S92)) 1 true]) (by kernel_rfl) (sv (EV.as rfl) rfl (re (pr [1, 3, 4, 12, 13, 24, 25, 26, 27, 28, 29, 30, 31] [0] [0, 1, 2, 4] rfl rfl rfl rfl (ge (rg (sv (EV.mv rfl) rfl (sv (EV.add rfl rfl) rfl (sv (EV.as rfl) rfl (re (wk [1, 3, 4] [0] [⟨3, 2, 1, true⟩, ⟨0, 0, 0, false⟩, ⟨1, 0, 0, false⟩, ⟨2, 0, 0, false⟩] (ih0 _ (by omega) _ ⟨x2_3 ++ ([(⟨(⟨(rd_T70 l0_1 x2_4).f0, (rd_T70 l0_1 x2_4).f1, (rd_T70 l0_1 x2_4).f2⟩ : S70), (⟨0, 0, 0⟩ : S70), false⟩ : S92)] : List S92), A41_15, c41_15, wrap64 (x2_4 + 1), x2_1_0, x2_1_4, H, rfl⟩)))))))))))))
     ·
      exact gf rfl (dF c12) (gk (ge (rg (sv (EV.mv rfl) rfl (sv (EV.add rfl rfl) rfl (sv (EV.as rfl) rfl (re (wk [1, 3, 4] [0] [⟨0, 2, 1, true⟩, ⟨1, 0, 0, false⟩, ⟨2, 0, 0, false⟩, ⟨3, 0, 0, false⟩] (ih0 _ (by omega) _ ⟨x2_3, Ax2_3, cx2_3, wrap64 (x2_4 + 1), x2_1_0, x2_1_4, H, rfl⟩)))))))))
  ·
   obtain rfl := bF c4
   refine gf rfl rfl (gx rfl (gs (rg (sv (EV.mv rfl) rfl (sv (EV.as rfl) rfl (re (pr [2] [] [0] rfl rfl rfl rfl ?_)))))))
   cases H
   exact rt Try.func30 rfl (.tmp rfl .nil) rfl [] [⟨0, 2, 1, true⟩] rfl rfl rfl rfl rfl ⟨_, _, rfl, rfl, rfl⟩
 ·
  refine ts 11 rfl (dF c2) (sk rfl (sk rfl (sv (EV.pf rfl rfl rfl) rfl (re (pr [1, 3, 4, 14] [0] [0, 1, 2, 3] rfl rfl rfl rfl (gf rfl rfl (gx rfl (gs (rg (sv (EV.mv rfl) rfl (sv (EV.as rfl) rfl (re ?_))))))))))))
  cases H
  exact rt Try.func30 rfl (.tmp rfl .nil) rfl [] [⟨0, 2, 1, true⟩] rfl rfl rfl rfl rfl ⟨_, _, rfl, rfl, rfl⟩
end Go.Proofs.Ytajjeemkdjfilaa.K
namespace Go.Proofs.Ytajjeemkdjfilaa.K
open Go Go.RowKit
set_option linter.unusedVariables false
set_option linter.unusedSimpArgs false
def laws_at.f (l0 : List Int) (a1 : Int) : Option (Int) := if a1 < (l0.length : Int) then (if 0 ≤ a1 then (some (IntKind.i64.wrap (rdOf 0 l0 a1))) else none) else (some (Int.tmod (wrap64 ((wrap64 (a1 * 37)) + (wrap64 ((l0.length : Int) * 11)))) 256))
set_option maxHeartbeats 4000000 in
set_option maxRecDepth 100000 in
theorem laws_at.ok (l0 : List Int) (Al0 : Option Addr) (cl0 : Nat) (a1 : Int) (r0 : Int) (H : laws_at.f l0 a1 = some r0) : Fn Try.prog 83 [.slice Al0 l0.length cl0, .int .i64 a1] [] [.sl 0 (.int .u8) Al0 cl0 l0 0 false] (fun v bx en => v = .int .i64 r0 ∧ bx = [] ∧ en = []) := by
 refine fn_ 21 Try.func83 rfl rfl rfl (fun base T w0 => ?_)
 rw [laws_at.f] at H
 refine gs (rg (sv (EV.as rfl) rfl (re (gs (gs (rg (sv (EV.mv rfl) rfl (sv (EV.mv rfl) rfl (sv (EV.ln rfl) rfl (sv (EV.lss rfl rfl) rfl (re ?_)))))))))))
 revert H; refine ifsI ?_ ?_ <;> intro c1 H
 ·
  refine gt rfl (dT c1) (gs (rg (sv (EV.mv rfl) rfl (sv (EV.mv rfl) rfl ?_))))
  revert H; refine ggI ?_; intro g2 H
  refine sv (EV.ix 0 rfl rfl rfl g2 c1 rfl) rfl (sv (EV.le (v := .int .u8 (rdOf 0 l0 a1)) a1 0 none 0 0 rfl rfl rfl g2 c1 rfl rfl rfl) rfl (sv (EV.cv (k' := .i64) rfl) rfl (sv (EV.as rfl) rfl (re (pr [4] [] [] rfl rfl rfl rfl ?_)))))
  cases H
  exact rt Try.func83 rfl (.tmp rfl .nil) rfl [] [] rfl rfl rfl rfl rfl ⟨rfl, rfl, rfl⟩
 ·
  refine gf rfl (dF c1) (gk (gs (rg (sv (EV.mv rfl) rfl (sv (EV.mul rfl rfl) rfl (sv (EV.mv rfl) rfl (sv (EV.ln rfl) rfl (sv (EV.mul rfl rfl) rfl (sv (EV.add rfl rfl) rfl (sv (EV.rem rfl rfl dq) rfl (sv (EV.as rfl) rfl (re (pr [4] [] [] rfl rfl rfl rfl ?_)))))))))))))
  cases H
  exact rt Try.func83 rfl (.tmp rfl .nil) rfl [] [] rfl rfl rfl rfl rfl ⟨rfl, rfl, rfl⟩
end Go.Proofs.Ytajjeemkdjfilaa.K
namespace Go.Proofs.Ytajjeemkdjfilaa.K
open Go Go.RowKit
set_option linter.unusedVariables false
set_option linter.unusedSimpArgs false
def laws_cutAt.f (l0 : List Int) (a1 : Int) (a2 : Int) : Option (Int) := (laws_at.f l0 a1).bind fun t1 => (some (wrap64 (Int.tdiv (wrap64 (t1 * (wrap64 (a2 + 1)))) 256)))
set_option maxHeartbeats 4000000 in
set_option maxRecDepth 100000 in
theorem laws_cutAt.ok (l0 : List Int) (Al0 : Option Addr) (cl0 : Nat) (a1 : Int) (a2 : Int) (r0 : Int) (H : laws_cutAt.f l0 a1 a2 = some r0) : Fn Try.prog 32 [.slice Al0 l0.length cl0, .int .i64 a1, .int .i64 a2] [] [.sl 0 (.int .u8) Al0 cl0 l0 0 false] (fun v bx en => v = .int .i64 r0 ∧ bx = [] ∧ en = []) := by
 refine fn_ 14 Try.func32 rfl rfl rfl (fun base T w0 => ?_)
 rw [laws_cutAt.f] at H
 refine gs (rg (sv (EV.as rfl) rfl (re (gs (rg (sv (EV.mv rfl) rfl (sv (EV.mv rfl) rfl ?_)))))))
 revert H; refine bdI ?_; rintro t1 A1 H
 refine so rfl (op_call (laws_at.ok l0 Al0 cl0 a1 _ A1) [⟨0, 0, 0, false⟩] 1 rfl rfl rfl rfl rfl ?_)
 rintro _ _ _ ⟨rfl, rfl, rfl⟩
 refine sv (EV.mv rfl) rfl (sv (EV.add rfl rfl) rfl (sv (EV.mul rfl rfl) rfl (sv (EV.quo rfl rfl dq) rfl (sv (EV.as rfl) rfl (re (pr [6] [] [] rfl rfl rfl rfl ?_))))))
 cases H
 exact rt Try.func32 rfl (.tmp rfl .nil) rfl [] [] rfl rfl rfl rfl rfl ⟨rfl, rfl, rfl⟩
end Go.Proofs.Ytajjeemkdjfilaa.K
namespace Go.Proofs.Ytajjeemkdjfilaa.K
open Go Go.RowKit
set_option linter.unusedVariables false
set_option linter.unusedSimpArgs false
def laws_big.f (l0 : List Int) : Option (Bool) := some (decide ((l0.length : Int) > 1048576))
set_option maxHeartbeats 4000000 in
set_option maxRecDepth 100000 in
theorem laws_big.ok (l0 : List Int) (Al0 : Option Addr) (cl0 : Nat) (r0 : Bool) (H : laws_big.f l0 = some r0) : Fn Try.prog 9 [.slice Al0 l0.length cl0] [] [.sl 0 (.int .u8) Al0 cl0 l0 0 false] (fun v bx en => v = .bool r0 ∧ bx = [] ∧ en = []) := by
 refine fn_ 6 Try.func9 rfl rfl rfl (fun base T w0 => ?_)
 rw [laws_big.f] at H
 refine gs (rg (sv (EV.as rfl) rfl (re (gs (rg (sv (EV.mv rfl) rfl (sv (EV.ln rfl) rfl (sv (EV.gtr rfl rfl) rfl (sv (EV.as rfl) rfl (re ?_))))))))))
 cases H
 exact rt Try.func9 rfl (.tmp rfl .nil) rfl [] [] rfl rfl rfl rfl rfl ⟨rfl, rfl, rfl⟩
end Go.Proofs.Ytajjeemkdjfilaa.K
namespace Go.Proofs.Ytajjeemkdjfilaa.K
open Go Go.RowKit
set_option linter.unusedVariables false
set_option linter.unusedSimpArgs false
def laws_FnChunkedJoin.l0 : Nat → (List S70) → (List S92) → Int → Int → (List S70) → (List S70) → (List Bool) → Int → Int → (List S70) → (List S70) → (List Bool) → Int → (List Int) → Option (Bool)
 | 0, _, _, _, _, _, _, _, _, _, _, _, _, _, _ => none
 | k + 1, x2_4, x2_5, x2_10, x2_3_0, x2_3_1, x2_3_2, x2_3_3, x2_3_4, x2_6_0, x2_6_1, x2_6_2, x2_6_3, x2_6_4, l0 => if x2_10 < (x2_3_3.length : Int) then (if x2_10 ≥ (x2_6_3.length : Int) then (some false) else (if 0 ≤ x2_10 then (if (rdOf false x2_3_3 x2_10) = true then (if x2_10 < (x2_6_3.length : Int) then (if (rdOf false x2_6_3 x2_10) = true then (laws_FnChunkedJoin.l0 k x2_4 x2_5 (wrap64 (x2_10 + 1)) x2_3_0 x2_3_1 x2_3_2 x2_3_3 x2_3_4 x2_6_0 x2_6_1 x2_6_2 x2_6_3 x2_6_4 l0) else (some false)) else none) else (laws_FnChunkedJoin.l0 k x2_4 x2_5 (wrap64 (x2_10 + 1)) x2_3_0 x2_3_1 x2_3_2 x2_3_3 x2_3_4 x2_6_0 x2_6_1 x2_6_2 x2_6_3 x2_6_4 l0)) else none)) else ((laws_cutAt.f l0 3 (x2_4.length : Int)).bind fun t23 => (if 0 ≤ t23 then (if t23 ≤ (x2_4.length : Int) then ((impl_JoinChunk.f k x2_3_0 x2_3_1 x2_3_2 x2_3_3 x2_3_4 (x2_4.take t23.toNat)).bind fun bt26 => ((impl_JoinChunk.f k bt26.2.1 bt26.2.2.1 bt26.2.2.2.1 bt26.2.2.2.2.1 bt26.2.2.2.2.2 (x2_4.drop t23.toNat)).bind fun bt27 => (if bt26.1.length ≤ 2513169434916 then (if bt26.1.length + bt27.1.length ≤ 2513169434916 then ((spec_EqualPairBags.f k (bt26.1 ++ bt27.1) x2_5).bind fun t33 => (if t33 = true then ((spec_EqualTasks.f k bt27.2.1 bt27.2.2.1 bt27.2.2.2.1 bt27.2.2.2.2.1 bt27.2.2.2.2.2 x2_6_0 x2_6_1 x2_6_2 x2_6_3 x2_6_4).bind fun t35 => (some t35)) else (some false))) else none) else none))) else none) else none))
def laws_FnChunkedJoin.f (k : Nat) (l0 : List Int) : Option (Bool) := (laws_big.f l0).bind fun t1 => (if t1 = true then (some true) else ((spec_DrawJoinChunk.f k l0).bind fun bt3 => ((impl_JoinChunk.f k bt3.1 bt3.2.1 bt3.2.2.1 bt3.2.2.2.1 bt3.2.2.2.2.1 bt3.2.2.2.2.2).bind fun bt4 => ((spec_JoinChunk.f k bt3.1 bt3.2.1 bt3.2.2.1 bt3.2.2.2.1 bt3.2.2.2.2.1 bt3.2.2.2.2.2).bind fun bt5 => ((spec_DrawUnmatchedRows.f k l0).bind fun bt6 => ((spec_EqualPairBags.f k bt4.1 bt5.1).bind fun t7 => (if t7 = true then ((spec_EqualTasks.f k bt4.2.1 bt4.2.2.1 bt4.2.2.2.1 bt4.2.2.2.2.1 bt4.2.2.2.2.2 bt5.2.1 bt5.2.2.1 bt5.2.2.2.1 bt5.2.2.2.2.1 bt5.2.2.2.2.2).bind fun t9 => (if t9 = true then ((impl_UnmatchedRows.f k bt6.1 bt6.2.1 bt6.2.2.1 bt6.2.2.2.1 bt6.2.2.2.2).bind fun t11 => ((spec_UnmatchedRows.f k bt6.1 bt6.2.1 bt6.2.2.1 bt6.2.2.2.1 bt6.2.2.2.2).bind fun t12 => ((spec_EqualPairBags.f k t11 t12).bind fun t13 => (if t13 = true then ((spec_IsValidTask.f k bt3.1 bt3.2.1 bt3.2.2.1 bt3.2.2.2.1 bt3.2.2.2.2.1).bind fun t15 => (if t15 = true then (laws_FnChunkedJoin.l0 k bt3.2.2.2.2.2 bt4.1 0 bt3.1 bt3.2.1 bt3.2.2.1 bt3.2.2.2.1 bt3.2.2.2.2.1 bt4.2.1 bt4.2.2.1 bt4.2.2.2.1 bt4.2.2.2.2.1 bt4.2.2.2.2.2 l0) else (some (decide ((bt4.1.length : Int) = 0))))) else (some false))))) else (some false))) else (some false))))))))
set_option maxHeartbeats 4000000 in
set_option maxRecDepth 100000 in
theorem laws_FnChunkedJoin.ok (k : Nat) (l0 : List Int) (Al0 : Option Addr) (cl0 : Nat) (r0 : Bool) (H : laws_FnChunkedJoin.f k l0 = some r0) : Fn Try.prog 4 [.slice Al0 l0.length cl0] [] [.sl 0 (.int .u8) Al0 cl0 l0 0 false] (fun v bx en => v = .bool r0 ∧ bx = [] ∧ en = []) := by
 refine fn_ 120 Try.func4 rfl rfl rfl (fun base T w0 => ?_)
 rw [laws_FnChunkedJoin.f] at H
 refine gs (rg (sv (EV.as rfl) rfl (re (gs (gs (rg (sv (EV.mv rfl) rfl ?_)))))))
 revert H; refine bdI ?_; rintro t1 A1 H
 refine so rfl (op_call (laws_big.ok l0 Al0 cl0 _ A1) [⟨0, 0, 0, false⟩] 1 rfl rfl rfl rfl rfl ?_)
 rintro _ _ _ ⟨rfl, rfl, rfl⟩
 refine re ?_
 revert H; refine ifsI ?_ ?_ <;> intro c2 H
 ·
  subst c2
  refine gt rfl rfl (gs (rg (sv (EV.as rfl) rfl (re ?_))))
  cases H
  exact rt Try.func4 rfl (.tmp rfl .nil) rfl [] [] rfl rfl rfl rfl rfl ⟨rfl, rfl, rfl⟩
 ·
  obtain rfl := bF c2
  refine gf rfl rfl (gk (gs (rg (sv (EV.mv rfl) rfl ?_))))
  revert H; refine bdI ?_; rintro ⟨t3_0, t3_1, t3_2, t3_3, t3_4, t3_5⟩ A3 H
  refine so rfl (op_call (spec_DrawJoinChunk.ok k l0 Al0 cl0 _ _ _ _ _ _ A3) [⟨0, 0, 0, false⟩] 1 rfl rfl rfl rfl rfl ?_)
  rintro _ _ _ ⟨At3_1, ct3_1, At3_2, ct3_2, At3_3, ct3_3, At3_5, ct3_5, rfl, rfl, rfl⟩
  refine sv (EV.mv rfl) rfl (sv (EV.ex rfl rfl) rfl (sv (EV.ex rfl rfl) rfl (so rfl (op_alloc (cs := [.int .i64 0, .slice none 0 0, .slice none 0 0, .slice none 0 0, .int .i64 0]) (by kernel_rfl) rfl fun b3 => (so rfl (op_st (cs' := [.int .i64 t3_0, .slice At3_1 t3_1.length ct3_1, .slice At3_2 t3_2.length ct3_2, .slice At3_3 t3_3.length ct3_3, .int .i64 t3_4]) 0 rfl rfl rfl rfl rfl rfl (sv (EV.as rfl) rfl (re (pr [0, 3, 4] [0] [0, 1, 2, 3, 4] rfl rfl rfl rfl (gs (rg (sv (EV.ld (v := .agg #[.int .i64 t3_0, .slice At3_1 t3_1.length ct3_1, .slice At3_2 t3_2.length ct3_2, .slice At3_3 t3_3.length ct3_3, .int .i64 t3_4]) 0 (some 5) rfl rfl rfl) rfl (sv (EV.mv rfl) rfl ?_)))))))))))))
  revert H; refine bdI ?_; rintro ⟨t4_0, t4_1, t4_2, t4_3, t4_4, t4_5⟩ A4 H
  refine so rfl (op_call (impl_JoinChunk.ok k t3_0 t3_1 At3_1 ct3_1 t3_2 At3_2 ct3_2 t3_3 At3_3 ct3_3 t3_4 t3_5 At3_5 ct3_5 _ _ _ _ _ _ A4) [⟨1, 0, 0, false⟩, ⟨2, 0, 0, false⟩, ⟨3, 0, 0, false⟩, ⟨4, 0, 0, false⟩] 6 rfl rfl rfl rfl rfl ?_)
  rintro _ _ _ ⟨At4_0, ct4_0, At4_2, ct4_2, At4_3, ct4_3, At4_4, ct4_4, rfl, rfl, rfl⟩
  refine sv (EV.mv rfl) rfl (sv (EV.ex rfl rfl) rfl (sv (EV.ex rfl rfl) rfl (so rfl (op_alloc (cs := [.int .i64 0, .slice none 0 0, .slice none 0 0, .slice none 0 0, .int .i64 0]) (by kernel_rfl) rfl fun b6 => (sv (EV.as rfl) rfl (so rfl (op_st (cs' := [.int .i64 t4_1, .slice At4_2 t4_2.length ct4_2, .slice At4_3 t4_3.length ct4_3, .slice At4_4 t4_4.length ct4_4, .int .i64 t4_5]) 1 rfl rfl rfl rfl rfl rfl (re (pr [0, 3, 4, 5, 6] [0, 1] [0, 1, 2, 3, 4, 5, 6, 7, 8] rfl rfl rfl rfl (gs (rg (sv (EV.ld (v := .agg #[.int .i64 t3_0, .slice At3_1 t3_1.length ct3_1, .slice At3_2 t3_2.length ct3_2, .slice At3_3 t3_3.length ct3_3, .int .i64 t3_4]) 0 (some 5) rfl rfl rfl) rfl (sv (EV.mv rfl) rfl ?_)))))))))))))
  revert H; refine bdI ?_; rintro ⟨t5_0, t5_1, t5_2, t5_3, t5_4, t5_5⟩ A5 H
  refine so rfl (op_call (spec_JoinChunk.ok k t3_0 t3_1 At3_1 ct3_1 t3_2 At3_2 ct3_2 t3_3 At3_3 ct3_3 t3_4 t3_5 At3_5 ct3_5 _ _ _ _ _ _ A5) [⟨1, 0, 0, false⟩, ⟨2, 0, 0, false⟩, ⟨3, 0, 0, false⟩, ⟨4, 0, 0, false⟩] 11 rfl rfl rfl rfl rfl ?_)
  rintro _ _ _ ⟨At5_0, ct5_0, At5_2, ct5_2, At5_3, ct5_3, At5_4, ct5_4, rfl, rfl, rfl⟩
  refine sv (EV.mv rfl) rfl (sv (EV.ex rfl rfl) rfl (sv (EV.ex rfl rfl) rfl (so rfl (op_alloc (cs := [.int .i64 0, .slice none 0 0, .slice none 0 0, .slice none 0 0, .int .i64 0]) (by kernel_rfl) rfl fun b8 => (sv (EV.as rfl) rfl (so rfl (op_st (cs' := [.int .i64 t5_1, .slice At5_2 t5_2.length ct5_2, .slice At5_3 t5_3.length ct5_3, .slice At5_4 t5_4.length ct5_4, .int .i64 t5_5]) 2 rfl rfl rfl rfl rfl rfl (re (pr [0, 3, 4, 5, 6, 7, 8] [0, 1, 2] [0, 1, 2, 3, 4, 5, 6, 7, 8, 9, 10, 11, 12] rfl rfl rfl rfl (gs (rg (sv (EV.mv rfl) rfl ?_))))))))))))
  revert H; refine bdI ?_; rintro ⟨t6_0, t6_1, t6_2, t6_3, t6_4⟩ A6 H
  refine so rfl (op_call (spec_DrawUnmatchedRows.ok k l0 Al0 cl0 _ _ _ _ _ A6) [⟨0, 0, 0, false⟩] 16 rfl rfl rfl rfl rfl ?_)
  rintro _ _ _ ⟨At6_1, ct6_1, At6_2, ct6_2, At6_3, ct6_3, rfl, rfl, rfl⟩
  refine so rfl (op_alloc (cs := [.int .i64 0, .slice none 0 0, .slice none 0 0, .slice none 0 0, .int .i64 0]) (by kernel_rfl) rfl fun b9 => (so rfl (op_st (cs' := [.int .i64 t6_0, .slice At6_1 t6_1.length ct6_1, .slice At6_2 t6_2.length ct6_2, .slice At6_3 t6_3.length ct6_3, .int .i64 t6_4]) 3 rfl rfl rfl rfl rfl rfl (re (gs (gs (dr [0, 1, 2, 3] [0, 1, 2, 3, 4, 5, 6, 7, 8, 9, 10, 11, 12, 13, 14, 15] [2] 18 rfl rfl rfl rfl (xv 0 [0, 1, 2, 3] [0, 1, 2, 3, 4, 5, 6, 7, 8, 9, 10, 11, 12, 13, 14, 15] rfl (EV.mv rfl) rfl rfl rfl rfl (xv 1 [0, 1, 2, 3] [0, 1, 2, 3, 4, 5, 6, 7, 8, 9, 10, 11, 12, 13, 14, 15] rfl (EV.mv rfl) rfl rfl rfl rfl (one1 2 rfl rfl ?_))))))))))
  revert H; refine bdI ?_; rintro t7 A7 H
  refine op_call (spec_EqualPairBags.ok k t4_0 At4_0 ct4_0 t5_0 At5_0 ct5_0 _ A7) [⟨5, 0, 0, false⟩, ⟨9, 0, 0, false⟩] 20 rfl rfl rfl rfl rfl ?_
  rintro _ _ _ ⟨rfl, rfl, rfl⟩
  refine xn rfl (xv 3 [0, 1, 2, 3] [0, 1, 2, 3, 4, 5, 6, 7, 8, 9, 10, 11, 12, 13, 14, 15] rfl (EV.nt rfl) rfl rfl rfl rfl (xv 4 [0, 1, 2, 3] [0, 1, 2, 3, 4, 5, 6, 7, 8, 9, 10, 11, 12, 13, 14, 15] rfl (EV.mv rfl) rfl rfl rfl rfl ?_))
  revert H; refine ifsI ?_ ?_ <;> intro c8 H
  ·
   subst c8
   refine ts 41 rfl rfl (xv 5 [0, 1, 2, 3] [0, 1, 2, 3, 4, 5, 6, 7, 8, 9, 10, 11, 12, 13, 14, 15] rfl (EV.ld (v := .agg #[.int .i64 t4_1, .slice At4_2 t4_2.length ct4_2, .slice At4_3 t4_3.length ct4_3, .slice At4_4 t4_4.length ct4_4, .int .i64 t4_5]) 1 (some 5) rfl rfl rfl) rfl rfl rfl rfl (xv 6 [0, 1, 2, 3] [0, 1, 2, 3, 4, 5, 6, 7, 8, 9, 10, 11, 12, 13, 14, 15] rfl (EV.ld (v := .agg #[.int .i64 t5_1, .slice At5_2 t5_2.length ct5_2, .slice At5_3 t5_3.length ct5_3, .slice At5_4 t5_4.length ct5_4, .int .i64 t5_5]) 2 (some 5) rfl rfl rfl) rfl rfl rfl rfl (one1 7 rfl rfl ?_)))
   revert H; refine bdI ?_; rintro t9 A9 H
   refine op_call (spec_EqualTasks.ok k t4_1 t4_2 At4_2 ct4_2 t4_3 At4_3 ct4_3 t4_4 At4_4 ct4_4 t4_5 t5_1 t5_2 At5_2 ct5_2 t5_3 At5_3 ct5_3 t5_4 At5_4 ct5_4 t5_5 _ A9) [⟨6, 0, 0, false⟩, ⟨7, 0, 0, false⟩, ⟨8, 0, 0, false⟩, ⟨10, 0, 0, false⟩, ⟨11, 0, 0, false⟩, ⟨12, 0, 0, false⟩] 20 rfl rfl rfl rfl rfl ?_
   rintro _ _ _ ⟨rfl, rfl, rfl⟩
   refine xs [0, 1, 2, 3] [0, 1, 2, 3, 4, 5, 6, 7, 8, 9, 10, 11, 12, 13, 14, 15] rfl rfl rfl (xv 8 [0, 1, 2, 3] [0, 1, 2, 3, 4, 5, 6, 7, 8, 9, 10, 11, 12, 13, 14, 15] rfl (EV.nt rfl) rfl rfl rfl rfl (xv 9 [0, 1, 2, 3] [0, 1, 2, 3, 4, 5, 6, 7, 8, 9, 10, 11, 12, 13, 14, 15] rfl (EV.pf rfl rfl rfl) rfl rfl rfl rfl (xv 10 [0, 1, 2, 3] [0, 1, 2, 3, 4, 5, 6, 7, 8, 9, 10, 11, 12, 13, 14, 15] rfl (EV.mv rfl) rfl rfl rfl rfl ?_)))
   revert H; refine ifsI ?_ ?_ <;> intro c10 H
   ·
    subst c10
    refine ts 47 rfl rfl (xv 11 [0, 1, 2, 3] [0, 1, 2, 3, 4, 5, 6, 7, 8, 9, 10, 11, 12, 13, 14, 15] rfl (EV.ld (v := .agg #[.int .i64 t6_0, .slice At6_1 t6_1.length ct6_1, .slice At6_2 t6_2.length ct6_2, .slice At6_3 t6_3.length ct6_3, .int .i64 t6_4]) 3 (some 5) rfl rfl rfl) rfl rfl rfl rfl (xv 13 [0, 1, 2, 3] [0, 1, 2, 3, 4, 5, 6, 7, 8, 9, 10, 11, 12, 13, 14, 15] rfl (EV.ld (v := .agg #[.int .i64 t6_0, .slice At6_1 t6_1.length ct6_1, .slice At6_2 t6_2.length ct6_2, .slice At6_3 t6_3.length ct6_3, .int .i64 t6_4]) 3 (some 5) rfl rfl rfl) rfl rfl rfl rfl (one1 12 rfl rfl ?_)))
    revert H; refine bdI ?_; rintro t11 A11 H
    refine op_call (impl_UnmatchedRows.ok k t6_0 t6_1 At6_1 ct6_1 t6_2 At6_2 ct6_2 t6_3 At6_3 ct6_3 t6_4 _ A11) [⟨13, 0, 0, false⟩, ⟨14, 0, 0, false⟩, ⟨15, 0, 0, false⟩] 20 rfl rfl rfl rfl rfl ?_
    rintro _ _ _ ⟨At11, ct11, rfl, rfl, rfl⟩
    refine xs [0, 1, 2, 3] [0, 1, 2, 3, 4, 5, 6, 7, 8, 9, 10, 11, 12, 13, 14, 15] rfl rfl rfl (one1 14 rfl rfl ?_)
    revert H; refine bdI ?_; rintro t12 A12 H
    refine op_call (spec_UnmatchedRows.ok k t6_0 t6_1 At6_1 ct6_1 t6_2 At6_2 ct6_2 t6_3 At6_3 ct6_3 t6_4 _ A12) [⟨13, 0, 0, false⟩, ⟨14, 0, 0, false⟩, ⟨15, 0, 0, false⟩] 22 rfl rfl rfl rfl rfl ?_
    rintro _ _ _ ⟨At12, ct12, rfl, rfl, rfl⟩
    refine xs [0, 1, 2, 3] [0, 1, 2, 3, 4, 5, 6, 7, 8, 9, 10, 11, 12, 13, 14, 15] rfl rfl rfl (one1 15 rfl rfl ?_)
    revert H; refine bdI ?_; rintro t13 A13 H
    refine op_call (spec_EqualPairBags.ok k t11 At11 ct11 t12 At12 ct12 _ A13) [⟨16, 0, 0, false⟩, ⟨17, 0, 0, false⟩] 24 rfl rfl rfl rfl rfl ?_
    rintro _ _ _ ⟨rfl, rfl, rfl⟩
    refine xs [0, 1, 2, 3] [0, 1, 2, 3, 4, 5, 6, 7, 8, 9, 10, 11, 12, 13, 14, 15] rfl rfl rfl (xv 16 [0, 1, 2, 3] [0, 1, 2, 3, 4, 5, 6, 7, 8, 9, 10, 11, 12, 13, 14, 15] rfl (EV.nt rfl) rfl rfl rfl rfl (xv 17 [0, 1, 2, 3] [0, 1, 2, 3, 4, 5, 6, 7, 8, 9, 10, 11, 12, 13, 14, 15] rfl (EV.pf rfl rfl rfl) rfl rfl rfl rfl (xd (pr [0, 3, 4, 5, 6, 54] [0, 1] [0, 1, 2, 3, 4, 5, 6, 7, 8] rfl rfl rfl rfl ?_))))
    revert H; refine ifsI ?_ ?_ <;> intro c14 H
    ·
     subst c14
     refine gf rfl rfl (gk (gs (gs (rg (sv (EV.ld (v := .agg #[.int .i64 t3_0, .slice At3_1 t3_1.length ct3_1, .slice At3_2 t3_2.length ct3_2, .slice At3_3 t3_3.length ct3_3, .int .i64 t3_4]) 0 (some 5) rfl rfl rfl) rfl ?_)))))
     revert H; refine bdI ?_; rintro t15 A15 H
     refine so rfl (op_call (spec_IsValidTask.ok k t3_0 t3_1 At3_1 ct3_1 t3_2 At3_2 ct3_2 t3_3 At3_3 ct3_3 t3_4 _ A15) [⟨1, 0, 0, false⟩, ⟨2, 0, 0, false⟩, ⟨3, 0, 0, false⟩] 11 rfl rfl rfl rfl rfl ?_)
     rintro _ _ _ ⟨rfl, rfl, rfl⟩
     refine sv (EV.nt rfl) rfl (re ?_)
     revert H; refine ifsI ?_ ?_ <;> intro c16 H
     ·
      subst c16
      refine gf rfl rfl (gk (gs (gs (rg (sv (EV.as rfl) rfl (re (gb ?_)))))))
      refine lo (fun kk S => ∃ (x2_4 : List S70) (Ax2_4 : Option Addr) (cx2_4 : Nat) (x2_5 : List S92) (Ax2_5 : Option Addr) (cx2_5 : Nat) (x2_10 : Int) (x2_3_0 : Int) (x2_3_1 : List S70) (Ax2_3_1 : Option Addr) (cx2_3_1 : Nat) (x2_3_2 : List S70) (Ax2_3_2 : Option Addr) (cx2_3_2 : Nat) (x2_3_3 : List Bool) (Ax2_3_3 : Option Addr) (cx2_3_3 : Nat) (x2_3_4 : Int) (x2_6_0 : Int) (x2_6_1 : List S70) (Ax2_6_1 : Option Addr) (cx2_6_1 : Nat) (x2_6_2 : List S70) (Ax2_6_2 : Option Addr) (cx2_6_2 : Nat) (x2_6_3 : List Bool) (Ax2_6_3 : Option Addr) (cx2_6_3 : Nat) (x2_6_4 : Int), laws_FnChunkedJoin.l0 kk x2_4 x2_5 x2_10 x2_3_0 x2_3_1 x2_3_2 x2_3_3 x2_3_4 x2_6_0 x2_6_1 x2_6_2 x2_6_3 x2_6_4 l0 = some r0 ∧ S = ⟨[(0, .slice Al0 l0.length cl0), (3, .pointer (some ⟨b3, 0, none⟩)), (4, .slice Ax2_4 x2_4.length cx2_4), (5, .slice Ax2_5 x2_5.length cx2_5), (6, .pointer (some ⟨b6, 0, none⟩)), (10, .int .i64 x2_10)], [⟨b3, 44, [.int .i64 x2_3_0, .slice Ax2_3_1 x2_3_1.length cx2_3_1, .slice Ax2_3_2 x2_3_2.length cx2_3_2, .slice Ax2_3_3 x2_3_3.length cx2_3_3, .int .i64 x2_3_4]⟩, ⟨b6, 44, [.int .i64 x2_6_0, .slice Ax2_6_1 x2_6_1.length cx2_6_1, .slice Ax2_6_2 x2_6_2.length cx2_6_2, .slice Ax2_6_3 x2_6_3.length cx2_6_3, .int .i64 x2_6_4]⟩], [.sl 2 k70 Ax2_4 cx2_4 x2_4 1 true, .sl 2 k92 Ax2_5 cx2_5 x2_5 2 true, .sl 2 k70 Ax2_3_1 cx2_3_1 x2_3_1 3 true, .sl 2 k70 Ax2_3_2 cx2_3_2 x2_3_2 4 true, .sl 2 .bool Ax2_3_3 cx2_3_3 x2_3_3 5 true, .sl 2 k70 Ax2_6_1 cx2_6_1 x2_6_1 6 true, .sl 2 k70 Ax2_6_2 cx2_6_2 x2_6_2 7 true, .sl 2 .bool Ax2_6_3 cx2_6_3 x2_6_3 8 true, .sl 0 (.int .u8) Al0 cl0 l0 0 false]⟩) (fun S hS => ?_) (fun n0 ih0 S hS => ?_) ⟨t3_5, At3_5, ct3_5, t4_0, At4_0, ct4_0, 0, t3_0, t3_1, At3_1, ct3_1, t3_2, At3_2, ct3_2, t3_3, At3_3, ct3_3, t3_4, t4_1, t4_2, At4_2, ct4_2, t4_3, At4_3, ct4_3, t4_4, At4_4, ct4_4, t4_5, H, rfl⟩ (fun h => wk [0, 3, 4, 5, 6, 10] [0, 1] [⟨4, 2, 1, true⟩, ⟨5, 2, 2, true⟩, ⟨1, 2, 3, true⟩, ⟨2, 2, 4, true⟩, ⟨3, 2, 5, true⟩, ⟨6, 2, 6, true⟩, ⟨7, 2, 7, true⟩, ⟨8, 2, 8, true⟩, ⟨0, 0, 0, false⟩] h)
      · clear H; obtain ⟨_, _, _, _, _, _, _, _, _, _, _, _, _, _, _, _, _, _, _, _, _, _, _, _, _, _, _, _, _, H, _⟩ := hS; rw [laws_FnChunkedJoin.l0] at H; cases H
      clear H
      obtain ⟨x2_4, Ax2_4, cx2_4, x2_5, Ax2_5, cx2_5, x2_10, x2_3_0, x2_3_1, Ax2_3_1, cx2_3_1, x2_3_2, Ax2_3_2, cx2_3_2, x2_3_3, Ax2_3_3, cx2_3_3, x2_3_4, x2_6_0, x2_6_1, Ax2_6_1, cx2_6_1, x2_6_2, Ax2_6_2, cx2_6_2, x2_6_3, Ax2_6_3, cx2_6_3, x2_6_4, H, rfl⟩ := hS
      rw [laws_FnChunkedJoin.l0] at H
      refine gs (gs (rg (sv (EV.mv rfl) rfl (sv (EV.fa 3 rfl) rfl (sv (EV.ld 0 none rfl rfl rfl) rfl (sv (EV.ln rfl) rfl (sv (EV.lss rfl rfl) rfl (re ?_))))))))
      revert H; refine ifsI ?_ ?_ <;> intro c17 H
      ·
       refine gt rfl (dT c17) (gk (gs (gb (gs (rg (sv (EV.mv rfl) rfl (sv (EV.fa 3 rfl) rfl (sv (EV.ld 1 none rfl rfl rfl) rfl (sv (EV.ln rfl) rfl (sv (EV.geq rfl rfl) rfl (sv (EV.mv rfl) rfl ?_)))))))))))
       revert H; refine ifsI ?_ ?_ <;> intro c18 H
       ·
        refine ts 73 rfl (dT c18) (sk rfl (sk rfl (sk rfl (sk rfl (sk rfl (sk rfl (sk rfl (sk rfl (sk rfl (sk rfl (sk rfl (sk rfl (sk rfl (sv (EV.pt rfl rfl rfl) rfl (re (pr [0, 3, 4, 5, 6, 10, 87] [0, 1] [0, 1, 2, 3, 4, 5, 6, 7, 8] rfl rfl rfl rfl (gt rfl rfl (gs (rg (sv (EV.as rfl) rfl (re (pr [2] [] [] rfl rfl rfl rfl ?_))))))))))))))))))))))
        cases H
        exact rt Try.func4 rfl (.tmp rfl .nil) rfl [] [] rfl rfl rfl rfl rfl ⟨rfl, rfl, rfl⟩
       ·
        refine ts 73 rfl (dF c18) (sv (EV.fa 3 rfl) rfl (sv (EV.ld 0 none rfl rfl rfl) rfl (sv (EV.mv rfl) rfl ?_)))
        revert H; refine ggI ?_; intro g19 H
        refine sv (EV.ix 4 rfl rfl rfl g19 c17 rfl) rfl (sv (EV.le (v := .bool (rdOf false x2_3_3 x2_10)) x2_10 0 none 4 false rfl rfl rfl g19 c17 rfl rfl rfl) rfl (sv (EV.mv rfl) rfl ?_))
        revert H; refine ifsI ?_ ?_ <;> intro c20 H
        ·
         refine ts 79 rfl (c20) (sv (EV.fa 3 rfl) rfl (sv (EV.ld 1 none rfl rfl rfl) rfl (sv (EV.mv rfl) rfl ?_)))
         revert H; refine ggI ?_; intro g21 H
         refine sv (EV.ix 7 rfl rfl rfl g19 g21 rfl) rfl (sv (EV.le (v := .bool (rdOf false x2_6_3 x2_10)) x2_10 0 none 7 false rfl rfl rfl g19 g21 rfl rfl rfl) rfl (sv (EV.nt rfl) rfl (sv (EV.pt rfl rfl rfl) rfl (sv (EV.pf rfl rfl rfl) rfl (re (pr [0, 3, 4, 5, 6, 10, 74, 75, 76, 77, 78, 79, 80, 81, 82, 83, 84, 85, 86, 87] [0, 1] [0, 1, 2, 3, 4, 5, 6, 7, 8] rfl rfl rfl rfl ?_))))))
         revert H; refine ifsI ?_ ?_ <;> intro c22 H
         ·
          exact gf rfl (bN c22) (gk (ge (rg (sv (EV.mv rfl) rfl (sv (EV.add rfl rfl) rfl (sv (EV.as rfl) rfl (re (wk [0, 3, 4, 5, 6, 10] [0, 1] [⟨0, 2, 1, true⟩, ⟨1, 2, 2, true⟩, ⟨2, 2, 3, true⟩, ⟨3, 2, 4, true⟩, ⟨4, 2, 5, true⟩, ⟨5, 2, 6, true⟩, ⟨6, 2, 7, true⟩, ⟨7, 2, 8, true⟩, ⟨8, 0, 0, false⟩] (ih0 _ (by omega) _ ⟨x2_4, Ax2_4, cx2_4, x2_5, Ax2_5, cx2_5, wrap64 (x2_10 + 1), x2_3_0, x2_3_1, Ax2_3_1, cx2_3_1, x2_3_2, Ax2_3_2, cx2_3_2, x2_3_3, Ax2_3_3, cx2_3_3, x2_3_4, x2_6_0, x2_6_1, Ax2_6_1, cx2_6_1, x2_6_2, Ax2_6_2, cx2_6_2, x2_6_3, Ax2_6_3, cx2_6_3, x2_6_4, H, rfl⟩)))))))))
         ·
          refine gt rfl (bM c22) (gs (rg (sv (EV.as rfl) rfl (re (pr [2] [] [] rfl rfl rfl rfl ?_)))))
          cases H
          exact rt Try.func4 rfl (.tmp rfl .nil) rfl [] [] rfl rfl rfl rfl rfl ⟨rfl, rfl, rfl⟩
        ·
         exact ts 79 rfl (bF c20) (sk rfl (sk rfl (sk rfl (sk rfl (sk rfl (sk rfl (sv (EV.pf rfl rfl rfl) rfl (sv (EV.pf rfl rfl rfl) rfl (re (pr [0, 3, 4, 5, 6, 10, 74, 75, 76, 77, 78, 79, 86, 87] [0, 1] [0, 1, 2, 3, 4, 5, 6, 7, 8] rfl rfl rfl rfl (gf rfl rfl (gk (ge (rg (sv (EV.mv rfl) rfl (sv (EV.add rfl rfl) rfl (sv (EV.as rfl) rfl (re (wk [0, 3, 4, 5, 6, 10] [0, 1] [⟨0, 2, 1, true⟩, ⟨1, 2, 2, true⟩, ⟨2, 2, 3, true⟩, ⟨3, 2, 4, true⟩, ⟨4, 2, 5, true⟩, ⟨5, 2, 6, true⟩, ⟨6, 2, 7, true⟩, ⟨7, 2, 8, true⟩, ⟨8, 0, 0, false⟩] (ih0 _ (by omega) _ ⟨x2_4, Ax2_4, cx2_4, x2_5, Ax2_5, cx2_5, wrap64 (x2_10 + 1), x2_3_0, x2_3_1, Ax2_3_1, cx2_3_1, x2_3_2, Ax2_3_2, cx2_3_2, x2_3_3, Ax2_3_3, cx2_3_3, x2_3_4, x2_6_0, x2_6_1, Ax2_6_1, cx2_6_1, x2_6_2, Ax2_6_2, cx2_6_2, x2_6_3, Ax2_6_3, cx2_6_3, x2_6_4, H, rfl⟩))))))))))))))))))))
      ·
       refine gf rfl (dF c17) (gx rfl (gs (rg (sv (EV.mv rfl) rfl (sv (EV.mv rfl) rfl (sv (EV.ln rfl) rfl ?_))))))
       revert H; refine bdI ?_; rintro t23 A23 H
       refine so rfl (op_call (laws_cutAt.ok l0 Al0 cl0 3 (x2_4.length : Int) _ A23) [⟨8, 0, 0, false⟩] 9 rfl rfl rfl rfl rfl ?_)
       rintro _ _ _ ⟨rfl, rfl, rfl⟩
       refine sv (EV.as rfl) rfl (re (pr [3, 4, 5, 6, 11] [0, 1] [0, 1, 2, 3, 4, 5, 6, 7] rfl rfl rfl rfl (gs ?_)))
       revert H; refine ggI ?_; intro g24 H
       revert H; refine ggI ?_; intro g25 H
       refine dr [0, 1] [0, 1, 2, 3, 4, 5, 6, 7] [10] 11 rfl rfl rfl rfl (xv 0 [0, 1] [0, 1, 2, 3, 4, 5, 6, 7] rfl (EV.ld (v := .agg #[.int .i64 x2_3_0, .slice Ax2_3_1 x2_3_1.length cx2_3_1, .slice Ax2_3_2 x2_3_2.length cx2_3_2, .slice Ax2_3_3 x2_3_3.length cx2_3_3, .int .i64 x2_3_4]) 0 (some 5) rfl rfl rfl) rfl rfl rfl rfl (xv 1 [0, 1] [0, 1, 2, 3, 4, 5, 6, 7] rfl (EV.mv rfl) rfl rfl rfl rfl (xv 2 [0, 1] [0, 1, 2, 3, 4, 5, 6, 7] rfl (EV.mv rfl) rfl rfl rfl rfl (cutp (l' := x2_4.take t23.toNat) 0 t23 0 rfl (Int.le_refl 0) g24 g25 rfl 2 dq (.inr rfl) rfl (xv 3 [0, 1] [0, 1, 2, 3, 4, 5, 6, 7] rfl (EV.ct 0 t23 0 rfl rfl rfl rfl (Int.le_refl 0) g24 g25 rfl rfl ctnh) rfl rfl rfl rfl ?_)))))
       refine one2 4 8 rfl rfl rfl rfl ?_ ?_
       ·
        revert H; refine bdI ?_; rintro ⟨t26_0, t26_1, t26_2, t26_3, t26_4, t26_5⟩ A26 H
        refine op_call (impl_JoinChunk.ok n0 x2_3_0 x2_3_1 Ax2_3_1 cx2_3_1 x2_3_2 Ax2_3_2 cx2_3_2 x2_3_3 Ax2_3_3 cx2_3_3 x2_3_4 (x2_4.take t23.toNat) (cutA Ax2_4 cx2_4 (0 : Int).toNat 3) (cx2_4 - (0 : Int).toNat) _ _ _ _ _ _ A26) [⟨2, 0, 0, false⟩, ⟨3, 0, 0, false⟩, ⟨4, 0, 0, false⟩, ⟨8, 0, 0, false⟩] 9 rfl rfl rfl rfl rfl ?_
        rintro _ _ _ ⟨At26_0, ct26_0, At26_2, ct26_2, At26_3, ct26_3, At26_4, ct26_4, rfl, rfl, rfl⟩
        refine xs [0, 1] [0, 1, 2, 3, 4, 5, 6, 7] rfl rfl rfl (xv 5 [0, 1] [0, 1, 2, 3, 4, 5, 6, 7] rfl (EV.mv rfl) rfl rfl rfl rfl (xv 6 [0, 1] [0, 1, 2, 3, 4, 5, 6, 7] rfl (EV.ex rfl rfl) rfl rfl rfl rfl (xv 7 [0, 1] [0, 1, 2, 3, 4, 5, 6, 7] rfl (EV.ex rfl rfl) rfl rfl rfl rfl (one1 8 rfl rfl (op_alloc (cs := [.int .i64 0, .slice none 0 0, .slice none 0 0, .slice none 0 0, .int .i64 0]) (by kernel_rfl) rfl fun b13 => (xs [0, 1] [0, 1, 2, 3, 4, 5, 6, 7] rfl rfl rfl (xv 9 [0, 1] [0, 1, 2, 3, 4, 5, 6, 7] rfl (EV.as rfl) rfl rfl rfl rfl (one1 10 rfl rfl (op_st (cs' := [.int .i64 t26_1, .slice At26_2 t26_2.length ct26_2, .slice At26_3 t26_3.length ct26_3, .slice At26_4 t26_4.length ct26_4, .int .i64 t26_5]) 2 rfl rfl rfl rfl rfl rfl (xn rfl (xd (pr [4, 5, 6, 11, 12, 13] [1, 2] [0, 1, 5, 6, 7, 9, 10, 11, 12] rfl rfl rfl rfl (gs (dr [0, 1] [0, 1, 2, 3, 4, 5, 6, 7, 8] [10] 11 rfl rfl rfl rfl (xv 0 [0, 1] [0, 1, 2, 3, 4, 5, 6, 7, 8] rfl (EV.ld (v := .agg #[.int .i64 t26_1, .slice At26_2 t26_2.length ct26_2, .slice At26_3 t26_3.length ct26_3, .slice At26_4 t26_4.length ct26_4, .int .i64 t26_5]) 1 (some 5) rfl rfl rfl) rfl rfl rfl rfl (xv 1 [0, 1] [0, 1, 2, 3, 4, 5, 6, 7, 8] rfl (EV.mv rfl) rfl rfl rfl rfl (xv 2 [0, 1] [0, 1, 2, 3, 4, 5, 6, 7, 8] rfl (EV.mv rfl) rfl rfl rfl rfl (cutp (l' := x2_4.drop t23.toNat) t23 (x2_4.length : Int) 0 rfl g24 g25 (Int.le_refl _) rfl 1 dq (.inl dq) ctl (xv 3 [0, 1] [0, 1, 2, 3, 4, 5, 6, 7, 8] rfl (EV.ct t23 (x2_4.length : Int) 0 rfl rfl rfl rfl g24 g25 (Int.le_refl _) rfl rfl ctnl) rfl rfl rfl rfl ?_)))))))))))))))))))
        refine one2 4 8 rfl rfl rfl rfl ?_ ?_
        ·
         revert H; refine bdI ?_; rintro ⟨t27_0, t27_1, t27_2, t27_3, t27_4, t27_5⟩ A27 H
         refine op_call (impl_JoinChunk.ok n0 t26_1 t26_2 At26_2 ct26_2 t26_3 At26_3 ct26_3 t26_4 At26_4 ct26_4 t26_5 (x2_4.drop t23.toNat) (cutA Ax2_4 cx2_4 t23.toNat 3) (cx2_4 - t23.toNat) _ _ _ _ _ _ A27) [⟨6, 0, 0, false⟩, ⟨7, 0, 0, false⟩, ⟨8, 0, 0, false⟩, ⟨9, 0, 0, false⟩] 14 rfl rfl rfl rfl rfl ?_
         rintro _ _ _ ⟨At27_0, ct27_0, At27_2, ct27_2, At27_3, ct27_3, At27_4, ct27_4, rfl, rfl, rfl⟩
         refine xs [0, 1] [0, 1, 2, 3, 4, 5, 6, 7, 8] rfl rfl rfl (xv 5 [0, 1] [0, 1, 2, 3, 4, 5, 6, 7, 8] rfl (EV.mv rfl) rfl rfl rfl rfl (xv 6 [0, 1] [0, 1, 2, 3, 4, 5, 6, 7, 8] rfl (EV.ex rfl rfl) rfl rfl rfl rfl (xv 7 [0, 1] [0, 1, 2, 3, 4, 5, 6, 7, 8] rfl (EV.ex rfl rfl) rfl rfl rfl rfl (one1 8 rfl rfl (op_alloc (cs := [.int .i64 0, .slice none 0 0, .slice none 0 0, .slice none 0 0, .int .i64 0]) (by kernel_rfl) rfl fun b15 => (xs [0, 1] [0, 1, 2, 3, 4, 5, 6, 7, 8] rfl rfl rfl (xv 9 [0, 1] [0, 1, 2, 3, 4, 5, 6, 7, 8] rfl (EV.as rfl) rfl rfl rfl rfl (one1 10 rfl rfl (op_st (cs' := [.int .i64 t27_1, .slice At27_2 t27_2.length ct27_2, .slice At27_3 t27_3.length ct27_3, .slice At27_4 t27_4.length ct27_4, .int .i64 t27_5]) 2 rfl rfl rfl rfl rfl rfl (xn rfl (xd (pr [5, 6, 12, 14, 15] [0, 2] [1, 2, 3, 4, 5, 10, 11, 12, 13] rfl rfl rfl rfl (gs (rg (so rfl (op_lit (s := 7) (by_ := 56) k92 ([] : List S92) [] [] 19 [] rfl rfl rfl rfl rfl rfl rfl rfl rfl rfl rfl rfl rfl dq rfl fun A108_28 c108_28 => (sv (EV.mv rfl) rfl ?_)))))))))))))))))
         revert H; refine ggI ?_; intro g29 H
         refine so rfl (op_app (k := k92) (s := 7) (by_ := 56) 9 4 rfl rfl rfl rfl (ap0 g29 dq) (ap0n g29 dq) (.inl rfl) true (fun _ => .inl rfl) rfl rfl fun A110_30 c110_30 => (nmE (en := [.sl 2 k92 Ax2_5 cx2_5 x2_5 2 true, .sl 2 k70 Ax2_6_1 cx2_6_1 x2_6_1 6 true, .sl 2 k70 Ax2_6_2 cx2_6_2 x2_6_2 7 true, .sl 2 .bool Ax2_6_3 cx2_6_3 x2_6_3 8 true, .sl 2 k92 At26_0 ct26_0 t26_0 10 true, .sl 2 k92 At27_0 ct27_0 t27_0 15 true, .sl 2 k70 At27_2 ct27_2 t27_2 16 true, .sl 2 k70 At27_3 ct27_3 t27_3 17 true, .sl 2 .bool At27_4 ct27_4 t27_4 18 true, .sl 2 k92 A110_30 c110_30 t26_0 19 true]) (by kernel_rfl) (sv (EV.mv rfl) rfl ?_)))
         revert H; refine ggI ?_; intro g31 H
         refine so rfl (op_app (k := k92) (s := 7) (by_ := 56) 9 5 rfl rfl rfl rfl (ap2 g31 dq) (ap2n g31 dq) (.inl rfl) true (fun _ => .inl rfl) rfl rfl fun A112_32 c112_32 => (nmE (en := [.sl 2 k92 Ax2_5 cx2_5 x2_5 2 true, .sl 2 k70 Ax2_6_1 cx2_6_1 x2_6_1 6 true, .sl 2 k70 Ax2_6_2 cx2_6_2 x2_6_2 7 true, .sl 2 .bool Ax2_6_3 cx2_6_3 x2_6_3 8 true, .sl 2 k92 At26_0 ct26_0 t26_0 10 true, .sl 2 k92 At27_0 ct27_0 t27_0 15 true, .sl 2 k70 At27_2 ct27_2 t27_2 16 true, .sl 2 k70 At27_3 ct27_3 t27_3 17 true, .sl 2 .bool At27_4 ct27_4 t27_4 18 true, .sl 2 k92 A112_32 c112_32 (t26_0 ++ t27_0) 19 true]) (by kernel_rfl) (sv (EV.mv rfl) rfl ?_)))
         revert H; refine bdI ?_; rintro t33 A33 H
         refine so rfl (op_call (spec_EqualPairBags.ok n0 (t26_0 ++ t27_0) A112_32 c112_32 x2_5 Ax2_5 cx2_5 _ A33) [⟨9, 0, 0, false⟩, ⟨0, 0, 0, false⟩] 20 rfl rfl rfl rfl rfl ?_)
         rintro _ _ _ ⟨rfl, rfl, rfl⟩
         refine sv (EV.mv rfl) rfl ?_
         revert H; refine ifsI ?_ ?_ <;> intro c34 H
         ·
          subst c34
          refine ts 115 rfl rfl (sv (EV.ld (v := .agg #[.int .i64 t27_1, .slice At27_2 t27_2.length ct27_2, .slice At27_3 t27_3.length ct27_3, .slice At27_4 t27_4.length ct27_4, .int .i64 t27_5]) 1 (some 5) rfl rfl rfl) rfl (sv (EV.ld (v := .agg #[.int .i64 x2_6_0, .slice Ax2_6_1 x2_6_1.length cx2_6_1, .slice Ax2_6_2 x2_6_2.length cx2_6_2, .slice Ax2_6_3 x2_6_3.length cx2_6_3, .int .i64 x2_6_4]) 0 (some 5) rfl rfl rfl) rfl ?_))
          revert H; refine bdI ?_; rintro t35 A35 H
          refine so rfl (op_call (spec_EqualTasks.ok n0 t27_1 t27_2 At27_2 ct27_2 t27_3 At27_3 ct27_3 t27_4 At27_4 ct27_4 t27_5 x2_6_0 x2_6_1 Ax2_6_1 cx2_6_1 x2_6_2 Ax2_6_2 cx2_6_2 x2_6_3 Ax2_6_3 cx2_6_3 x2_6_4 _ A35) [⟨6, 0, 0, false⟩, ⟨7, 0, 0, false⟩, ⟨8, 0, 0, false⟩, ⟨1, 0, 0, false⟩, ⟨2, 0, 0, false⟩, ⟨3, 0, 0, false⟩] 20 rfl rfl rfl rfl rfl ?_)
          rintro _ _ _ ⟨rfl, rfl, rfl⟩
          refine sv (EV.pt rfl rfl rfl) rfl (sv (EV.as rfl) rfl (re (pr [2] [] [] rfl rfl rfl rfl ?_)))
          cases H
          exact rt Try.func4 rfl (.tmp rfl .nil) rfl [] [] rfl rfl rfl rfl rfl ⟨rfl, rfl, rfl⟩
         ·
          obtain rfl := bF c34
          refine ts 115 rfl rfl (sk rfl (sk rfl (sk rfl (sv (EV.pf rfl rfl rfl) rfl (sv (EV.as rfl) rfl (re (pr [2] [] [] rfl rfl rfl rfl ?_)))))))
          cases H
          exact rt Try.func4 rfl (.tmp rfl .nil) rfl [] [] rfl rfl rfl rfl rfl ⟨rfl, rfl, rfl⟩
        ·
         refine op_alloc (cs := [.int .i64 0, .slice none 0 0, .slice none 0 0, .slice none 0 0, .int .i64 0]) (by kernel_rfl) rfl fun b15 => (xs [0, 1] [0, 1, 2, 3, 4, 5, 6, 7, 8] rfl rfl rfl (one1 4 rfl rfl ?_))
         revert H; refine bdI ?_; rintro ⟨t36_0, t36_1, t36_2, t36_3, t36_4, t36_5⟩ A36 H
         refine op_call (impl_JoinChunk.ok n0 t26_1 t26_2 At26_2 ct26_2 t26_3 At26_3 ct26_3 t26_4 At26_4 ct26_4 t26_5 (x2_4.drop t23.toNat) (cutA Ax2_4 cx2_4 t23.toNat 3) (cx2_4 - t23.toNat) _ _ _ _ _ _ A36) [⟨6, 0, 0, false⟩, ⟨7, 0, 0, false⟩, ⟨8, 0, 0, false⟩, ⟨9, 0, 0, false⟩] 14 rfl rfl rfl rfl rfl ?_
         rintro _ _ _ ⟨At36_0, ct36_0, At36_2, ct36_2, At36_3, ct36_3, At36_4, ct36_4, rfl, rfl, rfl⟩
         refine xs [0, 1] [0, 1, 2, 3, 4, 5, 6, 7, 8] rfl rfl rfl (xv 5 [0, 1] [0, 1, 2, 3, 4, 5, 6, 7, 8] rfl (EV.mv rfl) rfl rfl rfl rfl (xv 6 [0, 1] [0, 1, 2, 3, 4, 5, 6, 7, 8] rfl (EV.ex rfl rfl) rfl rfl rfl rfl (xv 7 [0, 1] [0, 1, 2, 3, 4, 5, 6, 7, 8] rfl (EV.ex rfl rfl) rfl rfl rfl rfl (xv 9 [0, 1] [0, 1, 2, 3, 4, 5, 6, 7, 8] rfl (EV.as rfl) rfl rfl rfl rfl (one1 10 rfl rfl (op_st (cs' := [.int .i64 t36_1, .slice At36_2 t36_2.length ct36_2, .slice At36_3 t36_3.length ct36_3, .slice At36_4 t36_4.length ct36_4, .int .i64 t36_5]) 2 rfl rfl rfl rfl rfl rfl (xn rfl (xd (pr [5, 6, 12, 14, 15] [0, 2] [1, 2, 3, 4, 5, 10, 11, 12, 13] rfl rfl rfl rfl (gs (rg (so rfl (op_lit (s := 7) (by_ := 56) k92 ([] : List S92) [] [] 19 [] rfl rfl rfl rfl rfl rfl rfl rfl rfl rfl rfl rfl rfl dq rfl fun A108_37 c108_37 => (sv (EV.mv rfl) rfl ?_))))))))))))))
         revert H; refine ggI ?_; intro g38 H
         refine so rfl (op_app (k := k92) (s := 7) (by_ := 56) 9 4 rfl rfl rfl rfl (ap0 g38 dq) (ap0n g38 dq) (.inl rfl) true (fun _ => .inl rfl) rfl rfl fun A110_39 c110_39 => (nmE (en := [.sl 2 k92 Ax2_5 cx2_5 x2_5 2 true, .sl 2 k70 Ax2_6_1 cx2_6_1 x2_6_1 6 true, .sl 2 k70 Ax2_6_2 cx2_6_2 x2_6_2 7 true, .sl 2 .bool Ax2_6_3 cx2_6_3 x2_6_3 8 true, .sl 2 k92 At26_0 ct26_0 t26_0 10 true, .sl 2 k92 At36_0 ct36_0 t36_0 15 true, .sl 2 k70 At36_2 ct36_2 t36_2 16 true, .sl 2 k70 At36_3 ct36_3 t36_3 17 true, .sl 2 .bool At36_4 ct36_4 t36_4 18 true, .sl 2 k92 A110_39 c110_39 t26_0 19 true]) (by kernel_rfl) (sv (EV.mv rfl) rfl ?_)))
         revert H; refine ggI ?_; intro g40 H
         refine so rfl (op_app (k := k92) (s := 7) (by_ := 56) 9 5 rfl rfl rfl rfl (ap2 g40 dq) (ap2n g40 dq) (.inl rfl) true (fun _ => .inl rfl) rfl rfl fun A112_41 c112_41 => (nmE (en := [.sl 2 k92 Ax2_5 cx2_5 x2_5 2 true, .sl 2 k70 Ax2_6_1 cx2_6_1 x2_6_1 6 true, .sl 2 k70 Ax2_6_2 cx2_6_2 x2_6_2 7 true, .sl 2 .bool Ax2_6_3 cx2_6_3 x2_6_3 8 true, .sl 2 k92 At26_0 ct26_0 t26_0 10 true, .sl 2 k92 At36_0 ct36_0 t36_0 15 true, .sl 2 k70 At36_2 ct36_2 t36_2 16 true, .sl 2 k70 At36_3 ct36_3 t36_3 17 true, .sl 2 .bool At36_4 ct36_4 t36_4 18 true, .sl 2 k92 A112_41 c112_41 (t26_0 ++ t36_0) 19 true]) (by kernel_rfl) (sv (EV.mv rfl) rfl ?_)))
         revert H; refine bdI ?_; rintro t42 A42 H
         refine so rfl (op_call (spec_EqualPairBags.ok n0 (t26_0 ++ t36_0) A112_41 c112_41 x2_5 Ax2_5 cx2_5 _ A42) [⟨9, 0, 0, false⟩, ⟨0, 0, 0, false⟩] 20 rfl rfl rfl rfl rfl ?_)
         rintro _ _ _ ⟨rfl, rfl, rfl⟩
         refine sv (EV.mv rfl) rfl ?_
         revert H; refine ifsI ?_ ?_ <;> intro c43 H
         ·
          subst c43
          refine ts 115 rfl rfl (sv (EV.ld (v := .agg #[.int .i64 t36_1, .slice At36_2 t36_2.length ct36_2, .slice At36_3 t36_3.length ct36_3, .slice At36_4 t36_4.length ct36_4, .int .i64 t36_5]) 1 (some 5) rfl rfl rfl) rfl (sv (EV.ld (v := .agg #[.int .i64 x2_6_0, .slice Ax2_6_1 x2_6_1.length cx2_6_1, .slice Ax2_6_2 x2_6_2.length cx2_6_2, .slice Ax2_6_3 x2_6_3.length cx2_6_3, .int .i64 x2_6_4]) 0 (some 5) rfl rfl rfl) rfl ?_))
          revert H; refine bdI ?_; rintro t44 A44 H
          refine so rfl (op_call (spec_EqualTasks.ok n0 t36_1 t36_2 At36_2 ct36_2 t36_3 At36_3 ct36_3 t36_4 At36_4 ct36_4 t36_5 x2_6_0 x2_6_1 Ax2_6_1 cx2_6_1 x2_6_2 Ax2_6_2 cx2_6_2 x2_6_3 Ax2_6_3 cx2_6_3 x2_6_4 _ A44) [⟨6, 0, 0, false⟩, ⟨7, 0, 0, false⟩, ⟨8, 0, 0, false⟩, ⟨1, 0, 0, false⟩, ⟨2, 0, 0, false⟩, ⟨3, 0, 0, false⟩] 20 rfl rfl rfl rfl rfl ?_)
          rintro _ _ _ ⟨rfl, rfl, rfl⟩
          refine sv (EV.pt rfl rfl rfl) rfl (sv (EV.as rfl) rfl (re (pr [2] [] [] rfl rfl rfl rfl ?_)))
          cases H
          exact rt Try.func4 rfl (.tmp rfl .nil) rfl [] [] rfl rfl rfl rfl rfl ⟨rfl, rfl, rfl⟩
         ·
          obtain rfl := bF c43
          refine ts 115 rfl rfl (sk rfl (sk rfl (sk rfl (sv (EV.pf rfl rfl rfl) rfl (sv (EV.as rfl) rfl (re (pr [2] [] [] rfl rfl rfl rfl ?_)))))))
          cases H
          exact rt Try.func4 rfl (.tmp rfl .nil) rfl [] [] rfl rfl rfl rfl rfl ⟨rfl, rfl, rfl⟩
       ·
        refine op_alloc (cs := [.int .i64 0, .slice none 0 0, .slice none 0 0, .slice none 0 0, .int .i64 0]) (by kernel_rfl) rfl fun b13 => (xs [0, 1] [0, 1, 2, 3, 4, 5, 6, 7] rfl rfl rfl (one1 4 rfl rfl ?_))
        revert H; refine bdI ?_; rintro ⟨t45_0, t45_1, t45_2, t45_3, t45_4, t45_5⟩ A45 H
        refine op_call (impl_JoinChunk.ok n0 x2_3_0 x2_3_1 Ax2_3_1 cx2_3_1 x2_3_2 Ax2_3_2 cx2_3_2 x2_3_3 Ax2_3_3 cx2_3_3 x2_3_4 (x2_4.take t23.toNat) (cutA Ax2_4 cx2_4 (0 : Int).toNat 3) (cx2_4 - (0 : Int).toNat) _ _ _ _ _ _ A45) [⟨2, 0, 0, false⟩, ⟨3, 0, 0, false⟩, ⟨4, 0, 0, false⟩, ⟨8, 0, 0, false⟩] 9 rfl rfl rfl rfl rfl ?_
        rintro _ _ _ ⟨At45_0, ct45_0, At45_2, ct45_2, At45_3, ct45_3, At45_4, ct45_4, rfl, rfl, rfl⟩
        refine xs [0, 1] [0, 1, 2, 3, 4, 5, 6, 7] rfl rfl rfl (xv 5 [0, 1] [0, 1, 2, 3, 4, 5, 6, 7] rfl (EV.mv rfl) rfl rfl rfl rfl (xv 6 [0, 1] [0, 1, 2, 3, 4, 5, 6, 7] rfl (EV.ex rfl rfl) rfl rfl rfl rfl (xv 7 [0, 1] [0, 1, 2, 3, 4, 5, 6, 7] rfl (EV.ex rfl rfl) rfl rfl rfl rfl (xv 9 [0, 1] [0, 1, 2, 3, 4, 5, 6, 7] rfl (EV.as rfl) rfl rfl rfl rfl (one1 10 rfl rfl (op_st (cs' := [.int .i64 t45_1, .slice At45_2 t45_2.length ct45_2, .slice At45_3 t45_3.length ct45_3, .slice At45_4 t45_4.length ct45_4, .int .i64 t45_5]) 2 rfl rfl rfl rfl rfl rfl (xn rfl (xd (pr [4, 5, 6, 11, 12, 13] [1, 2] [0, 1, 5, 6, 7, 9, 10, 11, 12] rfl rfl rfl rfl (gs (dr [0, 1] [0, 1, 2, 3, 4, 5, 6, 7, 8] [10] 11 rfl rfl rfl rfl (xv 0 [0, 1] [0, 1, 2, 3, 4, 5, 6, 7, 8] rfl (EV.ld (v := .agg #[.int .i64 t45_1, .slice At45_2 t45_2.length ct45_2, .slice At45_3 t45_3.length ct45_3, .slice At45_4 t45_4.length ct45_4, .int .i64 t45_5]) 1 (some 5) rfl rfl rfl) rfl rfl rfl rfl (xv 1 [0, 1] [0, 1, 2, 3, 4, 5, 6, 7, 8] rfl (EV.mv rfl) rfl rfl rfl rfl (xv 2 [0, 1] [0, 1, 2, 3, 4, 5, 6, 7, 8] rfl (EV.mv rfl) rfl rfl rfl rfl (cutp (l' := x2_4.drop t23.toNat) t23 (x2_4.length : Int) 0 rfl g24 g25 (Int.le_refl _) rfl 1 dq (.inl dq) ctl (xv 3 [0, 1] [0, 1, 2, 3, 4, 5, 6, 7, 8] rfl (EV.ct t23 (x2_4.length : Int) 0 rfl rfl rfl rfl g24 g25 (Int.le_refl _) rfl rfl ctnl) rfl rfl rfl rfl ?_))))))))))))))))
        refine one2 4 8 rfl rfl rfl rfl ?_ ?_
        ·
         revert H; refine bdI ?_; rintro ⟨t46_0, t46_1, t46_2, t46_3, t46_4, t46_5⟩ A46 H
         refine op_call (impl_JoinChunk.ok n0 t45_1 t45_2 At45_2 ct45_2 t45_3 At45_3 ct45_3 t45_4 At45_4 ct45_4 t45_5 (x2_4.drop t23.toNat) (cutA Ax2_4 cx2_4 t23.toNat 3) (cx2_4 - t23.toNat) _ _ _ _ _ _ A46) [⟨6, 0, 0, false⟩, ⟨7, 0, 0, false⟩, ⟨8, 0, 0, false⟩, ⟨9, 0, 0, false⟩] 14 rfl rfl rfl rfl rfl ?_
         rintro _ _ _ ⟨At46_0, ct46_0, At46_2, ct46_2, At46_3, ct46_3, At46_4, ct46_4, rfl, rfl, rfl⟩
         refine xs [0, 1] [0, 1, 2, 3, 4, 5, 6, 7, 8] rfl rfl rfl (xv 5 [0, 1] [0, 1, 2, 3, 4, 5, 6, 7, 8] rfl (EV.mv rfl) rfl rfl rfl rfl (xv 6 [0, 1] [0, 1, 2, 3, 4, 5, 6, 7, 8] rfl (EV.ex rfl rfl) rfl rfl rfl rfl (xv 7 [0, 1] [0, 1, 2, 3, 4, 5, 6, 7, 8] rfl (EV.ex rfl rfl) rfl rfl rfl rfl (one1 8 rfl rfl (op_alloc (cs := [.int .i64 0, .slice none 0 0, .slice none 0 0, .slice none 0 0, .int .i64 0]) (by kernel_rfl) rfl fun b15 => (xs [0, 1] [0, 1, 2, 3, 4, 5, 6, 7, 8] rfl rfl rfl (xv 9 [0, 1] [0, 1, 2, 3, 4, 5, 6, 7, 8] rfl (EV.as rfl) rfl rfl rfl rfl (one1 10 rfl rfl (op_st (cs' := [.int .i64 t46_1, .slice At46_2 t46_2.length ct46_2, .slice At46_3 t46_3.length ct46_3, .slice At46_4 t46_4.length ct46_4, .int .i64 t46_5]) 2 rfl rfl rfl rfl rfl rfl (xn rfl (xd (pr [5, 6, 12, 14, 15] [0, 2] [1, 2, 3, 4, 5, 10, 11, 12, 13] rfl rfl rfl rfl (gs (rg (so rfl (op_lit (s := 7) (by_ := 56) k92 ([] : List S92) [] [] 19 [] rfl rfl rfl rfl rfl rfl rfl rfl rfl rfl rfl rfl rfl dq rfl fun A108_47 c108_47 => (sv (EV.mv rfl) rfl ?_)))))))))))))))))
         revert H; refine ggI ?_; intro g48 H
         refine so rfl (op_app (k := k92) (s := 7) (by_ := 56) 9 4 rfl rfl rfl rfl (ap0 g48 dq) (ap0n g48 dq) (.inl rfl) true (fun _ => .inl rfl) rfl rfl fun A110_49 c110_49 => (nmE (en := [.sl 2 k92 Ax2_5 cx2_5 x2_5 2 true, .sl 2 k70 Ax2_6_1 cx2_6_1 x2_6_1 6 true, .sl 2 k70 Ax2_6_2 cx2_6_2 x2_6_2 7 true, .sl 2 .bool Ax2_6_3 cx2_6_3 x2_6_3 8 true, .sl 2 k92 At45_0 ct45_0 t45_0 10 true, .sl 2 k92 At46_0 ct46_0 t46_0 15 true, .sl 2 k70 At46_2 ct46_2 t46_2 16 true, .sl 2 k70 At46_3 ct46_3 t46_3 17 true, .sl 2 .bool At46_4 ct46_4 t46_4 18 true, .sl 2 k92 A110_49 c110_49 t45_0 19 true]) (by kernel_rfl) (sv (EV.mv rfl) rfl ?_)))
         revert H; refine ggI ?_; intro g50 H
         refine so rfl (op_app (k := k92) (s := 7) (by_ := 56) 9 5 rfl rfl rfl rfl (ap2 g50 dq) (ap2n g50 dq) (.inl rfl) true (fun _ => .inl rfl) rfl rfl fun A112_51 c112_51 => (nmE (en := [.sl 2 k92 Ax2_5 cx2_5 x2_5 2 true, .sl 2 k70 Ax2_6_1 cx2_6_1 x2_6_1 6 true, .sl 2 k70 Ax2_6_2 cx2_6_2 x2_6_2 7 true, .sl 2 .bool Ax2_6_3 cx2_6_3 x2_6_3 8 true, .sl 2 k92 At45_0 ct45_0 t45_0 10 true, .sl 2 k92 At46_0 ct46_0 t46_0 15 true, .sl 2 k70 At46_2 ct46_2 t46_2 16 true, .sl 2 k70 At46_3 ct46_3 t46_3 17 true, .sl 2 .bool At46_4 ct46_4 t46_4 18 true, .sl 2 k92 A112_51 c112_51 (t45_0 ++ t46_0) 19 true]) (by kernel_rfl) (sv (EV.mv rfl) rfl ?_)))
         revert H; refine bdI ?_; rintro t52 A52 H
         refine so rfl (op_call (spec_EqualPairBags.ok n0 (t45_0 ++ t46_0) A112_51 c112_51 x2_5 Ax2_5 cx2_5 _ A52) [⟨9, 0, 0, false⟩, ⟨0, 0, 0, false⟩] 20 rfl rfl rfl rfl rfl ?_)
         rintro _ _ _ ⟨rfl, rfl, rfl⟩
         refine sv (EV.mv rfl) rfl ?_
         revert H; refine ifsI ?_ ?_ <;> intro c53 H
         ·
          subst c53
          refine ts 115 rfl rfl (sv (EV.ld (v := .agg #[.int .i64 t46_1, .slice At46_2 t46_2.length ct46_2, .slice At46_3 t46_3.length ct46_3, .slice At46_4 t46_4.length ct46_4, .int .i64 t46_5]) 1 (some 5) rfl rfl rfl) rfl (sv (EV.ld (v := .agg #[.int .i64 x2_6_0, .slice Ax2_6_1 x2_6_1.length cx2_6_1, .slice Ax2_6_2 x2_6_2.length cx2_6_2, .slice Ax2_6_3 x2_6_3.length cx2_6_3, .int .i64 x2_6_4]) 0 (some 5) rfl rfl rfl) rfl ?_))
          revert H; refine bdI ?_; rintro t54 A54 H
          refine so rfl (op_call (spec_EqualTasks.ok n0 t46_1 t46_2 At46_2 ct46_2 t46_3 At46_3 ct46_3 t46_4 At46_4 ct46_4 t46_5 x2_6_0 x2_6_1 Ax2_6_1 cx2_6_1 x2_6_2 Ax2_6_2 cx2_6_2 x2_6_3 Ax2_6_3 cx2_6_3 x2_6_4 _ A54) [⟨6, 0, 0, false⟩, ⟨7, 0, 0, false⟩, ⟨8, 0, 0, false⟩, ⟨1, 0, 0, false⟩, ⟨2, 0, 0, false⟩, ⟨3, 0, 0, false⟩] 20 rfl rfl rfl rfl rfl ?_)
          rintro _ _ _ ⟨rfl, rfl, rfl⟩
          refine sv (EV.pt rfl rfl rfl) rfl (sv (EV.as rfl) rfl (re (pr [2] [] [] rfl rfl rfl rfl ?_)))
          cases H
          exact rt Try.func4 rfl (.tmp rfl .nil) rfl [] [] rfl rfl rfl rfl rfl ⟨rfl, rfl, rfl⟩
         ·
          obtain rfl := bF c53
          refine ts 115 rfl rfl (sk rfl (sk rfl (sk rfl (sv (EV.pf rfl rfl rfl) rfl (sv (EV.as rfl) rfl (re (pr [2] [] [] rfl rfl rfl rfl ?_)))))))
          cases H
          exact rt Try.func4 rfl (.tmp rfl .nil) rfl [] [] rfl rfl rfl rfl rfl ⟨rfl, rfl, rfl⟩
        ·
         refine op_alloc (cs := [.int .i64 0, .slice none 0 0, .slice none 0 0, .slice none 0 0, .int .i64 0]) (by kernel_rfl) rfl fun b15 => (xs [0, 1] [0, 1, 2, 3, 4, 5, 6, 7, 8] rfl rfl rfl (one1 4 rfl rfl ?_))
         revert H; refine bdI ?_; rintro ⟨t55_0, t55_1, t55_2, t55_3, t55_4, t55_5⟩ A55 H
         refine op_call (impl_JoinChunk.ok n0 t45_1 t45_2 At45_2 ct45_2 t45_3 At45_3 ct45_3 t45_4 At45_4 ct45_4 t45_5 (x2_4.drop t23.toNat) (cutA Ax2_4 cx2_4 t23.toNat 3) (cx2_4 - t23.toNat) _ _ _ _ _ _ A55) [⟨6, 0, 0, false⟩, ⟨7, 0, 0, false⟩, ⟨8, 0, 0, false⟩, ⟨9, 0, 0, false⟩] 14 rfl rfl rfl rfl rfl ?_
         rintro _ _ _ ⟨At55_0, ct55_0, At55_2, ct55_2, At55_3, ct55_3, At55_4, ct55_4, rfl, rfl, rfl⟩
         refine xs [0, 1] [0, 1, 2, 3, 4, 5, 6, 7, 8] rfl rfl rfl (xv 5 [0, 1] [0, 1, 2, 3, 4, 5, 6, 7, 8] rfl (EV.mv rfl) rfl rfl rfl rfl (xv 6 [0, 1] [0, 1, 2, 3, 4, 5, 6, 7, 8] rfl (EV.ex rfl rfl) rfl rfl rfl rfl (xv 7 [0, 1] [0, 1, 2, 3, 4, 5, 6, 7, 8] rfl (EV.ex rfl rfl) rfl rfl rfl rfl (xv 9 [0, 1] [0, 1, 2, 3, 4, 5, 6, 7, 8] rfl (EV.as rfl) rfl rfl rfl rfl (one1 10 rfl rfl (op_st (cs' := [.int .i64 t55_1, .slice At55_2 t55_2.length ct55_2, .slice At55_3 t55_3.length ct55_3, .slice At55_4 t55_4.length ct55_4, .int .i64 t55_5]) 2 rfl rfl rfl rfl rfl rfl (xn rfl (xd (pr [5, 6, 12, 14, 15] [0, 2] [1, 2, 3, 4, 5, 10, 11, 12, 13] rfl rfl rfl rfl (gs (rg (so rfl (op_lit (s := 7) (by_ := 56) k92 ([] : List S92) [] [] 19 [] rfl rfl rfl rfl rfl rfl rfl rfl rfl rfl rfl rfl rfl dq rfl fun A108_56 c108_56 => (sv (EV.mv rfl) rfl ?_))))))))))))))
         revert H; refine ggI ?_; intro g57 H
         refine so rfl (op_app (k := k92) (s := 7) (by_ := 56) 9 4 rfl rfl rfl rfl (ap0 g57 dq) (ap0n g57 dq) (.inl rfl) true (fun _ => .inl rfl) rfl rfl fun A110_58 c110_58 => (nmE (en := [.sl 2 k92 Ax2_5 cx2_5 x2_5 2 true, .sl 2 k70 Ax2_6_1 cx2_6_1 x2_6_1 6 true, .sl 2 k70 Ax2_6_2 cx2_6_2 x2_6_2 7 true, .sl 2 .bool Ax2_6_3 cx2_6_3 x2_6_3 8 true, .sl 2 k92 At45_0 ct45_0 t45_0 10 true, .sl 2 k92 At55_0 ct55_0 t55_0 15 true, .sl 2 k70 At55_2 ct55_2 t55_2 16 true, .sl 2 k70 At55_3 ct55_3 t55_3 17 true, .sl 2 .bool At55_4 ct55_4 t55_4 18 true, .sl 2 k92 A110_58 c110_58 t45_0 19 true]) (by kernel_rfl) (sv (EV.mv rfl) rfl ?_)))
         revert H; refine ggI ?_; intro g59 H
         refine so rfl (op_app (k := k92) (s := 7) (by_ := 56) 9 5 rfl rfl rfl rfl (ap2 g59 dq) (ap2n g59 dq) (.inl rfl) true (fun _ => .inl rfl) rfl rfl fun A112_60 c112_60 => (nmE (en := [.sl 2 k92 Ax2_5 cx2_5 x2_5 2 true, .sl 2 k70 Ax2_6_1 cx2_6_1 x2_6_1 6 true, .sl 2 k70 Ax2_6_2 cx2_6_2 x2_6_2 7 true, .sl 2 .bool Ax2_6_3 cx2_6_3 x2_6_3 8 true, .sl 2 k92 At45_0 ct45_0 t45_0 10 true, .sl 2 k92 At55_0 ct55_0 t55_0 15 true, .sl 2 k70 At55_2 ct55_2 t55_2 16 true, .sl 2 k70 At55_3 ct55_3 t55_3 17 true, .sl 2 .bool At55_4 ct55_4 t55_4 18 true, .sl 2 k92 A112_60 c112_60 (t45_0 ++ t55_0) 19 true]) (by kernel_rfl) (sv (EV.mv rfl) rfl ?_)))
         revert H; refine bdI ?_; rintro t61 A61 H
         refine so rfl (op_call (spec_EqualPairBags.ok n0 (t45_0 ++ t55_0) A112_60 c112_60 x2_5 Ax2_5 cx2_5 _ A61) [⟨9, 0, 0, false⟩, ⟨0, 0, 0, false⟩] 20 rfl rfl rfl rfl rfl ?_)
         rintro _ _ _ ⟨rfl, rfl, rfl⟩
         refine sv (EV.mv rfl) rfl ?_
         revert H; refine ifsI ?_ ?_ <;> intro c62 H
         ·
          subst c62
          refine ts 115 rfl rfl (sv (EV.ld (v := .agg #[.int .i64 t55_1, .slice At55_2 t55_2.length ct55_2, .slice At55_3 t55_3.length ct55_3, .slice At55_4 t55_4.length ct55_4, .int .i64 t55_5]) 1 (some 5) rfl rfl rfl) rfl (sv (EV.ld (v := .agg #[.int .i64 x2_6_0, .slice Ax2_6_1 x2_6_1.length cx2_6_1, .slice Ax2_6_2 x2_6_2.length cx2_6_2, .slice Ax2_6_3 x2_6_3.length cx2_6_3, .int .i64 x2_6_4]) 0 (some 5) rfl rfl rfl) rfl ?_))
          revert H; refine bdI ?_; rintro t63 A63 H
          refine so rfl (op_call (spec_EqualTasks.ok n0 t55_1 t55_2 At55_2 ct55_2 t55_3 At55_3 ct55_3 t55_4 At55_4 ct55_4 t55_5 x2_6_0 x2_6_1 Ax2_6_1 cx2_6_1 x2_6_2 Ax2_6_2 cx2_6_2 x2_6_3 Ax2_6_3 cx2_6_3 x2_6_4 _ A63) [⟨6, 0, 0, false⟩, ⟨7, 0, 0, false⟩, ⟨8, 0, 0, false⟩, ⟨1, 0, 0, false⟩, ⟨2, 0, 0, false⟩, ⟨3, 0, 0, false⟩] 20 rfl rfl rfl rfl rfl ?_)
          rintro _ _ _ ⟨rfl, rfl, rfl⟩
          refine sv (EV.pt rfl rfl rfl) rfl (sv (EV.as rfl) rfl (re (pr [2] [] [] rfl rfl rfl rfl ?_)))
          cases H
          exact rt Try.func4 rfl (.tmp rfl .nil) rfl [] [] rfl rfl rfl rfl rfl ⟨rfl, rfl, rfl⟩
         ·
          obtain rfl := bF c62
          refine ts 115 rfl rfl (sk rfl (sk rfl (sk rfl (sv (EV.pf rfl rfl rfl) rfl (sv (EV.as rfl) rfl (re (pr [2] [] [] rfl rfl rfl rfl ?_)))))))
          cases H
          exact rt Try.func4 rfl (.tmp rfl .nil) rfl [] [] rfl rfl rfl rfl rfl ⟨rfl, rfl, rfl⟩
     ·
      obtain rfl := bF c16
      refine gt rfl rfl (gs (rg (sv (EV.mv rfl) rfl (sv (EV.ln rfl) rfl (sv (EV.eql rfl rfl) rfl (sv (EV.as rfl) rfl (re (pr [2] [] [] rfl rfl rfl rfl ?_))))))))
      cases H
      exact rt Try.func4 rfl (.tmp rfl .nil) rfl [] [] rfl rfl rfl rfl rfl ⟨rfl, rfl, rfl⟩
    ·
     obtain rfl := bF c14
     refine gt rfl rfl (gs (rg (sv (EV.as rfl) rfl (re (pr [2] [] [] rfl rfl rfl rfl ?_)))))
     cases H
     exact rt Try.func4 rfl (.tmp rfl .nil) rfl [] [] rfl rfl rfl rfl rfl ⟨rfl, rfl, rfl⟩
   ·
    obtain rfl := bF c10
    refine ts 47 rfl rfl (xk 11 [0, 1, 2, 3] [0, 1, 2, 3, 4, 5, 6, 7, 8, 9, 10, 11, 12, 13, 14, 15] rfl rfl rfl rfl rfl (xk 13 [0, 1, 2, 3] [0, 1, 2, 3, 4, 5, 6, 7, 8, 9, 10, 11, 12, 13, 14, 15] rfl rfl rfl rfl rfl (xk 12 [0, 1, 2, 3] [0, 1, 2, 3, 4, 5, 6, 7, 8, 9, 10, 11, 12, 13, 14, 15] rfl rfl rfl rfl rfl (xk 14 [0, 1, 2, 3] [0, 1, 2, 3, 4, 5, 6, 7, 8, 9, 10, 11, 12, 13, 14, 15] rfl rfl rfl rfl rfl (xk 15 [0, 1, 2, 3] [0, 1, 2, 3, 4, 5, 6, 7, 8, 9, 10, 11, 12, 13, 14, 15] rfl rfl rfl rfl rfl (xk 16 [0, 1, 2, 3] [0, 1, 2, 3, 4, 5, 6, 7, 8, 9, 10, 11, 12, 13, 14, 15] rfl rfl rfl rfl rfl (xv 17 [0, 1, 2, 3] [0, 1, 2, 3, 4, 5, 6, 7, 8, 9, 10, 11, 12, 13, 14, 15] rfl (EV.pt rfl rfl rfl) rfl rfl rfl rfl (xd (pr [0, 3, 4, 5, 6, 54] [0, 1] [0, 1, 2, 3, 4, 5, 6, 7, 8] rfl rfl rfl rfl (gt rfl rfl (gs (rg (sv (EV.as rfl) rfl (re (pr [2] [] [] rfl rfl rfl rfl ?_)))))))))))))))
    cases H
    exact rt Try.func4 rfl (.tmp rfl .nil) rfl [] [] rfl rfl rfl rfl rfl ⟨rfl, rfl, rfl⟩
  ·
   obtain rfl := bF c8
   refine ts 41 rfl rfl (xk 5 [0, 1, 2, 3] [0, 1, 2, 3, 4, 5, 6, 7, 8, 9, 10, 11, 12, 13, 14, 15] rfl rfl rfl rfl rfl (xk 6 [0, 1, 2, 3] [0, 1, 2, 3, 4, 5, 6, 7, 8, 9, 10, 11, 12, 13, 14, 15] rfl rfl rfl rfl rfl (xk 7 [0, 1, 2, 3] [0, 1, 2, 3, 4, 5, 6, 7, 8, 9, 10, 11, 12, 13, 14, 15] rfl rfl rfl rfl rfl (xk 8 [0, 1, 2, 3] [0, 1, 2, 3, 4, 5, 6, 7, 8, 9, 10, 11, 12, 13, 14, 15] rfl rfl rfl rfl rfl (xv 9 [0, 1, 2, 3] [0, 1, 2, 3, 4, 5, 6, 7, 8, 9, 10, 11, 12, 13, 14, 15] rfl (EV.pt rfl rfl rfl) rfl rfl rfl rfl (xv 10 [0, 1, 2, 3] [0, 1, 2, 3, 4, 5, 6, 7, 8, 9, 10, 11, 12, 13, 14, 15] rfl (EV.mv rfl) rfl rfl rfl rfl (xk 11 [0, 1, 2, 3] [0, 1, 2, 3, 4, 5, 6, 7, 8, 9, 10, 11, 12, 13, 14, 15] rfl rfl rfl rfl rfl (xk 13 [0, 1, 2, 3] [0, 1, 2, 3, 4, 5, 6, 7, 8, 9, 10, 11, 12, 13, 14, 15] rfl rfl rfl rfl rfl (xk 12 [0, 1, 2, 3] [0, 1, 2, 3, 4, 5, 6, 7, 8, 9, 10, 11, 12, 13, 14, 15] rfl rfl rfl rfl rfl (xk 14 [0, 1, 2, 3] [0, 1, 2, 3, 4, 5, 6, 7, 8, 9, 10, 11, 12, 13, 14, 15] rfl rfl rfl rfl rfl (xk 15 [0, 1, 2, 3] [0, 1, 2, 3, 4, 5, 6, 7, 8, 9, 10, 11, 12, 13, 14, 15] rfl rfl rfl rfl rfl (xk 16 [0, 1, 2, 3] [0, 1, 2, 3, 4, 5, 6, 7, 8, 9, 10, 11, 12, 13, 14, 15] rfl rfl rfl rfl rfl (xv 17 [0, 1, 2, 3] [0, 1, 2, 3, 4, 5, 6, 7, 8, 9, 10, 11, 12, 13, 14, 15] rfl (EV.pt rfl rfl rfl) rfl rfl rfl rfl (xd (pr [0, 3, 4, 5, 6, 54] [0, 1] [0, 1, 2, 3, 4, 5, 6, 7, 8] rfl rfl rfl rfl (gt rfl rfl (gs (rg (sv (EV.as rfl) rfl (re (pr [2] [] [] rfl rfl rfl rfl ?_)))))))))))))))))))))
   cases H
   exact rt Try.func4 rfl (.tmp rfl .nil) rfl [] [] rfl rfl rfl rfl rfl ⟨rfl, rfl, rfl⟩
end Go.Proofs.Ytajjeemkdjfilaa.K
