/- Walks: what the functions compute. Printed by gen.py; no condition. -/
import Derived.Test.YtajjeemkdjfilaaVFnPartitioningb
namespace Go.Proofs.Ytajjeemkdjfilaa.K
open Go Go.RowKit
set_option linter.unusedVariables false
set_option linter.unusedSimpArgs false
def impl_AllSameKey.l0 : Nat → Int → Int → (List S70) → Option (Bool)
 | 0, _, _, _ => none
 | k + 1, x2_6, x2_7, l0 => if x2_7 < x2_6 then (if 0 ≤ x2_7 then (if x2_7 < (l0.length : Int) then (if 0 < (l0.length : Int) then (if ((rd_T70 l0 x2_7).f0) = ((rd_T70 l0 0).f0) then (impl_AllSameKey.l0 k x2_6 (wrap64 (x2_7 + 1)) l0) else (some false)) else none) else none) else none) else (some true)
def impl_AllSameKey.f (k : Nat) (l0 : List S70) : Option (Bool) := impl_AllSameKey.l0 k (l0.length : Int) 0 l0
set_option maxHeartbeats 4000000 in
set_option maxRecDepth 100000 in
theorem impl_AllSameKey.ok (k : Nat) (l0 : List S70) (Al0 : Option Addr) (cl0 : Nat) (r0 : Bool) (H : impl_AllSameKey.f k l0 = some r0) : Fn Try.prog 95 [.slice Al0 l0.length cl0] [] [.sl 0 k70 Al0 cl0 l0 0 false] (fun v bx en => v = .bool r0 ∧ bx = [] ∧ en = []) := by
 refine fn_ 19 Try.func95 rfl rfl rfl (fun base T w0 => ?_)
 rw [impl_AllSameKey.f] at H
 refine gs (rg (sv (EV.as rfl) rfl (re (gs (gs (rg (sv (EV.mv rfl) rfl (sv (EV.ln rfl) rfl (sv (EV.mv rfl) rfl (re (gb ?_)))))))))))
 refine lo (fun kk S => ∃ (x2_6 : Int) (x2_7 : Int), impl_AllSameKey.l0 kk x2_6 x2_7 l0 = some r0 ∧ S = ⟨[(0, .slice Al0 l0.length cl0), (5, .slice Al0 l0.length cl0), (6, .int .i64 x2_6), (7, .int .i64 x2_7)], [], [.sl 0 k70 Al0 cl0 l0 0 false]⟩) (fun S hS => ?_) (fun n0 ih0 S hS => ?_) ⟨(l0.length : Int), 0, H, rfl⟩ (fun h => wk [0, 5, 6, 7] [] [⟨0, 0, 0, false⟩] h)
 · clear H; obtain ⟨_, _, H, _⟩ := hS; rw [impl_AllSameKey.l0] at H; cases H
 clear H
 obtain ⟨x2_6, x2_7, H, rfl⟩ := hS
 rw [impl_AllSameKey.l0] at H
 refine gs (rg (sv (EV.lss rfl rfl) rfl (re (gs ?_))))
 revert H; refine ifsI ?_ ?_ <;> intro c1 H
 ·
  refine gt rfl (dT c1) (gk (gs (gb (gs (rg ?_)))))
  revert H; refine ggI ?_; intro g2 H
  revert H; refine ggI ?_; intro g3 H
  refine sv (EV.ix 0 rfl rfl rfl g2 g3 rfl) rfl (sv (EV.le (v := .agg #[.int .i64 ((rd_T70 l0 x2_7).f0), .int .i64 ((rd_T70 l0 x2_7).f1), .int .i64 ((rd_T70 l0 x2_7).f2)]) x2_7 0 (some 3) 0 z70 rfl rfl rfl g2 g3 rfl rfl rfl) rfl (so rfl (op_alloc (cs := [.int .i64 0, .int .i64 0, .int .i64 0]) (by kernel_rfl) rfl fun b4 => (so rfl (op_st (cs' := [.int .i64 ((rd_T70 l0 x2_7).f0), .int .i64 ((rd_T70 l0 x2_7).f1), .int .i64 ((rd_T70 l0 x2_7).f2)]) 0 rfl rfl rfl rfl rfl rfl (re (gs ?_)))))))
  revert H; refine ggI ?_; intro g4 H
  refine dr [0] [0] [] 7 rfl rfl rfl rfl (xv 0 [0] [0] rfl (EV.fa 0 rfl) rfl rfl rfl rfl (xv 1 [0] [0] rfl (EV.ld 0 none rfl rfl rfl) rfl rfl rfl rfl (xv 2 [0] [0] rfl (EV.mv rfl) rfl rfl rfl rfl (xv 3 [0] [0] rfl (EV.ix 0 rfl rfl rfl dq g4 rfl) rfl rfl rfl rfl (xv 4 [0] [0] rfl (EV.fa 0 rfl) rfl rfl rfl rfl (xv 5 [0] [0] rfl (EV.le (v := .int .i64 ((rd_T70 l0 0).f0)) 0 0 none 0 z70 rfl rfl rfl dq g4 rfl rfl rfl) rfl rfl rfl rfl (xv 6 [0] [0] rfl (EV.neq rfl rfl) rfl rfl rfl rfl (xd (pr [0, 5, 6, 7, 17] [] [0] rfl rfl rfl rfl ?_)))))))))
  revert H; refine ifsI ?_ ?_ <;> intro c5 H
  ·
   exact gf rfl (nF c5) (gk (ge (rg (sv (EV.add rfl rfl) rfl (sv (EV.mv rfl) rfl (re (wk [0, 5, 6, 7] [] [⟨0, 0, 0, false⟩] (ih0 _ (by omega) _ ⟨x2_6, wrap64 (x2_7 + 1), H, rfl⟩))))))))
  ·
   refine gt rfl (nT c5) (gs (rg (sv (EV.as rfl) rfl (re ?_))))
   cases H
   exact rt Try.func95 rfl (.tmp rfl .nil) rfl [] [] rfl rfl rfl rfl rfl ⟨rfl, rfl, rfl⟩
 ·
  refine gf rfl (dF c1) (gx rfl (gs (rg (sv (EV.as rfl) rfl (re ?_)))))
  cases H
  exact rt Try.func95 rfl (.tmp rfl .nil) rfl [] [] rfl rfl rfl rfl rfl ⟨rfl, rfl, rfl⟩
end Go.Proofs.Ytajjeemkdjfilaa.K
namespace Go.Proofs.Ytajjeemkdjfilaa.K
open Go Go.RowKit
set_option linter.unusedVariables false
set_option linter.unusedSimpArgs false
def impl_NeedsNestedLoop.f (k : Nat) (a0_0 : Int) (l0_1 : List S70) (l0_2 : List S70) (l0_3 : List Bool) (a0_4 : Int) : Option (Bool) := if a0_4 ≥ 4 then (some true) else ((impl_AllSameKey.f k l0_2).bind fun t2 => (some t2))
set_option maxHeartbeats 4000000 in
set_option maxRecDepth 100000 in
theorem impl_NeedsNestedLoop.ok (k : Nat) (a0_0 : Int) (l0_1 : List S70) (Al0_1 : Option Addr) (cl0_1 : Nat) (l0_2 : List S70) (Al0_2 : Option Addr) (cl0_2 : Nat) (l0_3 : List Bool) (Al0_3 : Option Addr) (cl0_3 : Nat) (a0_4 : Int) (r0 : Bool) (H : impl_NeedsNestedLoop.f k a0_0 l0_1 l0_2 l0_3 a0_4 = some r0) : Fn Try.prog 46 [.agg #[.int .i64 a0_0, .slice Al0_1 l0_1.length cl0_1, .slice Al0_2 l0_2.length cl0_2, .slice Al0_3 l0_3.length cl0_3, .int .i64 a0_4]] [] [.sl 0 k70 Al0_1 cl0_1 l0_1 0 false, .sl 0 k70 Al0_2 cl0_2 l0_2 0 false, .sl 0 .bool Al0_3 cl0_3 l0_3 0 false] (fun v bx en => v = .bool r0 ∧ bx = [] ∧ en = []) := by
 refine fn_ 11 Try.func46 rfl rfl rfl (fun base T w0 => ?_)
 rw [impl_NeedsNestedLoop.f] at H
 refine gs (rg (so rfl (op_box (cs := [.int .i64 a0_0, .slice Al0_1 l0_1.length cl0_1, .slice Al0_2 l0_2.length cl0_2, .slice Al0_3 l0_3.length cl0_3, .int .i64 a0_4]) rfl rfl rfl fun b1 => (sv (EV.as rfl) rfl (re (gs (rg (sv (EV.fa 4 rfl) rfl (sv (EV.ld 0 none rfl rfl rfl) rfl (sv (EV.geq rfl rfl) rfl (sv (EV.mv rfl) rfl ?_)))))))))))
 revert H; refine ifsI ?_ ?_ <;> intro c1 H
 ·
  refine ts 6 rfl (dT c1) (sk rfl (sk rfl (sk rfl (sv (EV.pt rfl rfl rfl) rfl (sv (EV.as rfl) rfl (re (pr [2] [] [] rfl rfl rfl rfl ?_)))))))
  cases H
  exact rt Try.func46 rfl (.tmp rfl .nil) rfl [] [] rfl rfl rfl rfl rfl ⟨rfl, rfl, rfl⟩
 ·
  refine ts 6 rfl (dF c1) (sv (EV.fa 2 rfl) rfl (sv (EV.ld 0 none rfl rfl rfl) rfl ?_))
  revert H; refine bdI ?_; rintro t2 A2 H
  refine so rfl (op_call (impl_AllSameKey.ok k l0_2 Al0_2 cl0_2 _ A2) [⟨1, 0, 0, false⟩] 1 rfl rfl rfl rfl rfl ?_)
  rintro _ _ _ ⟨rfl, rfl, rfl⟩
  refine sv (EV.pf rfl rfl rfl) rfl (sv (EV.as rfl) rfl (re (pr [2] [] [] rfl rfl rfl rfl ?_)))
  cases H
  exact rt Try.func46 rfl (.tmp rfl .nil) rfl [] [] rfl rfl rfl rfl rfl ⟨rfl, rfl, rfl⟩
end Go.Proofs.Ytajjeemkdjfilaa.K
namespace Go.Proofs.Ytajjeemkdjfilaa.K
open Go Go.RowKit
set_option linter.unusedVariables false
set_option linter.unusedSimpArgs false
def spec_AllSameKey.l0 : Nat → Int → (List S70) → Option (Bool)
 | 0, _, _ => none
 | k + 1, x2_3, l0 => if x2_3 < (l0.length : Int) then (if 0 ≤ x2_3 then (if 0 < (l0.length : Int) then (if ((rd_T70 l0 x2_3).f0) = ((rd_T70 l0 0).f0) then (spec_AllSameKey.l0 k (wrap64 (x2_3 + 1)) l0) else (some false)) else none) else none) else (some true)
def spec_AllSameKey.f (k : Nat) (l0 : List S70) : Option (Bool) := spec_AllSameKey.l0 k 1 l0
set_option maxHeartbeats 4000000 in
set_option maxRecDepth 100000 in
theorem spec_AllSameKey.ok (k : Nat) (l0 : List S70) (Al0 : Option Addr) (cl0 : Nat) (r0 : Bool) (H : spec_AllSameKey.f k l0 = some r0) : Fn Try.prog 96 [.slice Al0 l0.length cl0] [] [.sl 0 k70 Al0 cl0 l0 0 false] (fun v bx en => v = .bool r0 ∧ bx = [] ∧ en = []) := by
 refine fn_ 20 Try.func96 rfl rfl rfl (fun base T w0 => ?_)
 rw [spec_AllSameKey.f] at H
 refine gs (rg (sv (EV.as rfl) rfl (re (gs (gs (rg (sv (EV.as rfl) rfl (re (gb ?_)))))))))
 refine lo (fun kk S => ∃ (x2_3 : Int), spec_AllSameKey.l0 kk x2_3 l0 = some r0 ∧ S = ⟨[(0, .slice Al0 l0.length cl0), (3, .int .i64 x2_3)], [], [.sl 0 k70 Al0 cl0 l0 0 false]⟩) (fun S hS => ?_) (fun n0 ih0 S hS => ?_) ⟨1, H, rfl⟩ (fun h => wk [0, 3] [] [⟨0, 0, 0, false⟩] h)
 · clear H; obtain ⟨_, H, _⟩ := hS; rw [spec_AllSameKey.l0] at H; cases H
 clear H
 obtain ⟨x2_3, H, rfl⟩ := hS
 rw [spec_AllSameKey.l0] at H
 refine gs (gs (rg (sv (EV.mv rfl) rfl (sv (EV.mv rfl) rfl (sv (EV.ln rfl) rfl (sv (EV.lss rfl rfl) rfl (re ?_)))))))
 revert H; refine ifsI ?_ ?_ <;> intro c1 H
 ·
  refine gt rfl (dT c1) (gk (gs (gb (gs ?_))))
  revert H; refine ggI ?_; intro g2 H
  revert H; refine ggI ?_; intro g3 H
  refine dr [] [0] [] 10 rfl rfl rfl rfl (xv 0 [] [0] rfl (EV.mv rfl) rfl rfl rfl rfl (xv 1 [] [0] rfl (EV.mv rfl) rfl rfl rfl rfl (xv 2 [] [0] rfl (EV.ix 0 rfl rfl rfl g2 c1 rfl) rfl rfl rfl rfl (xv 3 [] [0] rfl (EV.fa 0 rfl) rfl rfl rfl rfl (xv 4 [] [0] rfl (EV.le (v := .int .i64 ((rd_T70 l0 x2_3).f0)) x2_3 0 none 0 z70 rfl rfl rfl g2 c1 rfl rfl rfl) rfl rfl rfl rfl (xv 5 [] [0] rfl (EV.mv rfl) rfl rfl rfl rfl (xv 6 [] [0] rfl (EV.ix 0 rfl rfl rfl dq g3 rfl) rfl rfl rfl rfl (xv 7 [] [0] rfl (EV.fa 0 rfl) rfl rfl rfl rfl (xv 8 [] [0] rfl (EV.le (v := .int .i64 ((rd_T70 l0 0).f0)) 0 0 none 0 z70 rfl rfl rfl dq g3 rfl rfl rfl) rfl rfl rfl rfl (xv 9 [] [0] rfl (EV.neq rfl rfl) rfl rfl rfl rfl (xd (pr [0, 3, 19] [] [0] rfl rfl rfl rfl ?_))))))))))))
  revert H; refine ifsI ?_ ?_ <;> intro c4 H
  ·
   exact gf rfl (nF c4) (gk (ge (rg (sv (EV.mv rfl) rfl (sv (EV.add rfl rfl) rfl (sv (EV.as rfl) rfl (re (wk [0, 3] [] [⟨0, 0, 0, false⟩] (ih0 _ (by omega) _ ⟨wrap64 (x2_3 + 1), H, rfl⟩)))))))))
  ·
   refine gt rfl (nT c4) (gs (rg (sv (EV.as rfl) rfl (re ?_))))
   cases H
   exact rt Try.func96 rfl (.tmp rfl .nil) rfl [] [] rfl rfl rfl rfl rfl ⟨rfl, rfl, rfl⟩
 ·
  refine gf rfl (dF c1) (gx rfl (gs (rg (sv (EV.as rfl) rfl (re (pr [2] [] [] rfl rfl rfl rfl ?_))))))
  cases H
  exact rt Try.func96 rfl (.tmp rfl .nil) rfl [] [] rfl rfl rfl rfl rfl ⟨rfl, rfl, rfl⟩
end Go.Proofs.Ytajjeemkdjfilaa.K
namespace Go.Proofs.Ytajjeemkdjfilaa.K
open Go Go.RowKit
set_option linter.unusedVariables false
set_option linter.unusedSimpArgs false
def spec_NeedsNestedLoop.f (k : Nat) (a0_0 : Int) (l0_1 : List S70) (l0_2 : List S70) (l0_3 : List Bool) (a0_4 : Int) : Option (Bool) := if a0_4 ≥ 4 then (some true) else ((spec_AllSameKey.f k l0_2).bind fun t2 => (some t2))
set_option maxHeartbeats 4000000 in
set_option maxRecDepth 100000 in
theorem spec_NeedsNestedLoop.ok (k : Nat) (a0_0 : Int) (l0_1 : List S70) (Al0_1 : Option Addr) (cl0_1 : Nat) (l0_2 : List S70) (Al0_2 : Option Addr) (cl0_2 : Nat) (l0_3 : List Bool) (Al0_3 : Option Addr) (cl0_3 : Nat) (a0_4 : Int) (r0 : Bool) (H : spec_NeedsNestedLoop.f k a0_0 l0_1 l0_2 l0_3 a0_4 = some r0) : Fn Try.prog 47 [.agg #[.int .i64 a0_0, .slice Al0_1 l0_1.length cl0_1, .slice Al0_2 l0_2.length cl0_2, .slice Al0_3 l0_3.length cl0_3, .int .i64 a0_4]] [] [.sl 0 k70 Al0_1 cl0_1 l0_1 0 false, .sl 0 k70 Al0_2 cl0_2 l0_2 0 false, .sl 0 .bool Al0_3 cl0_3 l0_3 0 false] (fun v bx en => v = .bool r0 ∧ bx = [] ∧ en = []) := by
 refine fn_ 11 Try.func47 rfl rfl rfl (fun base T w0 => ?_)
 rw [spec_NeedsNestedLoop.f] at H
 refine gs (rg (so rfl (op_box (cs := [.int .i64 a0_0, .slice Al0_1 l0_1.length cl0_1, .slice Al0_2 l0_2.length cl0_2, .slice Al0_3 l0_3.length cl0_3, .int .i64 a0_4]) rfl rfl rfl fun b1 => (sv (EV.as rfl) rfl (re (gs (rg (sv (EV.fa 4 rfl) rfl (sv (EV.ld 0 none rfl rfl rfl) rfl (sv (EV.geq rfl rfl) rfl (sv (EV.mv rfl) rfl ?_)))))))))))
 revert H; refine ifsI ?_ ?_ <;> intro c1 H
 ·
  refine ts 6 rfl (dT c1) (sk rfl (sk rfl (sk rfl (sv (EV.pt rfl rfl rfl) rfl (sv (EV.as rfl) rfl (re (pr [2] [] [] rfl rfl rfl rfl ?_)))))))
  cases H
  exact rt Try.func47 rfl (.tmp rfl .nil) rfl [] [] rfl rfl rfl rfl rfl ⟨rfl, rfl, rfl⟩
 ·
  refine ts 6 rfl (dF c1) (sv (EV.fa 2 rfl) rfl (sv (EV.ld 0 none rfl rfl rfl) rfl ?_))
  revert H; refine bdI ?_; rintro t2 A2 H
  refine so rfl (op_call (spec_AllSameKey.ok k l0_2 Al0_2 cl0_2 _ A2) [⟨1, 0, 0, false⟩] 1 rfl rfl rfl rfl rfl ?_)
  rintro _ _ _ ⟨rfl, rfl, rfl⟩
  refine sv (EV.pf rfl rfl rfl) rfl (sv (EV.as rfl) rfl (re (pr [2] [] [] rfl rfl rfl rfl ?_)))
  cases H
  exact rt Try.func47 rfl (.tmp rfl .nil) rfl [] [] rfl rfl rfl rfl rfl ⟨rfl, rfl, rfl⟩
end Go.Proofs.Ytajjeemkdjfilaa.K
namespace Go.Proofs.Ytajjeemkdjfilaa.K
open Go Go.RowKit
set_option linter.unusedVariables false
set_option linter.unusedSimpArgs false
def impl_RowCost.f (a0_0 : Int) (a0_1 : Int) (a0_2 : Int) : Option (Int) := (impl_IsValidRow.f a0_0 a0_1 a0_2).bind fun t1 => (if t1 = true then (some (wrap64 (1 + a0_2))) else (some 0))
set_option maxHeartbeats 4000000 in
set_option maxRecDepth 100000 in
theorem impl_RowCost.ok (a0_0 : Int) (a0_1 : Int) (a0_2 : Int) (r0 : Int) (H : impl_RowCost.f a0_0 a0_1 a0_2 = some r0) : Fn Try.prog 109 [.agg #[.int .i64 a0_0, .int .i64 a0_1, .int .i64 a0_2]] [] [] (fun v bx en => v = .int .i64 r0 ∧ bx = [] ∧ en = []) := by
 refine fn_ 9 Try.func109 rfl rfl rfl (fun base T w0 => ?_)
 rw [impl_RowCost.f] at H
 refine gs (rg (so rfl (op_box (cs := [.int .i64 a0_0, .int .i64 a0_1, .int .i64 a0_2]) rfl rfl rfl fun b1 => (sv (EV.as rfl) rfl (re (gs (gs (rg (sv (EV.ld (v := .agg #[.int .i64 a0_0, .int .i64 a0_1, .int .i64 a0_2]) 0 (some 3) rfl rfl rfl) rfl ?_)))))))))
 revert H; refine bdI ?_; rintro t1 A1 H
 refine so rfl (op_call (impl_IsValidRow.ok a0_0 a0_1 a0_2 _ A1) [] 1 rfl rfl rfl rfl rfl ?_)
 rintro _ _ _ ⟨rfl, rfl, rfl⟩
 refine sv (EV.nt rfl) rfl (re ?_)
 revert H; refine ifsI ?_ ?_ <;> intro c2 H
 ·
  subst c2
  refine gf rfl rfl (gk (gs (rg (sv (EV.fa 2 rfl) rfl (sv (EV.ld 0 none rfl rfl rfl) rfl (sv (EV.add rfl rfl) rfl (sv (EV.as rfl) rfl (re (pr [2] [] [] rfl rfl rfl rfl ?_)))))))))
  cases H
  exact rt Try.func109 rfl (.tmp rfl .nil) rfl [] [] rfl rfl rfl rfl rfl ⟨rfl, rfl, rfl⟩
 ·
  obtain rfl := bF c2
  refine gt rfl rfl (gs (rg (sv (EV.as rfl) rfl (re ?_))))
  cases H
  exact rt Try.func109 rfl (.tmp rfl .nil) rfl [] [] rfl rfl rfl rfl rfl ⟨rfl, rfl, rfl⟩
end Go.Proofs.Ytajjeemkdjfilaa.K
namespace Go.Proofs.Ytajjeemkdjfilaa.K
open Go Go.RowKit
set_option linter.unusedVariables false
set_option linter.unusedSimpArgs false
def impl_TotalCost.l0 : Nat → Int → Int → Int → (List S70) → Option (Int)
 | 0, _, _, _, _ => none
 | k + 1, x2_3, x2_7, x2_8, l0 => if x2_8 < x2_7 then (if 0 ≤ x2_8 then (if x2_8 < (l0.length : Int) then ((impl_RowCost.f ((rd_T70 l0 x2_8).f0) ((rd_T70 l0 x2_8).f1) ((rd_T70 l0 x2_8).f2)).bind fun t4 => (impl_TotalCost.l0 k (wrap64 (x2_3 + t4)) x2_7 (wrap64 (x2_8 + 1)) l0)) else none) else none) else (some x2_3)
def impl_TotalCost.f (k : Nat) (l0 : List S70) : Option (Int) := impl_TotalCost.l0 k 0 (l0.length : Int) 0 l0
set_option maxHeartbeats 4000000 in
set_option maxRecDepth 100000 in
theorem impl_TotalCost.ok (k : Nat) (l0 : List S70) (Al0 : Option Addr) (cl0 : Nat) (r0 : Int) (H : impl_TotalCost.f k l0 = some r0) : Fn Try.prog 75 [.slice Al0 l0.length cl0] [] [.sl 0 k70 Al0 cl0 l0 0 false] (fun v bx en => v = .int .i64 r0 ∧ bx = [] ∧ en = []) := by
 refine fn_ 18 Try.func75 rfl rfl rfl (fun base T w0 => ?_)
 rw [impl_TotalCost.f] at H
 refine gs (rg (sv (EV.as rfl) rfl (re (gs (rg (sv (EV.as rfl) rfl (re (gs (gs (rg (sv (EV.mv rfl) rfl (sv (EV.ln rfl) rfl (sv (EV.mv rfl) rfl (re (gb ?_)))))))))))))))
 refine lo (fun kk S => ∃ (x2_3 : Int) (x2_7 : Int) (x2_8 : Int), impl_TotalCost.l0 kk x2_3 x2_7 x2_8 l0 = some r0 ∧ S = ⟨[(3, .int .i64 x2_3), (6, .slice Al0 l0.length cl0), (7, .int .i64 x2_7), (8, .int .i64 x2_8)], [], [.sl 0 k70 Al0 cl0 l0 0 false]⟩) (fun S hS => ?_) (fun n0 ih0 S hS => ?_) ⟨0, (l0.length : Int), 0, H, rfl⟩ (fun h => wk [3, 6, 7, 8] [] [⟨0, 0, 0, false⟩] h)
 · clear H; obtain ⟨_, _, _, H, _⟩ := hS; rw [impl_TotalCost.l0] at H; cases H
 clear H
 obtain ⟨x2_3, x2_7, x2_8, H, rfl⟩ := hS
 rw [impl_TotalCost.l0] at H
 refine gs (rg (sv (EV.lss rfl rfl) rfl (re (gs ?_))))
 revert H; refine ifsI ?_ ?_ <;> intro c1 H
 ·
  refine gt rfl (dT c1) (gk (gs (gb (gs (rg ?_)))))
  revert H; refine ggI ?_; intro g2 H
  revert H; refine ggI ?_; intro g3 H
  refine sv (EV.ix 0 rfl rfl rfl g2 g3 rfl) rfl (sv (EV.le (v := .agg #[.int .i64 ((rd_T70 l0 x2_8).f0), .int .i64 ((rd_T70 l0 x2_8).f1), .int .i64 ((rd_T70 l0 x2_8).f2)]) x2_8 0 (some 3) 0 z70 rfl rfl rfl g2 g3 rfl rfl rfl) rfl (so rfl (op_alloc (cs := [.int .i64 0, .int .i64 0, .int .i64 0]) (by kernel_rfl) rfl fun b5 => (so rfl (op_st (cs' := [.int .i64 ((rd_T70 l0 x2_8).f0), .int .i64 ((rd_T70 l0 x2_8).f1), .int .i64 ((rd_T70 l0 x2_8).f2)]) 0 rfl rfl rfl rfl rfl rfl (re (rg (sv (EV.mv rfl) rfl (sv (EV.ld (v := .agg #[.int .i64 ((rd_T70 l0 x2_8).f0), .int .i64 ((rd_T70 l0 x2_8).f1), .int .i64 ((rd_T70 l0 x2_8).f2)]) 0 (some 3) rfl rfl rfl) rfl ?_)))))))))
  revert H; refine bdI ?_; rintro t4 A4 H
  refine so rfl (op_call (impl_RowCost.ok ((rd_T70 l0 x2_8).f0) ((rd_T70 l0 x2_8).f1) ((rd_T70 l0 x2_8).f2) _ A4) [] 1 rfl rfl rfl rfl rfl ?_)
  rintro _ _ _ ⟨rfl, rfl, rfl⟩
  exact sv (EV.add rfl rfl) rfl (sv (EV.as rfl) rfl (re (pr [3, 6, 7, 8] [] [0] rfl rfl rfl rfl (ge (rg (sv (EV.add rfl rfl) rfl (sv (EV.mv rfl) rfl (re (wk [3, 6, 7, 8] [] [⟨0, 0, 0, false⟩] (ih0 _ (by omega) _ ⟨wrap64 (x2_3 + t4), x2_7, wrap64 (x2_8 + 1), H, rfl⟩))))))))))
 ·
  refine gf rfl (dF c1) (gx rfl (gs (rg (sv (EV.mv rfl) rfl (sv (EV.as rfl) rfl (re (pr [2] [] [] rfl rfl rfl rfl ?_)))))))
  cases H
  exact rt Try.func75 rfl (.tmp rfl .nil) rfl [] [] rfl rfl rfl rfl rfl ⟨rfl, rfl, rfl⟩
end Go.Proofs.Ytajjeemkdjfilaa.K
namespace Go.Proofs.Ytajjeemkdjfilaa.K
open Go Go.RowKit
set_option linter.unusedVariables false
set_option linter.unusedSimpArgs false
def impl_BuildSide.f (k : Nat) (a0_0 : Int) (l0_1 : List S70) (l0_2 : List S70) (l0_3 : List Bool) (a0_4 : Int) (a1 : Int) : Option (Int) := (impl_IsValidTask.f k a0_0 l0_1 l0_2 l0_3 a0_4).bind fun t1 => (if t1 = true then ((impl_TotalCost.f k l0_1).bind fun t3 => ((impl_TotalCost.f k l0_2).bind fun t4 => (if a0_0 = 1 then (if t3 < t4 then (if t3 ≤ a1 then (some 1) else (if t4 ≤ a1 then (some 2) else (some 0))) else (if t4 ≤ a1 then (some 2) else (some 0))) else (if t4 ≤ a1 then (some 2) else (some 0))))) else (some 0))
set_option maxHeartbeats 4000000 in
set_option maxRecDepth 100000 in
theorem impl_BuildSide.ok (k : Nat) (a0_0 : Int) (l0_1 : List S70) (Al0_1 : Option Addr) (cl0_1 : Nat) (l0_2 : List S70) (Al0_2 : Option Addr) (cl0_2 : Nat) (l0_3 : List Bool) (Al0_3 : Option Addr) (cl0_3 : Nat) (a0_4 : Int) (a1 : Int) (r0 : Int) (H : impl_BuildSide.f k a0_0 l0_1 l0_2 l0_3 a0_4 a1 = some r0) : Fn Try.prog 97 [.agg #[.int .i64 a0_0, .slice Al0_1 l0_1.length cl0_1, .slice Al0_2 l0_2.length cl0_2, .slice Al0_3 l0_3.length cl0_3, .int .i64 a0_4], .int .i64 a1] [] [.sl 0 k70 Al0_1 cl0_1 l0_1 0 false, .sl 0 k70 Al0_2 cl0_2 l0_2 0 false, .sl 0 .bool Al0_3 cl0_3 l0_3 0 false] (fun v bx en => v = .int .i64 r0 ∧ bx = [] ∧ en = []) := by
 refine fn_ 34 Try.func97 rfl rfl rfl (fun base T w0 => ?_)
 rw [impl_BuildSide.f] at H
 refine gs (rg (so rfl (op_box (cs := [.int .i64 a0_0, .slice Al0_1 l0_1.length cl0_1, .slice Al0_2 l0_2.length cl0_2, .slice Al0_3 l0_3.length cl0_3, .int .i64 a0_4]) rfl rfl rfl fun b2 => (sv (EV.as rfl) rfl (re (gs (gs (rg (sv (EV.ld (v := .agg #[.int .i64 a0_0, .slice Al0_1 l0_1.length cl0_1, .slice Al0_2 l0_2.length cl0_2, .slice Al0_3 l0_3.length cl0_3, .int .i64 a0_4]) 0 (some 5) rfl rfl rfl) rfl ?_)))))))))
 revert H; refine bdI ?_; rintro t1 A1 H
 refine so rfl (op_call (impl_IsValidTask.ok k a0_0 l0_1 Al0_1 cl0_1 l0_2 Al0_2 cl0_2 l0_3 Al0_3 cl0_3 a0_4 _ A1) [⟨0, 0, 0, false⟩, ⟨1, 0, 0, false⟩, ⟨2, 0, 0, false⟩] 1 rfl rfl rfl rfl rfl ?_)
 rintro _ _ _ ⟨rfl, rfl, rfl⟩
 refine sv (EV.nt rfl) rfl (re ?_)
 revert H; refine ifsI ?_ ?_ <;> intro c2 H
 ·
  subst c2
  refine gf rfl rfl (gk (gs (dr [0] [0, 1, 2] [] 8 rfl rfl rfl rfl (xv 0 [0] [0, 1, 2] rfl (EV.fa 1 rfl) rfl rfl rfl rfl (xv 1 [0] [0, 1, 2] rfl (EV.ld 0 none rfl rfl rfl) rfl rfl rfl rfl (xv 3 [0] [0, 1, 2] rfl (EV.fa 2 rfl) rfl rfl rfl rfl (xv 4 [0] [0, 1, 2] rfl (EV.ld 0 none rfl rfl rfl) rfl rfl rfl rfl (one1 2 rfl rfl ?_))))))))
  revert H; refine bdI ?_; rintro t3 A3 H
  refine op_call (impl_TotalCost.ok k l0_1 Al0_1 cl0_1 _ A3) [⟨0, 0, 0, false⟩] 1 rfl rfl rfl rfl rfl ?_
  rintro _ _ _ ⟨rfl, rfl, rfl⟩
  refine xs [0] [0, 1, 2] rfl rfl rfl (one1 5 rfl rfl ?_)
  revert H; refine bdI ?_; rintro t4 A4 H
  refine op_call (impl_TotalCost.ok k l0_2 Al0_2 cl0_2 _ A4) [⟨1, 0, 0, false⟩] 1 rfl rfl rfl rfl rfl ?_
  rintro _ _ _ ⟨rfl, rfl, rfl⟩
  refine xs [0] [0, 1, 2] rfl rfl rfl (xv 6 [0] [0, 1, 2] rfl (EV.as rfl) rfl rfl rfl rfl (xv 7 [0] [0, 1, 2] rfl (EV.as rfl) rfl rfl rfl rfl (xd (pr [1, 2, 5, 6] [0] [0, 1, 2] rfl rfl rfl rfl (gs (gb (gs (rg (sv (EV.fa 0 rfl) rfl (sv (EV.ld 0 none rfl rfl rfl) rfl (sv (EV.eql rfl rfl) rfl (sv (EV.mv rfl) rfl ?_))))))))))))
  revert H; refine ifsI ?_ ?_ <;> intro c5 H
  ·
   refine ts 20 rfl (dT c5) (sv (EV.mv rfl) rfl (sv (EV.mv rfl) rfl (sv (EV.lss rfl rfl) rfl (sv (EV.pt rfl rfl rfl) rfl (sv (EV.mv rfl) rfl ?_)))))
   revert H; refine ifsI ?_ ?_ <;> intro c6 H
   ·
    refine ts 25 rfl (dT c6) (sv (EV.mv rfl) rfl (sv (EV.mv rfl) rfl (sv (EV.leq rfl rfl) rfl (sv (EV.pt rfl rfl rfl) rfl (sv (EV.as rfl) rfl (re (pr [1, 6, 16] [] [] rfl rfl rfl rfl ?_)))))))
    revert H; refine ifsI ?_ ?_ <;> intro c7 H
    ·
     refine gt rfl (dT c7) (gs (rg (sv (EV.as rfl) rfl (re ?_))))
     cases H
     exact rt Try.func97 rfl (.tmp rfl .nil) rfl [] [] rfl rfl rfl rfl rfl ⟨rfl, rfl, rfl⟩
    ·
     refine gf rfl (dF c7) (gs (rg (sv (EV.mv rfl) rfl (sv (EV.mv rfl) rfl (sv (EV.leq rfl rfl) rfl (sv (EV.as rfl) rfl (re (pr [30] [] [] rfl rfl rfl rfl ?_))))))))
     revert H; refine ifsI ?_ ?_ <;> intro c8 H
     ·
      refine gt rfl (dT c8) (gs (rg (sv (EV.as rfl) rfl (re ?_))))
      cases H
      exact rt Try.func97 rfl (.tmp rfl .nil) rfl [] [] rfl rfl rfl rfl rfl ⟨rfl, rfl, rfl⟩
     ·
      refine gf rfl (dF c8) (gk (ge (gs (rg (sv (EV.as rfl) rfl (re ?_))))))
      cases H
      exact rt Try.func97 rfl (.tmp rfl .nil) rfl [] [] rfl rfl rfl rfl rfl ⟨rfl, rfl, rfl⟩
   ·
    refine ts 25 rfl (dF c6) (sk rfl (sk rfl (sk rfl (sv (EV.pf rfl rfl rfl) rfl (sv (EV.as rfl) rfl (re (pr [1, 6, 16] [] [] rfl rfl rfl rfl (gf rfl rfl (gs (rg (sv (EV.mv rfl) rfl (sv (EV.mv rfl) rfl (sv (EV.leq rfl rfl) rfl (sv (EV.as rfl) rfl (re (pr [30] [] [] rfl rfl rfl rfl ?_))))))))))))))))
    revert H; refine ifsI ?_ ?_ <;> intro c9 H
    ·
     refine gt rfl (dT c9) (gs (rg (sv (EV.as rfl) rfl (re ?_))))
     cases H
     exact rt Try.func97 rfl (.tmp rfl .nil) rfl [] [] rfl rfl rfl rfl rfl ⟨rfl, rfl, rfl⟩
    ·
     refine gf rfl (dF c9) (gk (ge (gs (rg (sv (EV.as rfl) rfl (re ?_))))))
     cases H
     exact rt Try.func97 rfl (.tmp rfl .nil) rfl [] [] rfl rfl rfl rfl rfl ⟨rfl, rfl, rfl⟩
  ·
   refine ts 20 rfl (dF c5) (sk rfl (sk rfl (sk rfl (sv (EV.pf rfl rfl rfl) rfl (sv (EV.mv rfl) rfl (sk rfl (sk rfl (sk rfl (sv (EV.pf rfl rfl rfl) rfl (sv (EV.as rfl) rfl (re (pr [1, 6, 16] [] [] rfl rfl rfl rfl (gf rfl rfl (gs (rg (sv (EV.mv rfl) rfl (sv (EV.mv rfl) rfl (sv (EV.leq rfl rfl) rfl (sv (EV.as rfl) rfl (re (pr [30] [] [] rfl rfl rfl rfl ?_)))))))))))))))))))))
   revert H; refine ifsI ?_ ?_ <;> intro c10 H
   ·
    refine gt rfl (dT c10) (gs (rg (sv (EV.as rfl) rfl (re ?_))))
    cases H
    exact rt Try.func97 rfl (.tmp rfl .nil) rfl [] [] rfl rfl rfl rfl rfl ⟨rfl, rfl, rfl⟩
   ·
    refine gf rfl (dF c10) (gk (ge (gs (rg (sv (EV.as rfl) rfl (re ?_))))))
    cases H
    exact rt Try.func97 rfl (.tmp rfl .nil) rfl [] [] rfl rfl rfl rfl rfl ⟨rfl, rfl, rfl⟩
 ·
  obtain rfl := bF c2
  refine gt rfl rfl (gs (rg (sv (EV.as rfl) rfl (re (pr [4] [] [] rfl rfl rfl rfl ?_)))))
  cases H
  exact rt Try.func97 rfl (.tmp rfl .nil) rfl [] [] rfl rfl rfl rfl rfl ⟨rfl, rfl, rfl⟩
end Go.Proofs.Ytajjeemkdjfilaa.K
namespace Go.Proofs.Ytajjeemkdjfilaa.K
open Go Go.RowKit
set_option linter.unusedVariables false
set_option linter.unusedSimpArgs false
def impl_PartitionDepth.f : Nat → Int → (List S70) → (List S70) → (List Bool) → Int → Int → Option (Int)
 | 0, _, _, _, _, _, _ => none
 | k + 1, a0_0, l0_1, l0_2, l0_3, a0_4, a1 => (impl_IsValidTask.f k a0_0 l0_1 l0_2 l0_3 a0_4).bind fun t1 => (if t1 = true then ((impl_BuildSide.f k a0_0 l0_1 l0_2 l0_3 a0_4 a1).bind fun t3 => (if t3 = 0 then ((impl_NeedsNestedLoop.f k a0_0 l0_1 l0_2 l0_3 a0_4).bind fun t5 => (if t5 = true then (some 0) else (if (l0_1.length : Int) = 0 then (some 0) else ((impl_PartitionTask.f k a0_0 l0_1 l0_2 l0_3 a0_4).bind fun bt8 => ((impl_PartitionDepth.f k bt8.1 bt8.2.1 bt8.2.2.1 bt8.2.2.2.1 bt8.2.2.2.2.1 a1).bind fun t9 => ((impl_PartitionDepth.f k bt8.2.2.2.2.2.1 bt8.2.2.2.2.2.2.1 bt8.2.2.2.2.2.2.2.1 bt8.2.2.2.2.2.2.2.2.1 bt8.2.2.2.2.2.2.2.2.2.1 a1).bind fun t10 => (some (wrap64 (1 + (mx t9 t10)))))))))) else (some 0))) else (some 0))
set_option maxHeartbeats 4000000 in
set_option maxRecDepth 100000 in
theorem impl_PartitionDepth.ok : ∀ (k : Nat) (a0_0 : Int) (l0_1 : List S70) (Al0_1 : Option Addr) (cl0_1 : Nat) (l0_2 : List S70) (Al0_2 : Option Addr) (cl0_2 : Nat) (l0_3 : List Bool) (Al0_3 : Option Addr) (cl0_3 : Nat) (a0_4 : Int) (a1 : Int) (r0 : Int) (h : impl_PartitionDepth.f k a0_0 l0_1 l0_2 l0_3 a0_4 a1 = some r0), Fn Try.prog 48 [.agg #[.int .i64 a0_0, .slice Al0_1 l0_1.length cl0_1, .slice Al0_2 l0_2.length cl0_2, .slice Al0_3 l0_3.length cl0_3, .int .i64 a0_4], .int .i64 a1] [] [.sl 0 k70 Al0_1 cl0_1 l0_1 0 false, .sl 0 k70 Al0_2 cl0_2 l0_2 0 false, .sl 0 .bool Al0_3 cl0_3 l0_3 0 false] (fun v bx en => v = .int .i64 r0 ∧ bx = [] ∧ en = []) := by
 intro k
 induction k with
 | zero => intro a0_0 l0_1 Al0_1 cl0_1 l0_2 Al0_2 cl0_2 l0_3 Al0_3 cl0_3 a0_4 a1 r0 h; rw [impl_PartitionDepth.f] at h; cases h
 | succ k ih =>
 intro a0_0 l0_1 Al0_1 cl0_1 l0_2 Al0_2 cl0_2 l0_3 Al0_3 cl0_3 a0_4 a1 r0 H
 refine fn_ 41 Try.func48 rfl rfl rfl (fun base T w0 => ?_)
 rw [impl_PartitionDepth.f] at H
 refine gs (rg (so rfl (op_box (cs := [.int .i64 a0_0, .slice Al0_1 l0_1.length cl0_1, .slice Al0_2 l0_2.length cl0_2, .slice Al0_3 l0_3.length cl0_3, .int .i64 a0_4]) rfl rfl rfl fun b2 => (sv (EV.as rfl) rfl (re (gs (gs (rg (sv (EV.ld (v := .agg #[.int .i64 a0_0, .slice Al0_1 l0_1.length cl0_1, .slice Al0_2 l0_2.length cl0_2, .slice Al0_3 l0_3.length cl0_3, .int .i64 a0_4]) 0 (some 5) rfl rfl rfl) rfl ?_)))))))))
 revert H; refine bdI ?_; rintro t1 A1 H
 refine so rfl (op_call (impl_IsValidTask.ok k a0_0 l0_1 Al0_1 cl0_1 l0_2 Al0_2 cl0_2 l0_3 Al0_3 cl0_3 a0_4 _ A1) [⟨0, 0, 0, false⟩, ⟨1, 0, 0, false⟩, ⟨2, 0, 0, false⟩] 1 rfl rfl rfl rfl rfl ?_)
 rintro _ _ _ ⟨rfl, rfl, rfl⟩
 refine sv (EV.nt rfl) rfl (sv (EV.mv rfl) rfl ?_)
 revert H; refine ifsI ?_ ?_ <;> intro c2 H
 ·
  subst c2
  refine ts 11 rfl rfl (sv (EV.ld (v := .agg #[.int .i64 a0_0, .slice Al0_1 l0_1.length cl0_1, .slice Al0_2 l0_2.length cl0_2, .slice Al0_3 l0_3.length cl0_3, .int .i64 a0_4]) 0 (some 5) rfl rfl rfl) rfl (sv (EV.mv rfl) rfl ?_))
  revert H; refine bdI ?_; rintro t3 A3 H
  refine so rfl (op_call (impl_BuildSide.ok k a0_0 l0_1 Al0_1 cl0_1 l0_2 Al0_2 cl0_2 l0_3 Al0_3 cl0_3 a0_4 a1 _ A3) [⟨0, 0, 0, false⟩, ⟨1, 0, 0, false⟩, ⟨2, 0, 0, false⟩] 1 rfl rfl rfl rfl rfl ?_)
  rintro _ _ _ ⟨rfl, rfl, rfl⟩
  refine sv (EV.neq rfl rfl) rfl (sv (EV.pf rfl rfl rfl) rfl (sv (EV.mv rfl) rfl ?_))
  revert H; refine ifsI ?_ ?_ <;> intro c4 H
  ·
   refine ts 17 rfl (nF c4) (sv (EV.ld (v := .agg #[.int .i64 a0_0, .slice Al0_1 l0_1.length cl0_1, .slice Al0_2 l0_2.length cl0_2, .slice Al0_3 l0_3.length cl0_3, .int .i64 a0_4]) 0 (some 5) rfl rfl rfl) rfl ?_)
   revert H; refine bdI ?_; rintro t5 A5 H
   refine so rfl (op_call (impl_NeedsNestedLoop.ok k a0_0 l0_1 Al0_1 cl0_1 l0_2 Al0_2 cl0_2 l0_3 Al0_3 cl0_3 a0_4 _ A5) [⟨0, 0, 0, false⟩, ⟨1, 0, 0, false⟩, ⟨2, 0, 0, false⟩] 1 rfl rfl rfl rfl rfl ?_)
   rintro _ _ _ ⟨rfl, rfl, rfl⟩
   refine sv (EV.pf rfl rfl rfl) rfl (sv (EV.mv rfl) rfl ?_)
   revert H; refine ifsI ?_ ?_ <;> intro c6 H
   ·
    subst c6
    refine ts 21 rfl rfl (sk rfl (sk rfl (sk rfl (sk rfl (sv (EV.pt rfl rfl rfl) rfl (re (pr [1, 2, 26] [0] [0, 1, 2] rfl rfl rfl rfl (gt rfl rfl (gs (rg (sv (EV.as rfl) rfl (re ?_))))))))))))
    cases H
    exact rt Try.func48 rfl (.tmp rfl .nil) rfl [] [] rfl rfl rfl rfl rfl ⟨rfl, rfl, rfl⟩
   ·
    obtain rfl := bF c6
    refine ts 21 rfl rfl (sv (EV.fa 1 rfl) rfl (sv (EV.ld 0 none rfl rfl rfl) rfl (sv (EV.ln rfl) rfl (sv (EV.eql rfl rfl) rfl (sv (EV.pf rfl rfl rfl) rfl (re (pr [1, 2, 26] [0] [0, 1, 2] rfl rfl rfl rfl ?_)))))))
    revert H; refine ifsI ?_ ?_ <;> intro c7 H
    ·
     refine gt rfl (dT c7) (gs (rg (sv (EV.as rfl) rfl (re ?_))))
     cases H
     exact rt Try.func48 rfl (.tmp rfl .nil) rfl [] [] rfl rfl rfl rfl rfl ⟨rfl, rfl, rfl⟩
    ·
     refine gf rfl (dF c7) (gk (gs (rg (sv (EV.ld (v := .agg #[.int .i64 a0_0, .slice Al0_1 l0_1.length cl0_1, .slice Al0_2 l0_2.length cl0_2, .slice Al0_3 l0_3.length cl0_3, .int .i64 a0_4]) 0 (some 5) rfl rfl rfl) rfl ?_))))
     revert H; refine bdI ?_; rintro ⟨t8_0, t8_1, t8_2, t8_3, t8_4, t8_5, t8_6, t8_7, t8_8, t8_9, t8_10⟩ A8 H
     refine so rfl (op_call (impl_PartitionTask.ok k a0_0 l0_1 Al0_1 cl0_1 l0_2 Al0_2 cl0_2 l0_3 Al0_3 cl0_3 a0_4 _ _ _ _ _ _ _ _ _ _ _ A8) [⟨0, 0, 0, false⟩, ⟨1, 0, 0, false⟩, ⟨2, 0, 0, false⟩] 1 rfl rfl rfl rfl rfl ?_)
     rintro _ _ _ ⟨At8_1, ct8_1, At8_2, ct8_2, At8_3, ct8_3, At8_6, ct8_6, At8_7, ct8_7, At8_8, ct8_8, rfl, rfl, rfl⟩
     refine sv (EV.mv rfl) rfl (sv (EV.ex rfl rfl) rfl (sv (EV.ex rfl rfl) rfl (sv (EV.ex rfl rfl) rfl (so rfl (op_alloc (cs := [.int .i64 0, .slice none 0 0, .slice none 0 0, .slice none 0 0, .int .i64 0]) (by kernel_rfl) rfl fun b5 => (so rfl (op_alloc (cs := [.int .i64 0, .slice none 0 0, .slice none 0 0, .slice none 0 0, .int .i64 0]) (by kernel_rfl) rfl fun b6 => (so rfl (op_st (cs' := [.int .i64 t8_0, .slice At8_1 t8_1.length ct8_1, .slice At8_2 t8_2.length ct8_2, .slice At8_3 t8_3.length ct8_3, .int .i64 t8_4]) 1 rfl rfl rfl rfl rfl rfl (so rfl (op_st (cs' := [.int .i64 t8_5, .slice At8_6 t8_6.length ct8_6, .slice At8_7 t8_7.length ct8_7, .slice At8_8 t8_8.length ct8_8, .int .i64 t8_9]) 2 rfl rfl rfl rfl rfl rfl (sv (EV.as rfl) rfl (re (pr [1, 5, 6] [1, 2] [3, 4, 5, 6, 7, 8] rfl rfl rfl rfl (gs (dr [0, 1] [0, 1, 2, 3, 4, 5] [] 9 rfl rfl rfl rfl (xv 0 [0, 1] [0, 1, 2, 3, 4, 5] rfl (EV.ld (v := .agg #[.int .i64 t8_0, .slice At8_1 t8_1.length ct8_1, .slice At8_2 t8_2.length ct8_2, .slice At8_3 t8_3.length ct8_3, .int .i64 t8_4]) 0 (some 5) rfl rfl rfl) rfl rfl rfl rfl (xv 1 [0, 1] [0, 1, 2, 3, 4, 5] rfl (EV.mv rfl) rfl rfl rfl rfl (xv 3 [0, 1] [0, 1, 2, 3, 4, 5] rfl (EV.ld (v := .agg #[.int .i64 t8_5, .slice At8_6 t8_6.length ct8_6, .slice At8_7 t8_7.length ct8_7, .slice At8_8 t8_8.length ct8_8, .int .i64 t8_9]) 1 (some 5) rfl rfl rfl) rfl rfl rfl rfl (xv 4 [0, 1] [0, 1, 2, 3, 4, 5] rfl (EV.mv rfl) rfl rfl rfl rfl (one1 2 rfl rfl ?_)))))))))))))))))))))
     revert H; refine bdI ?_; rintro t9 A9 H
     refine op_call (ih t8_0 t8_1 At8_1 ct8_1 t8_2 At8_2 ct8_2 t8_3 At8_3 ct8_3 t8_4 a1 _ A9) [⟨0, 0, 0, false⟩, ⟨1, 0, 0, false⟩, ⟨2, 0, 0, false⟩] 8 rfl rfl rfl rfl rfl ?_
     rintro _ _ _ ⟨rfl, rfl, rfl⟩
     refine xs [0, 1] [0, 1, 2, 3, 4, 5] rfl rfl rfl (one1 5 rfl rfl ?_)
     revert H; refine bdI ?_; rintro t10 A10 H
     refine op_call (ih t8_5 t8_6 At8_6 ct8_6 t8_7 At8_7 ct8_7 t8_8 At8_8 ct8_8 t8_9 a1 _ A10) [⟨3, 0, 0, false⟩, ⟨4, 0, 0, false⟩, ⟨5, 0, 0, false⟩] 8 rfl rfl rfl rfl rfl ?_
     rintro _ _ _ ⟨rfl, rfl, rfl⟩
     refine xs [0, 1] [0, 1, 2, 3, 4, 5] rfl rfl rfl (xv 6 [0, 1] [0, 1, 2, 3, 4, 5] rfl (EV.mx rfl rfl) rfl rfl rfl rfl (xv 7 [0, 1] [0, 1, 2, 3, 4, 5] rfl (EV.add rfl rfl) rfl rfl rfl rfl (xv 8 [0, 1] [0, 1, 2, 3, 4, 5] rfl (EV.as rfl) rfl rfl rfl rfl (xd (pr [4] [] [] rfl rfl rfl rfl ?_)))))
     cases H
     exact rt Try.func48 rfl (.tmp rfl .nil) rfl [] [] rfl rfl rfl rfl rfl ⟨rfl, rfl, rfl⟩
  ·
   refine ts 17 rfl (nT c4) (sk rfl (sk rfl (sv (EV.pt rfl rfl rfl) rfl (sv (EV.mv rfl) rfl (sk rfl (sk rfl (sk rfl (sk rfl (sv (EV.pt rfl rfl rfl) rfl (re (pr [1, 2, 26] [0] [0, 1, 2] rfl rfl rfl rfl (gt rfl rfl (gs (rg (sv (EV.as rfl) rfl (re ?_))))))))))))))))
   cases H
   exact rt Try.func48 rfl (.tmp rfl .nil) rfl [] [] rfl rfl rfl rfl rfl ⟨rfl, rfl, rfl⟩
 ·
  obtain rfl := bF c2
  refine ts 11 rfl rfl (sk rfl (sk rfl (sk rfl (sk rfl (sv (EV.pt rfl rfl rfl) rfl (sv (EV.mv rfl) rfl (sk rfl (sk rfl (sv (EV.pt rfl rfl rfl) rfl (sv (EV.mv rfl) rfl (sk rfl (sk rfl (sk rfl (sk rfl (sv (EV.pt rfl rfl rfl) rfl (re (pr [1, 2, 26] [0] [0, 1, 2] rfl rfl rfl rfl (gt rfl rfl (gs (rg (sv (EV.as rfl) rfl (re ?_))))))))))))))))))))))
  cases H
  exact rt Try.func48 rfl (.tmp rfl .nil) rfl [] [] rfl rfl rfl rfl rfl ⟨rfl, rfl, rfl⟩
end Go.Proofs.Ytajjeemkdjfilaa.K
namespace Go.Proofs.Ytajjeemkdjfilaa.K
open Go Go.RowKit
set_option linter.unusedVariables false
set_option linter.unusedSimpArgs false
def spec_RowCost.f (a0_0 : Int) (a0_1 : Int) (a0_2 : Int) : Option (Int) := (spec_IsValidRow.f a0_0 a0_1 a0_2).bind fun t1 => (if t1 = true then (some (wrap64 (1 + a0_2))) else (some 0))
set_option maxHeartbeats 4000000 in
set_option maxRecDepth 100000 in
theorem spec_RowCost.ok (a0_0 : Int) (a0_1 : Int) (a0_2 : Int) (r0 : Int) (H : spec_RowCost.f a0_0 a0_1 a0_2 = some r0) : Fn Try.prog 86 [.agg #[.int .i64 a0_0, .int .i64 a0_1, .int .i64 a0_2]] [] [] (fun v bx en => v = .int .i64 r0 ∧ bx = [] ∧ en = []) := by
 refine fn_ 9 Try.func86 rfl rfl rfl (fun base T w0 => ?_)
 rw [spec_RowCost.f] at H
 refine gs (rg (so rfl (op_box (cs := [.int .i64 a0_0, .int .i64 a0_1, .int .i64 a0_2]) rfl rfl rfl fun b1 => (sv (EV.as rfl) rfl (re (gs (gs (rg (sv (EV.ld (v := .agg #[.int .i64 a0_0, .int .i64 a0_1, .int .i64 a0_2]) 0 (some 3) rfl rfl rfl) rfl ?_)))))))))
 revert H; refine bdI ?_; rintro t1 A1 H
 refine so rfl (op_call (spec_IsValidRow.ok a0_0 a0_1 a0_2 _ A1) [] 1 rfl rfl rfl rfl rfl ?_)
 rintro _ _ _ ⟨rfl, rfl, rfl⟩
 refine sv (EV.nt rfl) rfl (re ?_)
 revert H; refine ifsI ?_ ?_ <;> intro c2 H
 ·
  subst c2
  refine gf rfl rfl (gk (gs (rg (sv (EV.fa 2 rfl) rfl (sv (EV.ld 0 none rfl rfl rfl) rfl (sv (EV.add rfl rfl) rfl (sv (EV.as rfl) rfl (re (pr [2] [] [] rfl rfl rfl rfl ?_)))))))))
  cases H
  exact rt Try.func86 rfl (.tmp rfl .nil) rfl [] [] rfl rfl rfl rfl rfl ⟨rfl, rfl, rfl⟩
 ·
  obtain rfl := bF c2
  refine gt rfl rfl (gs (rg (sv (EV.as rfl) rfl (re ?_))))
  cases H
  exact rt Try.func86 rfl (.tmp rfl .nil) rfl [] [] rfl rfl rfl rfl rfl ⟨rfl, rfl, rfl⟩
end Go.Proofs.Ytajjeemkdjfilaa.K
namespace Go.Proofs.Ytajjeemkdjfilaa.K
open Go Go.RowKit
set_option linter.unusedVariables false
set_option linter.unusedSimpArgs false
def spec_TotalCost.l0 : Nat → Int → Int → (List S70) → Option (Int)
 | 0, _, _, _ => none
 | k + 1, x2_3, x2_4, l0 => if x2_4 < (l0.length : Int) then (if 0 ≤ x2_4 then ((spec_RowCost.f ((rd_T70 l0 x2_4).f0) ((rd_T70 l0 x2_4).f1) ((rd_T70 l0 x2_4).f2)).bind fun t3 => (spec_TotalCost.l0 k (wrap64 (x2_3 + t3)) (wrap64 (x2_4 + 1)) l0)) else none) else (some x2_3)
def spec_TotalCost.f (k : Nat) (l0 : List S70) : Option (Int) := spec_TotalCost.l0 k 0 0 l0
set_option maxHeartbeats 4000000 in
set_option maxRecDepth 100000 in
theorem spec_TotalCost.ok (k : Nat) (l0 : List S70) (Al0 : Option Addr) (cl0 : Nat) (r0 : Int) (H : spec_TotalCost.f k l0 = some r0) : Fn Try.prog 37 [.slice Al0 l0.length cl0] [] [.sl 0 k70 Al0 cl0 l0 0 false] (fun v bx en => v = .int .i64 r0 ∧ bx = [] ∧ en = []) := by
 refine fn_ 19 Try.func37 rfl rfl rfl (fun base T w0 => ?_)
 rw [spec_TotalCost.f] at H
 refine gs (rg (sv (EV.as rfl) rfl (re (gs (rg (sv (EV.as rfl) rfl (re (gs (gs (rg (sv (EV.as rfl) rfl (re (gb ?_)))))))))))))
 refine lo (fun kk S => ∃ (x2_3 : Int) (x2_4 : Int), spec_TotalCost.l0 kk x2_3 x2_4 l0 = some r0 ∧ S = ⟨[(0, .slice Al0 l0.length cl0), (3, .int .i64 x2_3), (4, .int .i64 x2_4)], [], [.sl 0 k70 Al0 cl0 l0 0 false]⟩) (fun S hS => ?_) (fun n0 ih0 S hS => ?_) ⟨0, 0, H, rfl⟩ (fun h => wk [0, 3, 4] [] [⟨0, 0, 0, false⟩] h)
 · clear H; obtain ⟨_, _, H, _⟩ := hS; rw [spec_TotalCost.l0] at H; cases H
 clear H
 obtain ⟨x2_3, x2_4, H, rfl⟩ := hS
 rw [spec_TotalCost.l0] at H
 refine gs (gs (rg (sv (EV.mv rfl) rfl (sv (EV.mv rfl) rfl (sv (EV.ln rfl) rfl (sv (EV.lss rfl rfl) rfl (re ?_)))))))
 revert H; refine ifsI ?_ ?_ <;> intro c1 H
 ·
  refine gt rfl (dT c1) (gk (gs (gb (rg (sv (EV.mv rfl) rfl (sv (EV.mv rfl) rfl (sv (EV.mv rfl) rfl ?_)))))))
  revert H; refine ggI ?_; intro g2 H
  refine sv (EV.ix 0 rfl rfl rfl g2 c1 rfl) rfl (sv (EV.le (v := .agg #[.int .i64 ((rd_T70 l0 x2_4).f0), .int .i64 ((rd_T70 l0 x2_4).f1), .int .i64 ((rd_T70 l0 x2_4).f2)]) x2_4 0 (some 3) 0 z70 rfl rfl rfl g2 c1 rfl rfl rfl) rfl ?_)
  revert H; refine bdI ?_; rintro t3 A3 H
  refine so rfl (op_call (spec_RowCost.ok ((rd_T70 l0 x2_4).f0) ((rd_T70 l0 x2_4).f1) ((rd_T70 l0 x2_4).f2) _ A3) [] 1 rfl rfl rfl rfl rfl ?_)
  rintro _ _ _ ⟨rfl, rfl, rfl⟩
  exact sv (EV.add rfl rfl) rfl (sv (EV.as rfl) rfl (re (pr [0, 3, 4] [] [0] rfl rfl rfl rfl (ge (rg (sv (EV.mv rfl) rfl (sv (EV.add rfl rfl) rfl (sv (EV.as rfl) rfl (re (wk [0, 3, 4] [] [⟨0, 0, 0, false⟩] (ih0 _ (by omega) _ ⟨wrap64 (x2_3 + t3), wrap64 (x2_4 + 1), H, rfl⟩)))))))))))
 ·
  refine gf rfl (dF c1) (gx rfl (gs (rg (sv (EV.mv rfl) rfl (sv (EV.as rfl) rfl (re (pr [2] [] [] rfl rfl rfl rfl ?_)))))))
  cases H
  exact rt Try.func37 rfl (.tmp rfl .nil) rfl [] [] rfl rfl rfl rfl rfl ⟨rfl, rfl, rfl⟩
end Go.Proofs.Ytajjeemkdjfilaa.K
namespace Go.Proofs.Ytajjeemkdjfilaa.K
open Go Go.RowKit
set_option linter.unusedVariables false
set_option linter.unusedSimpArgs false
def spec_BuildSide.j0 : Nat → Int → Int → Int → (List S70) → (List S70) → (List Bool) → Option (Int)
 | 0, _, _, _, _, _, _ => none
 | k + 1, x1_1, x1_2_0, x1_2_4, l0_1, l0_2, l0_3 => (spec_TotalCost.f k l0_2).bind fun t4 => (if t4 ≤ x1_1 then (some 2) else (some 0))
def spec_BuildSide.f (k : Nat) (a0_0 : Int) (l0_1 : List S70) (l0_2 : List S70) (l0_3 : List Bool) (a0_4 : Int) (a1 : Int) : Option (Int) := (spec_IsValidTask.f k a0_0 l0_1 l0_2 l0_3 a0_4).bind fun t1 => (if t1 = true then (if a0_0 = 1 then ((spec_TotalCost.f k l0_1).bind fun t7 => ((spec_TotalCost.f k l0_2).bind fun t8 => (if t7 < t8 then ((spec_TotalCost.f k l0_1).bind fun t10 => (if t10 ≤ a1 then (some 1) else (spec_BuildSide.j0 k a1 a0_0 a0_4 l0_1 l0_2 l0_3))) else (spec_BuildSide.j0 k a1 a0_0 a0_4 l0_1 l0_2 l0_3)))) else (spec_BuildSide.j0 k a1 a0_0 a0_4 l0_1 l0_2 l0_3)) else (some 0))
set_option maxHeartbeats 4000000 in
set_option maxRecDepth 100000 in
theorem spec_BuildSide.ok (k : Nat) (a0_0 : Int) (l0_1 : List S70) (Al0_1 : Option Addr) (cl0_1 : Nat) (l0_2 : List S70) (Al0_2 : Option Addr) (cl0_2 : Nat) (l0_3 : List Bool) (Al0_3 : Option Addr) (cl0_3 : Nat) (a0_4 : Int) (a1 : Int) (r0 : Int) (H : spec_BuildSide.f k a0_0 l0_1 l0_2 l0_3 a0_4 a1 = some r0) : Fn Try.prog 98 [.agg #[.int .i64 a0_0, .slice Al0_1 l0_1.length cl0_1, .slice Al0_2 l0_2.length cl0_2, .slice Al0_3 l0_3.length cl0_3, .int .i64 a0_4], .int .i64 a1] [] [.sl 0 k70 Al0_1 cl0_1 l0_1 0 false, .sl 0 k70 Al0_2 cl0_2 l0_2 0 false, .sl 0 .bool Al0_3 cl0_3 l0_3 0 false] (fun v bx en => v = .int .i64 r0 ∧ bx = [] ∧ en = []) := by
 refine fn_ 32 Try.func98 rfl rfl rfl (fun base T w0 => ?_)
 rw [spec_BuildSide.f] at H
 refine gs (rg (so rfl (op_box (cs := [.int .i64 a0_0, .slice Al0_1 l0_1.length cl0_1, .slice Al0_2 l0_2.length cl0_2, .slice Al0_3 l0_3.length cl0_3, .int .i64 a0_4]) rfl rfl rfl fun b2 => (sv (EV.as rfl) rfl (re (gs (gs (rg (sv (EV.ld (v := .agg #[.int .i64 a0_0, .slice Al0_1 l0_1.length cl0_1, .slice Al0_2 l0_2.length cl0_2, .slice Al0_3 l0_3.length cl0_3, .int .i64 a0_4]) 0 (some 5) rfl rfl rfl) rfl ?_)))))))))
 revert H; refine bdI ?_; rintro t1 A1 H
 refine so rfl (op_call (spec_IsValidTask.ok k a0_0 l0_1 Al0_1 cl0_1 l0_2 Al0_2 cl0_2 l0_3 Al0_3 cl0_3 a0_4 _ A1) [⟨0, 0, 0, false⟩, ⟨1, 0, 0, false⟩, ⟨2, 0, 0, false⟩] 1 rfl rfl rfl rfl rfl ?_)
 rintro _ _ _ ⟨rfl, rfl, rfl⟩
 refine sv (EV.nt rfl) rfl (re ?_)
 revert H; refine ifsI ?_ ?_ <;> intro c2 H
 ·
  subst c2
  refine gf rfl rfl (gk ?_)
  refine jo (fun S => ∃ (m : Nat) (x1_1 : Int) (x1_2_0 : Int) (x1_2_4 : Int), spec_BuildSide.j0 m x1_1 x1_2_0 x1_2_4 l0_1 l0_2 l0_3 = some r0 ∧ S = ⟨[(1, .int .i64 x1_1), (2, .pointer (some ⟨b2, 0, none⟩))], [⟨b2, 44, [.int .i64 x1_2_0, .slice Al0_1 l0_1.length cl0_1, .slice Al0_2 l0_2.length cl0_2, .slice Al0_3 l0_3.length cl0_3, .int .i64 x1_2_4]⟩], [.sl 0 k70 Al0_1 cl0_1 l0_1 0 false, .sl 0 k70 Al0_2 cl0_2 l0_2 0 false, .sl 0 .bool Al0_3 cl0_3 l0_3 0 false]⟩) (fun S hS => ?_) (fun jh0 => ?_)
  ·
   clear H
   obtain ⟨m3, x1_1, x1_2_0, x1_2_4, H, rfl⟩ := hS
   rcases m3 with _ | m3
   · rw [spec_BuildSide.j0] at H; cases H
   rw [spec_BuildSide.j0] at H
   refine gs (gs (rg (sv (EV.fa 2 rfl) rfl (sv (EV.ld 0 none rfl rfl rfl) rfl ?_))))
   revert H; refine bdI ?_; rintro t4 A4 H
   refine so rfl (op_call (spec_TotalCost.ok m3 l0_2 Al0_2 cl0_2 _ A4) [⟨1, 0, 0, false⟩] 1 rfl rfl rfl rfl rfl ?_)
   rintro _ _ _ ⟨rfl, rfl, rfl⟩
   refine sv (EV.mv rfl) rfl (sv (EV.leq rfl rfl) rfl (re (pr [31] [] [] rfl rfl rfl rfl ?_)))
   revert H; refine ifsI ?_ ?_ <;> intro c5 H
   ·
    refine gt rfl (dT c5) (gs (rg (sv (EV.as rfl) rfl (re ?_))))
    cases H
    exact rt Try.func98 rfl (.tmp rfl .nil) rfl [] [] rfl rfl rfl rfl rfl ⟨rfl, rfl, rfl⟩
   ·
    refine gf rfl (dF c5) (gk (gs (rg (sv (EV.as rfl) rfl (re ?_)))))
    cases H
    exact rt Try.func98 rfl (.tmp rfl .nil) rfl [] [] rfl rfl rfl rfl rfl ⟨rfl, rfl, rfl⟩
  ·
   refine gs (dr [0] [0, 1, 2] [] 19 rfl rfl rfl rfl (xv 0 [0] [0, 1, 2] rfl (EV.fa 0 rfl) rfl rfl rfl rfl (xv 1 [0] [0, 1, 2] rfl (EV.ld 0 none rfl rfl rfl) rfl rfl rfl rfl (xv 2 [0] [0, 1, 2] rfl (EV.eql rfl rfl) rfl rfl rfl rfl (xv 3 [0] [0, 1, 2] rfl (EV.mv rfl) rfl rfl rfl rfl ?_)))))
   revert H; refine ifsI ?_ ?_ <;> intro c6 H
   ·
    refine ts 11 rfl (dT c6) (xv 4 [0] [0, 1, 2] rfl (EV.fa 1 rfl) rfl rfl rfl rfl (xv 5 [0] [0, 1, 2] rfl (EV.ld 0 none rfl rfl rfl) rfl rfl rfl rfl (xv 7 [0] [0, 1, 2] rfl (EV.fa 2 rfl) rfl rfl rfl rfl (xv 8 [0] [0, 1, 2] rfl (EV.ld 0 none rfl rfl rfl) rfl rfl rfl rfl (one1 6 rfl rfl ?_)))))
    revert H; refine bdI ?_; rintro t7 A7 H
    refine op_call (spec_TotalCost.ok k l0_1 Al0_1 cl0_1 _ A7) [⟨0, 0, 0, false⟩] 1 rfl rfl rfl rfl rfl ?_
    rintro _ _ _ ⟨rfl, rfl, rfl⟩
    refine xs [0] [0, 1, 2] rfl rfl rfl (one1 9 rfl rfl ?_)
    revert H; refine bdI ?_; rintro t8 A8 H
    refine op_call (spec_TotalCost.ok k l0_2 Al0_2 cl0_2 _ A8) [⟨1, 0, 0, false⟩] 1 rfl rfl rfl rfl rfl ?_
    rintro _ _ _ ⟨rfl, rfl, rfl⟩
    refine xs [0] [0, 1, 2] rfl rfl rfl (xv 10 [0] [0, 1, 2] rfl (EV.lss rfl rfl) rfl rfl rfl rfl (xv 11 [0] [0, 1, 2] rfl (EV.pt rfl rfl rfl) rfl rfl rfl rfl (xv 12 [0] [0, 1, 2] rfl (EV.mv rfl) rfl rfl rfl rfl ?_)))
    revert H; refine ifsI ?_ ?_ <;> intro c9 H
    ·
     refine ts 20 rfl (dT c9) (xv 13 [0] [0, 1, 2] rfl (EV.fa 1 rfl) rfl rfl rfl rfl (xv 14 [0] [0, 1, 2] rfl (EV.ld 0 none rfl rfl rfl) rfl rfl rfl rfl (xv 16 [0] [0, 1, 2] rfl (EV.mv rfl) rfl rfl rfl rfl (one1 15 rfl rfl ?_))))
     revert H; refine bdI ?_; rintro t10 A10 H
     refine op_call (spec_TotalCost.ok k l0_1 Al0_1 cl0_1 _ A10) [⟨0, 0, 0, false⟩] 1 rfl rfl rfl rfl rfl ?_
     rintro _ _ _ ⟨rfl, rfl, rfl⟩
     refine xs [0] [0, 1, 2] rfl rfl rfl (xv 17 [0] [0, 1, 2] rfl (EV.leq rfl rfl) rfl rfl rfl rfl (xv 18 [0] [0, 1, 2] rfl (EV.pt rfl rfl rfl) rfl rfl rfl rfl (xd (pr [1, 2, 26] [0] [0, 1, 2] rfl rfl rfl rfl ?_))))
     revert H; refine ifsI ?_ ?_ <;> intro c11 H
     ·
      refine gt rfl (dT c11) (gs (rg (sv (EV.as rfl) rfl (re ?_))))
      cases H
      exact rt Try.func98 rfl (.tmp rfl .nil) rfl [] [] rfl rfl rfl rfl rfl ⟨rfl, rfl, rfl⟩
     ·
      exact gf rfl (dF c11) (gk (wk [1, 2] [0] [⟨0, 0, 0, false⟩, ⟨1, 0, 0, false⟩, ⟨2, 0, 0, false⟩] (jh0 _ ⟨_, a1, a0_0, a0_4, H, rfl⟩)))
    ·
     exact ts 20 rfl (dF c9) (xk 13 [0] [0, 1, 2] rfl rfl rfl rfl rfl (xk 14 [0] [0, 1, 2] rfl rfl rfl rfl rfl (xk 16 [0] [0, 1, 2] rfl rfl rfl rfl rfl (xk 15 [0] [0, 1, 2] rfl rfl rfl rfl rfl (xk 17 [0] [0, 1, 2] rfl rfl rfl rfl rfl (xv 18 [0] [0, 1, 2] rfl (EV.pf rfl rfl rfl) rfl rfl rfl rfl (xd (pr [1, 2, 26] [0] [0, 1, 2] rfl rfl rfl rfl (gf rfl rfl (gk (wk [1, 2] [0] [⟨0, 0, 0, false⟩, ⟨1, 0, 0, false⟩, ⟨2, 0, 0, false⟩] (jh0 _ ⟨_, a1, a0_0, a0_4, H, rfl⟩))))))))))))
   ·
    exact ts 11 rfl (dF c6) (xk 4 [0] [0, 1, 2] rfl rfl rfl rfl rfl (xk 5 [0] [0, 1, 2] rfl rfl rfl rfl rfl (xk 7 [0] [0, 1, 2] rfl rfl rfl rfl rfl (xk 8 [0] [0, 1, 2] rfl rfl rfl rfl rfl (xk 6 [0] [0, 1, 2] rfl rfl rfl rfl rfl (xk 9 [0] [0, 1, 2] rfl rfl rfl rfl rfl (xk 10 [0] [0, 1, 2] rfl rfl rfl rfl rfl (xv 11 [0] [0, 1, 2] rfl (EV.pf rfl rfl rfl) rfl rfl rfl rfl (xv 12 [0] [0, 1, 2] rfl (EV.mv rfl) rfl rfl rfl rfl (xk 13 [0] [0, 1, 2] rfl rfl rfl rfl rfl (xk 14 [0] [0, 1, 2] rfl rfl rfl rfl rfl (xk 16 [0] [0, 1, 2] rfl rfl rfl rfl rfl (xk 15 [0] [0, 1, 2] rfl rfl rfl rfl rfl (xk 17 [0] [0, 1, 2] rfl rfl rfl rfl rfl (xv 18 [0] [0, 1, 2] rfl (EV.pf rfl rfl rfl) rfl rfl rfl rfl (xd (pr [1, 2, 26] [0] [0, 1, 2] rfl rfl rfl rfl (gf rfl rfl (gk (wk [1, 2] [0] [⟨0, 0, 0, false⟩, ⟨1, 0, 0, false⟩, ⟨2, 0, 0, false⟩] (jh0 _ ⟨_, a1, a0_0, a0_4, H, rfl⟩)))))))))))))))))))))
 ·
  obtain rfl := bF c2
  refine gt rfl rfl (gs (rg (sv (EV.as rfl) rfl (re (pr [4] [] [] rfl rfl rfl rfl ?_)))))
  cases H
  exact rt Try.func98 rfl (.tmp rfl .nil) rfl [] [] rfl rfl rfl rfl rfl ⟨rfl, rfl, rfl⟩
end Go.Proofs.Ytajjeemkdjfilaa.K
namespace Go.Proofs.Ytajjeemkdjfilaa.K
open Go Go.RowKit
set_option linter.unusedVariables false
set_option linter.unusedSimpArgs false
def spec_PartitionDepth.f : Nat → Int → (List S70) → (List S70) → (List Bool) → Int → Int → Option (Int)
 | 0, _, _, _, _, _, _ => none
 | k + 1, a0_0, l0_1, l0_2, l0_3, a0_4, a1 => (spec_IsValidTask.f k a0_0 l0_1 l0_2 l0_3 a0_4).bind fun t1 => (if t1 = true then ((spec_BuildSide.f k a0_0 l0_1 l0_2 l0_3 a0_4 a1).bind fun t3 => (if t3 > 0 then (some 0) else ((spec_NeedsNestedLoop.f k a0_0 l0_1 l0_2 l0_3 a0_4).bind fun t5 => (if t5 = true then (some 0) else (if (l0_1.length : Int) = 0 then (some 0) else ((spec_PartitionTask.f k a0_0 l0_1 l0_2 l0_3 a0_4).bind fun bt8 => ((spec_PartitionDepth.f k bt8.1 bt8.2.1 bt8.2.2.1 bt8.2.2.2.1 bt8.2.2.2.2.1 a1).bind fun t9 => ((spec_PartitionDepth.f k bt8.2.2.2.2.2.1 bt8.2.2.2.2.2.2.1 bt8.2.2.2.2.2.2.2.1 bt8.2.2.2.2.2.2.2.2.1 bt8.2.2.2.2.2.2.2.2.2.1 a1).bind fun t10 => (some (wrap64 (1 + (mx t9 t10)))))))))))) else (some 0))
set_option maxHeartbeats 4000000 in
set_option maxRecDepth 100000 in
theorem spec_PartitionDepth.ok : ∀ (k : Nat) (a0_0 : Int) (l0_1 : List S70) (Al0_1 : Option Addr) (cl0_1 : Nat) (l0_2 : List S70) (Al0_2 : Option Addr) (cl0_2 : Nat) (l0_3 : List Bool) (Al0_3 : Option Addr) (cl0_3 : Nat) (a0_4 : Int) (a1 : Int) (r0 : Int) (h : spec_PartitionDepth.f k a0_0 l0_1 l0_2 l0_3 a0_4 a1 = some r0), Fn Try.prog 49 [.agg #[.int .i64 a0_0, .slice Al0_1 l0_1.length cl0_1, .slice Al0_2 l0_2.length cl0_2, .slice Al0_3 l0_3.length cl0_3, .int .i64 a0_4], .int .i64 a1] [] [.sl 0 k70 Al0_1 cl0_1 l0_1 0 false, .sl 0 k70 Al0_2 cl0_2 l0_2 0 false, .sl 0 .bool Al0_3 cl0_3 l0_3 0 false] (fun v bx en => v = .int .i64 r0 ∧ bx = [] ∧ en = []) := by
 intro k
 induction k with
 | zero => intro a0_0 l0_1 Al0_1 cl0_1 l0_2 Al0_2 cl0_2 l0_3 Al0_3 cl0_3 a0_4 a1 r0 h; rw [spec_PartitionDepth.f] at h; cases h
 | succ k ih =>
 intro a0_0 l0_1 Al0_1 cl0_1 l0_2 Al0_2 cl0_2 l0_3 Al0_3 cl0_3 a0_4 a1 r0 H
 refine fn_ 41 Try.func49 rfl rfl rfl (fun base T w0 => ?_)
 rw [spec_PartitionDepth.f] at H
 refine gs (rg (so rfl (op_box (cs := [.int .i64 a0_0, .slice Al0_1 l0_1.length cl0_1, .slice Al0_2 l0_2.length cl0_2, .slice Al0_3 l0_3.length cl0_3, .int .i64 a0_4]) rfl rfl rfl fun b2 => (sv (EV.as rfl) rfl (re (gs (gs (rg (sv (EV.ld (v := .agg #[.int .i64 a0_0, .slice Al0_1 l0_1.length cl0_1, .slice Al0_2 l0_2.length cl0_2, .slice Al0_3 l0_3.length cl0_3, .int .i64 a0_4]) 0 (some 5) rfl rfl rfl) rfl ?_)))))))))
 revert H; refine bdI ?_; rintro t1 A1 H
 refine so rfl (op_call (spec_IsValidTask.ok k a0_0 l0_1 Al0_1 cl0_1 l0_2 Al0_2 cl0_2 l0_3 Al0_3 cl0_3 a0_4 _ A1) [⟨0, 0, 0, false⟩, ⟨1, 0, 0, false⟩, ⟨2, 0, 0, false⟩] 1 rfl rfl rfl rfl rfl ?_)
 rintro _ _ _ ⟨rfl, rfl, rfl⟩
 refine sv (EV.nt rfl) rfl (sv (EV.mv rfl) rfl ?_)
 revert H; refine ifsI ?_ ?_ <;> intro c2 H
 ·
  subst c2
  refine ts 11 rfl rfl (sv (EV.ld (v := .agg #[.int .i64 a0_0, .slice Al0_1 l0_1.length cl0_1, .slice Al0_2 l0_2.length cl0_2, .slice Al0_3 l0_3.length cl0_3, .int .i64 a0_4]) 0 (some 5) rfl rfl rfl) rfl (sv (EV.mv rfl) rfl ?_))
  revert H; refine bdI ?_; rintro t3 A3 H
  refine so rfl (op_call (spec_BuildSide.ok k a0_0 l0_1 Al0_1 cl0_1 l0_2 Al0_2 cl0_2 l0_3 Al0_3 cl0_3 a0_4 a1 _ A3) [⟨0, 0, 0, false⟩, ⟨1, 0, 0, false⟩, ⟨2, 0, 0, false⟩] 1 rfl rfl rfl rfl rfl ?_)
  rintro _ _ _ ⟨rfl, rfl, rfl⟩
  refine sv (EV.gtr rfl rfl) rfl (sv (EV.pf rfl rfl rfl) rfl (sv (EV.mv rfl) rfl ?_))
  revert H; refine ifsI ?_ ?_ <;> intro c4 H
  ·
   refine ts 17 rfl (dT c4) (sk rfl (sk rfl (sv (EV.pt rfl rfl rfl) rfl (sv (EV.mv rfl) rfl (sk rfl (sk rfl (sk rfl (sk rfl (sv (EV.pt rfl rfl rfl) rfl (re (pr [1, 2, 26] [0] [0, 1, 2] rfl rfl rfl rfl (gt rfl rfl (gs (rg (sv (EV.as rfl) rfl (re ?_))))))))))))))))
   cases H
   exact rt Try.func49 rfl (.tmp rfl .nil) rfl [] [] rfl rfl rfl rfl rfl ⟨rfl, rfl, rfl⟩
  ·
   refine ts 17 rfl (dF c4) (sv (EV.ld (v := .agg #[.int .i64 a0_0, .slice Al0_1 l0_1.length cl0_1, .slice Al0_2 l0_2.length cl0_2, .slice Al0_3 l0_3.length cl0_3, .int .i64 a0_4]) 0 (some 5) rfl rfl rfl) rfl ?_)
   revert H; refine bdI ?_; rintro t5 A5 H
   refine so rfl (op_call (spec_NeedsNestedLoop.ok k a0_0 l0_1 Al0_1 cl0_1 l0_2 Al0_2 cl0_2 l0_3 Al0_3 cl0_3 a0_4 _ A5) [⟨0, 0, 0, false⟩, ⟨1, 0, 0, false⟩, ⟨2, 0, 0, false⟩] 1 rfl rfl rfl rfl rfl ?_)
   rintro _ _ _ ⟨rfl, rfl, rfl⟩
   refine sv (EV.pf rfl rfl rfl) rfl (sv (EV.mv rfl) rfl ?_)
   revert H; refine ifsI ?_ ?_ <;> intro c6 H
   ·
    subst c6
    refine ts 21 rfl rfl (sk rfl (sk rfl (sk rfl (sk rfl (sv (EV.pt rfl rfl rfl) rfl (re (pr [1, 2, 26] [0] [0, 1, 2] rfl rfl rfl rfl (gt rfl rfl (gs (rg (sv (EV.as rfl) rfl (re ?_))))))))))))
    cases H
    exact rt Try.func49 rfl (.tmp rfl .nil) rfl [] [] rfl rfl rfl rfl rfl ⟨rfl, rfl, rfl⟩
   ·
    obtain rfl := bF c6
    refine ts 21 rfl rfl (sv (EV.fa 1 rfl) rfl (sv (EV.ld 0 none rfl rfl rfl) rfl (sv (EV.ln rfl) rfl (sv (EV.eql rfl rfl) rfl (sv (EV.pf rfl rfl rfl) rfl (re (pr [1, 2, 26] [0] [0, 1, 2] rfl rfl rfl rfl ?_)))))))
    revert H; refine ifsI ?_ ?_ <;> intro c7 H
    ·
     refine gt rfl (dT c7) (gs (rg (sv (EV.as rfl) rfl (re ?_))))
     cases H
     exact rt Try.func49 rfl (.tmp rfl .nil) rfl [] [] rfl rfl rfl rfl rfl ⟨rfl, rfl, rfl⟩
    ·
     refine gf rfl (dF c7) (gk (gs (rg (sv (EV.ld (v := .agg #[.int .i64 a0_0, .slice Al0_1 l0_1.length cl0_1, .slice Al0_2 l0_2.length cl0_2, .slice Al0_3 l0_3.length cl0_3, .int .i64 a0_4]) 0 (some 5) rfl rfl rfl) rfl ?_))))
     revert H; refine bdI ?_; rintro ⟨t8_0, t8_1, t8_2, t8_3, t8_4, t8_5, t8_6, t8_7, t8_8, t8_9, t8_10⟩ A8 H
     refine so rfl (op_call (spec_PartitionTask.ok k a0_0 l0_1 Al0_1 cl0_1 l0_2 Al0_2 cl0_2 l0_3 Al0_3 cl0_3 a0_4 _ _ _ _ _ _ _ _ _ _ _ A8) [⟨0, 0, 0, false⟩, ⟨1, 0, 0, false⟩, ⟨2, 0, 0, false⟩] 1 rfl rfl rfl rfl rfl ?_)
     rintro _ _ _ ⟨At8_1, ct8_1, At8_2, ct8_2, At8_3, ct8_3, At8_6, ct8_6, At8_7, ct8_7, At8_8, ct8_8, rfl, rfl, rfl⟩
     refine sv (EV.mv rfl) rfl (sv (EV.ex rfl rfl) rfl (sv (EV.ex rfl rfl) rfl (sv (EV.ex rfl rfl) rfl (so rfl (op_alloc (cs := [.int .i64 0, .slice none 0 0, .slice none 0 0, .slice none 0 0, .int .i64 0]) (by kernel_rfl) rfl fun b5 => (so rfl (op_alloc (cs := [.int .i64 0, .slice none 0 0, .slice none 0 0, .slice none 0 0, .int .i64 0]) (by kernel_rfl) rfl fun b6 => (so rfl (op_st (cs' := [.int .i64 t8_0, .slice At8_1 t8_1.length ct8_1, .slice At8_2 t8_2.length ct8_2, .slice At8_3 t8_3.length ct8_3, .int .i64 t8_4]) 1 rfl rfl rfl rfl rfl rfl (so rfl (op_st (cs' := [.int .i64 t8_5, .slice At8_6 t8_6.length ct8_6, .slice At8_7 t8_7.length ct8_7, .slice At8_8 t8_8.length ct8_8, .int .i64 t8_9]) 2 rfl rfl rfl rfl rfl rfl (sv (EV.as rfl) rfl (re (pr [1, 5, 6] [1, 2] [3, 4, 5, 6, 7, 8] rfl rfl rfl rfl (gs (dr [0, 1] [0, 1, 2, 3, 4, 5] [] 9 rfl rfl rfl rfl (xv 0 [0, 1] [0, 1, 2, 3, 4, 5] rfl (EV.ld (v := .agg #[.int .i64 t8_0, .slice At8_1 t8_1.length ct8_1, .slice At8_2 t8_2.length ct8_2, .slice At8_3 t8_3.length ct8_3, .int .i64 t8_4]) 0 (some 5) rfl rfl rfl) rfl rfl rfl rfl (xv 1 [0, 1] [0, 1, 2, 3, 4, 5] rfl (EV.mv rfl) rfl rfl rfl rfl (xv 3 [0, 1] [0, 1, 2, 3, 4, 5] rfl (EV.ld (v := .agg #[.int .i64 t8_5, .slice At8_6 t8_6.length ct8_6, .slice At8_7 t8_7.length ct8_7, .slice At8_8 t8_8.length ct8_8, .int .i64 t8_9]) 1 (some 5) rfl rfl rfl) rfl rfl rfl rfl (xv 4 [0, 1] [0, 1, 2, 3, 4, 5] rfl (EV.mv rfl) rfl rfl rfl rfl (one1 2 rfl rfl ?_)))))))))))))))))))))
     revert H; refine bdI ?_; rintro t9 A9 H
     refine op_call (ih t8_0 t8_1 At8_1 ct8_1 t8_2 At8_2 ct8_2 t8_3 At8_3 ct8_3 t8_4 a1 _ A9) [⟨0, 0, 0, false⟩, ⟨1, 0, 0, false⟩, ⟨2, 0, 0, false⟩] 8 rfl rfl rfl rfl rfl ?_
     rintro _ _ _ ⟨rfl, rfl, rfl⟩
     refine xs [0, 1] [0, 1, 2, 3, 4, 5] rfl rfl rfl (one1 5 rfl rfl ?_)
     revert H; refine bdI ?_; rintro t10 A10 H
     refine op_call (ih t8_5 t8_6 At8_6 ct8_6 t8_7 At8_7 ct8_7 t8_8 At8_8 ct8_8 t8_9 a1 _ A10) [⟨3, 0, 0, false⟩, ⟨4, 0, 0, false⟩, ⟨5, 0, 0, false⟩] 8 rfl rfl rfl rfl rfl ?_
     rintro _ _ _ ⟨rfl, rfl, rfl⟩
     refine xs [0, 1] [0, 1, 2, 3, 4, 5] rfl rfl rfl (xv 6 [0, 1] [0, 1, 2, 3, 4, 5] rfl (EV.mx rfl rfl) rfl rfl rfl rfl (xv 7 [0, 1] [0, 1, 2, 3, 4, 5] rfl (EV.add rfl rfl) rfl rfl rfl rfl (xv 8 [0, 1] [0, 1, 2, 3, 4, 5] rfl (EV.as rfl) rfl rfl rfl rfl (xd (pr [4] [] [] rfl rfl rfl rfl ?_)))))
     cases H
     exact rt Try.func49 rfl (.tmp rfl .nil) rfl [] [] rfl rfl rfl rfl rfl ⟨rfl, rfl, rfl⟩
 ·
  obtain rfl := bF c2
  refine ts 11 rfl rfl (sk rfl (sk rfl (sk rfl (sk rfl (sv (EV.pt rfl rfl rfl) rfl (sv (EV.mv rfl) rfl (sk rfl (sk rfl (sv (EV.pt rfl rfl rfl) rfl (sv (EV.mv rfl) rfl (sk rfl (sk rfl (sk rfl (sk rfl (sv (EV.pt rfl rfl rfl) rfl (re (pr [1, 2, 26] [0] [0, 1, 2] rfl rfl rfl rfl (gt rfl rfl (gs (rg (sv (EV.as rfl) rfl (re ?_))))))))))))))))))))))
  cases H
  exact rt Try.func49 rfl (.tmp rfl .nil) rfl [] [] rfl rfl rfl rfl rfl ⟨rfl, rfl, rfl⟩
end Go.Proofs.Ytajjeemkdjfilaa.K
namespace Go.Proofs.Ytajjeemkdjfilaa.K
open Go Go.RowKit
set_option linter.unusedVariables false
set_option linter.unusedSimpArgs false
def impl_TaskCost.f (k : Nat) (a0_0 : Int) (l0_1 : List S70) (l0_2 : List S70) (l0_3 : List Bool) (a0_4 : Int) : Option (Int) := (impl_TotalCost.f k l0_1).bind fun t1 => ((impl_TotalCost.f k l0_2).bind fun t2 => (some (wrap64 (t1 + t2))))
set_option maxHeartbeats 4000000 in
set_option maxRecDepth 100000 in
theorem impl_TaskCost.ok (k : Nat) (a0_0 : Int) (l0_1 : List S70) (Al0_1 : Option Addr) (cl0_1 : Nat) (l0_2 : List S70) (Al0_2 : Option Addr) (cl0_2 : Nat) (l0_3 : List Bool) (Al0_3 : Option Addr) (cl0_3 : Nat) (a0_4 : Int) (r0 : Int) (H : impl_TaskCost.f k a0_0 l0_1 l0_2 l0_3 a0_4 = some r0) : Fn Try.prog 50 [.agg #[.int .i64 a0_0, .slice Al0_1 l0_1.length cl0_1, .slice Al0_2 l0_2.length cl0_2, .slice Al0_3 l0_3.length cl0_3, .int .i64 a0_4]] [] [.sl 0 k70 Al0_1 cl0_1 l0_1 0 false, .sl 0 k70 Al0_2 cl0_2 l0_2 0 false, .sl 0 .bool Al0_3 cl0_3 l0_3 0 false] (fun v bx en => v = .int .i64 r0 ∧ bx = [] ∧ en = []) := by
 refine fn_ 10 Try.func50 rfl rfl rfl (fun base T w0 => ?_)
 rw [impl_TaskCost.f] at H
 refine gs (rg (so rfl (op_box (cs := [.int .i64 a0_0, .slice Al0_1 l0_1.length cl0_1, .slice Al0_2 l0_2.length cl0_2, .slice Al0_3 l0_3.length cl0_3, .int .i64 a0_4]) rfl rfl rfl fun b1 => (sv (EV.as rfl) rfl (re (gs (dr [0] [0, 1, 2] [] 8 rfl rfl rfl rfl (xv 0 [0] [0, 1, 2] rfl (EV.fa 1 rfl) rfl rfl rfl rfl (xv 1 [0] [0, 1, 2] rfl (EV.ld 0 none rfl rfl rfl) rfl rfl rfl rfl (xv 3 [0] [0, 1, 2] rfl (EV.fa 2 rfl) rfl rfl rfl rfl (xv 4 [0] [0, 1, 2] rfl (EV.ld 0 none rfl rfl rfl) rfl rfl rfl rfl (one1 2 rfl rfl ?_))))))))))))
 revert H; refine bdI ?_; rintro t1 A1 H
 refine op_call (impl_TotalCost.ok k l0_1 Al0_1 cl0_1 _ A1) [⟨0, 0, 0, false⟩] 1 rfl rfl rfl rfl rfl ?_
 rintro _ _ _ ⟨rfl, rfl, rfl⟩
 refine xs [0] [0, 1, 2] rfl rfl rfl (one1 5 rfl rfl ?_)
 revert H; refine bdI ?_; rintro t2 A2 H
 refine op_call (impl_TotalCost.ok k l0_2 Al0_2 cl0_2 _ A2) [⟨1, 0, 0, false⟩] 1 rfl rfl rfl rfl rfl ?_
 rintro _ _ _ ⟨rfl, rfl, rfl⟩
 refine xs [0] [0, 1, 2] rfl rfl rfl (xv 6 [0] [0, 1, 2] rfl (EV.add rfl rfl) rfl rfl rfl rfl (xv 7 [0] [0, 1, 2] rfl (EV.as rfl) rfl rfl rfl rfl (xd (pr [2] [] [] rfl rfl rfl rfl ?_))))
 cases H
 exact rt Try.func50 rfl (.tmp rfl .nil) rfl [] [] rfl rfl rfl rfl rfl ⟨rfl, rfl, rfl⟩
end Go.Proofs.Ytajjeemkdjfilaa.K
namespace Go.Proofs.Ytajjeemkdjfilaa.K
open Go Go.RowKit
set_option linter.unusedVariables false
set_option linter.unusedSimpArgs false
def spec_TaskCost.f (k : Nat) (a0_0 : Int) (l0_1 : List S70) (l0_2 : List S70) (l0_3 : List Bool) (a0_4 : Int) : Option (Int) := (spec_TotalCost.f k l0_1).bind fun t1 => ((spec_TotalCost.f k l0_2).bind fun t2 => (some (wrap64 (t1 + t2))))
set_option maxHeartbeats 4000000 in
set_option maxRecDepth 100000 in
theorem spec_TaskCost.ok (k : Nat) (a0_0 : Int) (l0_1 : List S70) (Al0_1 : Option Addr) (cl0_1 : Nat) (l0_2 : List S70) (Al0_2 : Option Addr) (cl0_2 : Nat) (l0_3 : List Bool) (Al0_3 : Option Addr) (cl0_3 : Nat) (a0_4 : Int) (r0 : Int) (H : spec_TaskCost.f k a0_0 l0_1 l0_2 l0_3 a0_4 = some r0) : Fn Try.prog 51 [.agg #[.int .i64 a0_0, .slice Al0_1 l0_1.length cl0_1, .slice Al0_2 l0_2.length cl0_2, .slice Al0_3 l0_3.length cl0_3, .int .i64 a0_4]] [] [.sl 0 k70 Al0_1 cl0_1 l0_1 0 false, .sl 0 k70 Al0_2 cl0_2 l0_2 0 false, .sl 0 .bool Al0_3 cl0_3 l0_3 0 false] (fun v bx en => v = .int .i64 r0 ∧ bx = [] ∧ en = []) := by
 refine fn_ 10 Try.func51 rfl rfl rfl (fun base T w0 => ?_)
 rw [spec_TaskCost.f] at H
 refine gs (rg (so rfl (op_box (cs := [.int .i64 a0_0, .slice Al0_1 l0_1.length cl0_1, .slice Al0_2 l0_2.length cl0_2, .slice Al0_3 l0_3.length cl0_3, .int .i64 a0_4]) rfl rfl rfl fun b1 => (sv (EV.as rfl) rfl (re (gs (dr [0] [0, 1, 2] [] 8 rfl rfl rfl rfl (xv 0 [0] [0, 1, 2] rfl (EV.fa 1 rfl) rfl rfl rfl rfl (xv 1 [0] [0, 1, 2] rfl (EV.ld 0 none rfl rfl rfl) rfl rfl rfl rfl (xv 3 [0] [0, 1, 2] rfl (EV.fa 2 rfl) rfl rfl rfl rfl (xv 4 [0] [0, 1, 2] rfl (EV.ld 0 none rfl rfl rfl) rfl rfl rfl rfl (one1 2 rfl rfl ?_))))))))))))
 revert H; refine bdI ?_; rintro t1 A1 H
 refine op_call (spec_TotalCost.ok k l0_1 Al0_1 cl0_1 _ A1) [⟨0, 0, 0, false⟩] 1 rfl rfl rfl rfl rfl ?_
 rintro _ _ _ ⟨rfl, rfl, rfl⟩
 refine xs [0] [0, 1, 2] rfl rfl rfl (one1 5 rfl rfl ?_)
 revert H; refine bdI ?_; rintro t2 A2 H
 refine op_call (spec_TotalCost.ok k l0_2 Al0_2 cl0_2 _ A2) [⟨1, 0, 0, false⟩] 1 rfl rfl rfl rfl rfl ?_
 rintro _ _ _ ⟨rfl, rfl, rfl⟩
 refine xs [0] [0, 1, 2] rfl rfl rfl (xv 6 [0] [0, 1, 2] rfl (EV.add rfl rfl) rfl rfl rfl rfl (xv 7 [0] [0, 1, 2] rfl (EV.as rfl) rfl rfl rfl rfl (xd (pr [2] [] [] rfl rfl rfl rfl ?_))))
 cases H
 exact rt Try.func51 rfl (.tmp rfl .nil) rfl [] [] rfl rfl rfl rfl rfl ⟨rfl, rfl, rfl⟩
end Go.Proofs.Ytajjeemkdjfilaa.K
namespace Go.Proofs.Ytajjeemkdjfilaa.K
open Go Go.RowKit
set_option linter.unusedVariables false
set_option linter.unusedSimpArgs false
def laws_big.f (l0 : List Int) : Option (Bool) := some (decide ((l0.length : Int) > 1048576))
set_option maxHeartbeats 4000000 in
set_option maxRecDepth 100000 in
theorem laws_big.ok (l0 : List Int) (Al0 : Option Addr) (cl0 : Nat) (r0 : Bool) (H : laws_big.f l0 = some r0) : Fn Try.prog 9 [.slice Al0 l0.length cl0] [] [.sl 0 (.int .u8) Al0 cl0 l0 0 false] (fun v bx en => v = .bool r0 ∧ bx = [] ∧ en = []) := by
 refine fn_ 6 Try.func9 rfl rfl rfl (fun base T w0 => ?_)
 rw [laws_big.f] at H
 refine gs (rg (sv (EV.as rfl) rfl (re (gs (rg (sv (EV.mv rfl) rfl (sv (EV.ln rfl) rfl (sv (EV.gtr rfl rfl) rfl (sv (EV.as rfl) rfl (re ?_))))))))))
 cases H
 exact rt Try.func9 rfl (.tmp rfl .nil) rfl [] [] rfl rfl rfl rfl rfl ⟨rfl, rfl, rfl⟩
end Go.Proofs.Ytajjeemkdjfilaa.K
namespace Go.Proofs.Ytajjeemkdjfilaa.K
open Go Go.RowKit
set_option linter.unusedVariables false
set_option linter.unusedSimpArgs false
def laws_FnPartitioning.f (k : Nat) (l0 : List Int) : Option (Bool) := (laws_big.f l0).bind fun t1 => (if t1 = true then (some true) else ((spec_DrawPartitionTask.f k l0).bind fun bt3 => ((impl_PartitionTask.f k bt3.1 bt3.2.1 bt3.2.2.1 bt3.2.2.2.1 bt3.2.2.2.2).bind fun bt4 => ((spec_PartitionTask.f k bt3.1 bt3.2.1 bt3.2.2.1 bt3.2.2.2.1 bt3.2.2.2.2).bind fun bt5 => ((spec_DrawNeedsNestedLoop.f k l0).bind fun bt6 => ((spec_DrawPartitionDepth.f k l0).bind fun bt7 => (if (bt4.2.2.2.2.2.2.2.2.2.2 == bt5.2.2.2.2.2.2.2.2.2.2) = true then ((spec_EqualTasks.f k bt4.1 bt4.2.1 bt4.2.2.1 bt4.2.2.2.1 bt4.2.2.2.2.1 bt5.1 bt5.2.1 bt5.2.2.1 bt5.2.2.2.1 bt5.2.2.2.2.1).bind fun t9 => (if t9 = true then ((spec_EqualTasks.f k bt4.2.2.2.2.2.1 bt4.2.2.2.2.2.2.1 bt4.2.2.2.2.2.2.2.1 bt4.2.2.2.2.2.2.2.2.1 bt4.2.2.2.2.2.2.2.2.2.1 bt5.2.2.2.2.2.1 bt5.2.2.2.2.2.2.1 bt5.2.2.2.2.2.2.2.1 bt5.2.2.2.2.2.2.2.2.1 bt5.2.2.2.2.2.2.2.2.2.1).bind fun t11 => (if t11 = true then ((impl_NeedsNestedLoop.f k bt6.1 bt6.2.1 bt6.2.2.1 bt6.2.2.2.1 bt6.2.2.2.2).bind fun t13 => ((spec_NeedsNestedLoop.f k bt6.1 bt6.2.1 bt6.2.2.1 bt6.2.2.2.1 bt6.2.2.2.2).bind fun t14 => (if (t13 == t14) = true then ((impl_PartitionDepth.f k bt7.1 bt7.2.1 bt7.2.2.1 bt7.2.2.2.1 bt7.2.2.2.2.1 bt7.2.2.2.2.2).bind fun t16 => ((spec_PartitionDepth.f k bt7.1 bt7.2.1 bt7.2.2.1 bt7.2.2.2.1 bt7.2.2.2.2.1 bt7.2.2.2.2.2).bind fun t17 => (if t16 = t17 then ((impl_PartitionDepth.f k bt7.1 bt7.2.1 bt7.2.2.1 bt7.2.2.2.1 bt7.2.2.2.2.1 bt7.2.2.2.2.2).bind fun t19 => (if t19 > 4 then (some false) else ((impl_TaskCost.f k bt3.1 bt3.2.1 bt3.2.2.1 bt3.2.2.2.1 bt3.2.2.2.2).bind fun t21 => ((spec_TaskCost.f k bt3.1 bt3.2.1 bt3.2.2.1 bt3.2.2.2.1 bt3.2.2.2.2).bind fun t22 => (if t21 = t22 then (if bt4.2.2.2.2.2.2.2.2.2.2 = true then ((spec_ReferenceJoin.f k bt3.1 bt3.2.1 bt3.2.2.1).bind fun t25 => ((spec_ReferenceJoin.f k bt3.1 bt4.2.1 bt4.2.2.1).bind fun t26 => ((spec_ReferenceJoin.f k bt3.1 bt4.2.2.2.2.2.2.1 bt4.2.2.2.2.2.2.2.1).bind fun t27 => ((impl_IsValidTask.f k bt4.1 bt4.2.1 bt4.2.2.1 bt4.2.2.2.1 bt4.2.2.2.2.1).bind fun t28 => (if t28 = true then ((impl_IsValidTask.f k bt4.2.2.2.2.2.1 bt4.2.2.2.2.2.2.1 bt4.2.2.2.2.2.2.2.1 bt4.2.2.2.2.2.2.2.2.1 bt4.2.2.2.2.2.2.2.2.2.1).bind fun t30 => (if t30 = true then ((impl_TaskCost.f k bt4.1 bt4.2.1 bt4.2.2.1 bt4.2.2.2.1 bt4.2.2.2.2.1).bind fun t32 => ((impl_TaskCost.f k bt4.2.2.2.2.2.1 bt4.2.2.2.2.2.2.1 bt4.2.2.2.2.2.2.2.1 bt4.2.2.2.2.2.2.2.2.1 bt4.2.2.2.2.2.2.2.2.2.1).bind fun t33 => ((impl_TaskCost.f k bt3.1 bt3.2.1 bt3.2.2.1 bt3.2.2.2.1 bt3.2.2.2.2).bind fun t34 => (if (wrap64 (t32 + t33)) = t34 then (if t26.length ≤ 2513169434916 then (if t26.length + t27.length ≤ 2513169434916 then ((spec_EqualPairBags.f k (t26 ++ t27) t25).bind fun t41 => (some t41)) else none) else none) else (some false))))) else (some false))) else (some false)))))) else (some (decide ((wrap64 ((wrap64 ((wrap64 ((bt4.2.1.length : Int) + (bt4.2.2.2.2.2.2.1.length : Int))) + (bt4.2.2.1.length : Int))) + (bt4.2.2.2.2.2.2.2.1.length : Int))) = 0)))) else (some false)))))) else (some false)))) else (some false)))) else (some false))) else (some false))) else (some false))))))))
set_option maxHeartbeats 4000000 in
set_option maxRecDepth 100000 in
theorem laws_FnPartitioning.ok (k : Nat) (l0 : List Int) (Al0 : Option Addr) (cl0 : Nat) (r0 : Bool) (H : laws_FnPartitioning.f k l0 = some r0) : Fn Try.prog 6 [.slice Al0 l0.length cl0] [] [.sl 0 (.int .u8) Al0 cl0 l0 0 false] (fun v bx en => v = .bool r0 ∧ bx = [] ∧ en = []) := by
 refine fn_ 147 Try.func6 rfl rfl rfl (fun base T w0 => ?_)
 rw [laws_FnPartitioning.f] at H
 refine gs (rg (sv (EV.as rfl) rfl (re (gs (gs (rg (sv (EV.mv rfl) rfl ?_)))))))
 revert H; refine bdI ?_; rintro t1 A1 H
 refine so rfl (op_call (laws_big.ok l0 Al0 cl0 _ A1) [⟨0, 0, 0, false⟩] 1 rfl rfl rfl rfl rfl ?_)
 rintro _ _ _ ⟨rfl, rfl, rfl⟩
 refine re ?_
 revert H; refine ifsI ?_ ?_ <;> intro c2 H
 ·
  subst c2
  refine gt rfl rfl (gs (rg (sv (EV.as rfl) rfl (re ?_))))
  cases H
  exact rt Try.func6 rfl (.tmp rfl .nil) rfl [] [] rfl rfl rfl rfl rfl ⟨rfl, rfl, rfl⟩
 ·
  obtain rfl := bF c2
  refine gf rfl rfl (gk (gs (rg (sv (EV.mv rfl) rfl ?_))))
  revert H; refine bdI ?_; rintro ⟨t3_0, t3_1, t3_2, t3_3, t3_4⟩ A3 H
  refine so rfl (op_call (spec_DrawPartitionTask.ok k l0 Al0 cl0 _ _ _ _ _ A3) [⟨0, 0, 0, false⟩] 1 rfl rfl rfl rfl rfl ?_)
  rintro _ _ _ ⟨At3_1, ct3_1, At3_2, ct3_2, At3_3, ct3_3, rfl, rfl, rfl⟩
  refine so rfl (op_alloc (cs := [.int .i64 0, .slice none 0 0, .slice none 0 0, .slice none 0 0, .int .i64 0]) (by kernel_rfl) rfl fun b3 => (so rfl (op_st (cs' := [.int .i64 t3_0, .slice At3_1 t3_1.length ct3_1, .slice At3_2 t3_2.length ct3_2, .slice At3_3 t3_3.length ct3_3, .int .i64 t3_4]) 0 rfl rfl rfl rfl rfl rfl (re (gs (rg (sv (EV.ld (v := .agg #[.int .i64 t3_0, .slice At3_1 t3_1.length ct3_1, .slice At3_2 t3_2.length ct3_2, .slice At3_3 t3_3.length ct3_3, .int .i64 t3_4]) 0 (some 5) rfl rfl rfl) rfl ?_)))))))
  revert H; refine bdI ?_; rintro ⟨t4_0, t4_1, t4_2, t4_3, t4_4, t4_5, t4_6, t4_7, t4_8, t4_9, t4_10⟩ A4 H
  refine so rfl (op_call (impl_PartitionTask.ok k t3_0 t3_1 At3_1 ct3_1 t3_2 At3_2 ct3_2 t3_3 At3_3 ct3_3 t3_4 _ _ _ _ _ _ _ _ _ _ _ A4) [⟨1, 0, 0, false⟩, ⟨2, 0, 0, false⟩, ⟨3, 0, 0, false⟩] 5 rfl rfl rfl rfl rfl ?_)
  rintro _ _ _ ⟨At4_1, ct4_1, At4_2, ct4_2, At4_3, ct4_3, At4_6, ct4_6, At4_7, ct4_7, At4_8, ct4_8, rfl, rfl, rfl⟩
  refine sv (EV.mv rfl) rfl (sv (EV.ex rfl rfl) rfl (sv (EV.ex rfl rfl) rfl (sv (EV.ex rfl rfl) rfl (so rfl (op_alloc (cs := [.int .i64 0, .slice none 0 0, .slice none 0 0, .slice none 0 0, .int .i64 0]) (by kernel_rfl) rfl fun b4 => (so rfl (op_alloc (cs := [.int .i64 0, .slice none 0 0, .slice none 0 0, .slice none 0 0, .int .i64 0]) (by kernel_rfl) rfl fun b5 => (so rfl (op_st (cs' := [.int .i64 t4_0, .slice At4_1 t4_1.length ct4_1, .slice At4_2 t4_2.length ct4_2, .slice At4_3 t4_3.length ct4_3, .int .i64 t4_4]) 1 rfl rfl rfl rfl rfl rfl (so rfl (op_st (cs' := [.int .i64 t4_5, .slice At4_6 t4_6.length ct4_6, .slice At4_7 t4_7.length ct4_7, .slice At4_8 t4_8.length ct4_8, .int .i64 t4_9]) 2 rfl rfl rfl rfl rfl rfl (sv (EV.as rfl) rfl (re (pr [0, 3, 4, 5, 6] [0, 1, 2] [0, 1, 2, 3, 4, 5, 6, 7, 8, 9] rfl rfl rfl rfl (gs (rg (sv (EV.ld (v := .agg #[.int .i64 t3_0, .slice At3_1 t3_1.length ct3_1, .slice At3_2 t3_2.length ct3_2, .slice At3_3 t3_3.length ct3_3, .int .i64 t3_4]) 0 (some 5) rfl rfl rfl) rfl ?_)))))))))))))))))
  revert H; refine bdI ?_; rintro ⟨t5_0, t5_1, t5_2, t5_3, t5_4, t5_5, t5_6, t5_7, t5_8, t5_9, t5_10⟩ A5 H
  refine so rfl (op_call (spec_PartitionTask.ok k t3_0 t3_1 At3_1 ct3_1 t3_2 At3_2 ct3_2 t3_3 At3_3 ct3_3 t3_4 _ _ _ _ _ _ _ _ _ _ _ A5) [⟨1, 0, 0, false⟩, ⟨2, 0, 0, false⟩, ⟨3, 0, 0, false⟩] 12 rfl rfl rfl rfl rfl ?_)
  rintro _ _ _ ⟨At5_1, ct5_1, At5_2, ct5_2, At5_3, ct5_3, At5_6, ct5_6, At5_7, ct5_7, At5_8, ct5_8, rfl, rfl, rfl⟩
  refine sv (EV.mv rfl) rfl (sv (EV.ex rfl rfl) rfl (sv (EV.ex rfl rfl) rfl (sv (EV.ex rfl rfl) rfl (so rfl (op_alloc (cs := [.int .i64 0, .slice none 0 0, .slice none 0 0, .slice none 0 0, .int .i64 0]) (by kernel_rfl) rfl fun b7 => (so rfl (op_alloc (cs := [.int .i64 0, .slice none 0 0, .slice none 0 0, .slice none 0 0, .int .i64 0]) (by kernel_rfl) rfl fun b8 => (so rfl (op_st (cs' := [.int .i64 t5_0, .slice At5_1 t5_1.length ct5_1, .slice At5_2 t5_2.length ct5_2, .slice At5_3 t5_3.length ct5_3, .int .i64 t5_4]) 3 rfl rfl rfl rfl rfl rfl (so rfl (op_st (cs' := [.int .i64 t5_5, .slice At5_6 t5_6.length ct5_6, .slice At5_7 t5_7.length ct5_7, .slice At5_8 t5_8.length ct5_8, .int .i64 t5_9]) 4 rfl rfl rfl rfl rfl rfl (sv (EV.as rfl) rfl (re (pr [0, 3, 4, 5, 6, 7, 8, 9] [0, 1, 2, 3, 4] [0, 1, 2, 3, 4, 5, 6, 7, 8, 9, 10, 11, 12, 13, 14, 15] rfl rfl rfl rfl (gs (rg (sv (EV.mv rfl) rfl ?_)))))))))))))))))
  revert H; refine bdI ?_; rintro ⟨t6_0, t6_1, t6_2, t6_3, t6_4⟩ A6 H
  refine so rfl (op_call (spec_DrawNeedsNestedLoop.ok k l0 Al0 cl0 _ _ _ _ _ A6) [⟨0, 0, 0, false⟩] 19 rfl rfl rfl rfl rfl ?_)
  rintro _ _ _ ⟨At6_1, ct6_1, At6_2, ct6_2, At6_3, ct6_3, rfl, rfl, rfl⟩
  refine so rfl (op_alloc (cs := [.int .i64 0, .slice none 0 0, .slice none 0 0, .slice none 0 0, .int .i64 0]) (by kernel_rfl) rfl fun b10 => (so rfl (op_st (cs' := [.int .i64 t6_0, .slice At6_1 t6_1.length ct6_1, .slice At6_2 t6_2.length ct6_2, .slice At6_3 t6_3.length ct6_3, .int .i64 t6_4]) 5 rfl rfl rfl rfl rfl rfl (re (gs (rg (sv (EV.mv rfl) rfl ?_)))))))
  revert H; refine bdI ?_; rintro ⟨t7_0, t7_1, t7_2, t7_3, t7_4, t7_5⟩ A7 H
  refine so rfl (op_call (spec_DrawPartitionDepth.ok k l0 Al0 cl0 _ _ _ _ _ _ A7) [⟨0, 0, 0, false⟩] 23 rfl rfl rfl rfl rfl ?_)
  rintro _ _ _ ⟨At7_1, ct7_1, At7_2, ct7_2, At7_3, ct7_3, rfl, rfl, rfl⟩
  refine sv (EV.mv rfl) rfl (sv (EV.ex rfl rfl) rfl (sv (EV.ex rfl rfl) rfl (so rfl (op_alloc (cs := [.int .i64 0, .slice none 0 0, .slice none 0 0, .slice none 0 0, .int .i64 0]) (by kernel_rfl) rfl fun b11 => (so rfl (op_st (cs' := [.int .i64 t7_0, .slice At7_1 t7_1.length ct7_1, .slice At7_2 t7_2.length ct7_2, .slice At7_3 t7_3.length ct7_3, .int .i64 t7_4]) 6 rfl rfl rfl rfl rfl rfl (sv (EV.as rfl) rfl (re (pr [3, 4, 5, 6, 7, 8, 9, 10, 11, 12] [0, 1, 2, 3, 4, 5, 6] [1, 2, 3, 4, 5, 6, 7, 8, 9, 10, 11, 12, 13, 14, 15, 16, 17, 18, 19, 20, 21] rfl rfl rfl rfl (gs (gs (dr [0, 1, 2, 3, 4, 5, 6] [0, 1, 2, 3, 4, 5, 6, 7, 8, 9, 10, 11, 12, 13, 14, 15, 16, 17, 18, 19, 20] [] 44 rfl rfl rfl rfl (xv 0 [0, 1, 2, 3, 4, 5, 6] [0, 1, 2, 3, 4, 5, 6, 7, 8, 9, 10, 11, 12, 13, 14, 15, 16, 17, 18, 19, 20] rfl (EV.mv rfl) rfl rfl rfl rfl (xv 1 [0, 1, 2, 3, 4, 5, 6] [0, 1, 2, 3, 4, 5, 6, 7, 8, 9, 10, 11, 12, 13, 14, 15, 16, 17, 18, 19, 20] rfl (EV.mv rfl) rfl rfl rfl rfl (xv 2 [0, 1, 2, 3, 4, 5, 6] [0, 1, 2, 3, 4, 5, 6, 7, 8, 9, 10, 11, 12, 13, 14, 15, 16, 17, 18, 19, 20] rfl (EV.neb rfl rfl) rfl rfl rfl rfl (xv 3 [0, 1, 2, 3, 4, 5, 6] [0, 1, 2, 3, 4, 5, 6, 7, 8, 9, 10, 11, 12, 13, 14, 15, 16, 17, 18, 19, 20] rfl (EV.mv rfl) rfl rfl rfl rfl ?_))))))))))))))))
  revert H; refine ifsI ?_ ?_ <;> intro c8 H
  ·
   refine ts 42 rfl (bN c8) (xv 4 [0, 1, 2, 3, 4, 5, 6] [0, 1, 2, 3, 4, 5, 6, 7, 8, 9, 10, 11, 12, 13, 14, 15, 16, 17, 18, 19, 20] rfl (EV.ld (v := .agg #[.int .i64 t4_0, .slice At4_1 t4_1.length ct4_1, .slice At4_2 t4_2.length ct4_2, .slice At4_3 t4_3.length ct4_3, .int .i64 t4_4]) 1 (some 5) rfl rfl rfl) rfl rfl rfl rfl (xv 5 [0, 1, 2, 3, 4, 5, 6] [0, 1, 2, 3, 4, 5, 6, 7, 8, 9, 10, 11, 12, 13, 14, 15, 16, 17, 18, 19, 20] rfl (EV.ld (v := .agg #[.int .i64 t5_0, .slice At5_1 t5_1.length ct5_1, .slice At5_2 t5_2.length ct5_2, .slice At5_3 t5_3.length ct5_3, .int .i64 t5_4]) 3 (some 5) rfl rfl rfl) rfl rfl rfl rfl (one1 6 rfl rfl ?_)))
   revert H; refine bdI ?_; rintro t9 A9 H
   refine op_call (spec_EqualTasks.ok k t4_0 t4_1 At4_1 ct4_1 t4_2 At4_2 ct4_2 t4_3 At4_3 ct4_3 t4_4 t5_0 t5_1 At5_1 ct5_1 t5_2 At5_2 ct5_2 t5_3 At5_3 ct5_3 t5_4 _ A9) [⟨3, 0, 0, false⟩, ⟨4, 0, 0, false⟩, ⟨5, 0, 0, false⟩, ⟨9, 0, 0, false⟩, ⟨10, 0, 0, false⟩, ⟨11, 0, 0, false⟩] 27 rfl rfl rfl rfl rfl ?_
   rintro _ _ _ ⟨rfl, rfl, rfl⟩
   refine xs [0, 1, 2, 3, 4, 5, 6] [0, 1, 2, 3, 4, 5, 6, 7, 8, 9, 10, 11, 12, 13, 14, 15, 16, 17, 18, 19, 20] rfl rfl rfl (xv 7 [0, 1, 2, 3, 4, 5, 6] [0, 1, 2, 3, 4, 5, 6, 7, 8, 9, 10, 11, 12, 13, 14, 15, 16, 17, 18, 19, 20] rfl (EV.nt rfl) rfl rfl rfl rfl (xv 8 [0, 1, 2, 3, 4, 5, 6] [0, 1, 2, 3, 4, 5, 6, 7, 8, 9, 10, 11, 12, 13, 14, 15, 16, 17, 18, 19, 20] rfl (EV.pf rfl rfl rfl) rfl rfl rfl rfl (xv 9 [0, 1, 2, 3, 4, 5, 6] [0, 1, 2, 3, 4, 5, 6, 7, 8, 9, 10, 11, 12, 13, 14, 15, 16, 17, 18, 19, 20] rfl (EV.mv rfl) rfl rfl rfl rfl ?_)))
   revert H; refine ifsI ?_ ?_ <;> intro c10 H
   ·
    subst c10
    refine ts 48 rfl rfl (xv 10 [0, 1, 2, 3, 4, 5, 6] [0, 1, 2, 3, 4, 5, 6, 7, 8, 9, 10, 11, 12, 13, 14, 15, 16, 17, 18, 19, 20] rfl (EV.ld (v := .agg #[.int .i64 t4_5, .slice At4_6 t4_6.length ct4_6, .slice At4_7 t4_7.length ct4_7, .slice At4_8 t4_8.length ct4_8, .int .i64 t4_9]) 2 (some 5) rfl rfl rfl) rfl rfl rfl rfl (xv 11 [0, 1, 2, 3, 4, 5, 6] [0, 1, 2, 3, 4, 5, 6, 7, 8, 9, 10, 11, 12, 13, 14, 15, 16, 17, 18, 19, 20] rfl (EV.ld (v := .agg #[.int .i64 t5_5, .slice At5_6 t5_6.length ct5_6, .slice At5_7 t5_7.length ct5_7, .slice At5_8 t5_8.length ct5_8, .int .i64 t5_9]) 4 (some 5) rfl rfl rfl) rfl rfl rfl rfl (one1 12 rfl rfl ?_)))
    revert H; refine bdI ?_; rintro t11 A11 H
    refine op_call (spec_EqualTasks.ok k t4_5 t4_6 At4_6 ct4_6 t4_7 At4_7 ct4_7 t4_8 At4_8 ct4_8 t4_9 t5_5 t5_6 At5_6 ct5_6 t5_7 At5_7 ct5_7 t5_8 At5_8 ct5_8 t5_9 _ A11) [⟨6, 0, 0, false⟩, ⟨7, 0, 0, false⟩, ⟨8, 0, 0, false⟩, ⟨12, 0, 0, false⟩, ⟨13, 0, 0, false⟩, ⟨14, 0, 0, false⟩] 27 rfl rfl rfl rfl rfl ?_
    rintro _ _ _ ⟨rfl, rfl, rfl⟩
    refine xs [0, 1, 2, 3, 4, 5, 6] [0, 1, 2, 3, 4, 5, 6, 7, 8, 9, 10, 11, 12, 13, 14, 15, 16, 17, 18, 19, 20] rfl rfl rfl (xv 13 [0, 1, 2, 3, 4, 5, 6] [0, 1, 2, 3, 4, 5, 6, 7, 8, 9, 10, 11, 12, 13, 14, 15, 16, 17, 18, 19, 20] rfl (EV.nt rfl) rfl rfl rfl rfl (xv 14 [0, 1, 2, 3, 4, 5, 6] [0, 1, 2, 3, 4, 5, 6, 7, 8, 9, 10, 11, 12, 13, 14, 15, 16, 17, 18, 19, 20] rfl (EV.pf rfl rfl rfl) rfl rfl rfl rfl (xv 15 [0, 1, 2, 3, 4, 5, 6] [0, 1, 2, 3, 4, 5, 6, 7, 8, 9, 10, 11, 12, 13, 14, 15, 16, 17, 18, 19, 20] rfl (EV.mv rfl) rfl rfl rfl rfl ?_)))
    revert H; refine ifsI ?_ ?_ <;> intro c12 H
    ·
     subst c12
     refine ts 54 rfl rfl (xv 16 [0, 1, 2, 3, 4, 5, 6] [0, 1, 2, 3, 4, 5, 6, 7, 8, 9, 10, 11, 12, 13, 14, 15, 16, 17, 18, 19, 20] rfl (EV.ld (v := .agg #[.int .i64 t6_0, .slice At6_1 t6_1.length ct6_1, .slice At6_2 t6_2.length ct6_2, .slice At6_3 t6_3.length ct6_3, .int .i64 t6_4]) 5 (some 5) rfl rfl rfl) rfl rfl rfl rfl (xv 18 [0, 1, 2, 3, 4, 5, 6] [0, 1, 2, 3, 4, 5, 6, 7, 8, 9, 10, 11, 12, 13, 14, 15, 16, 17, 18, 19, 20] rfl (EV.ld (v := .agg #[.int .i64 t6_0, .slice At6_1 t6_1.length ct6_1, .slice At6_2 t6_2.length ct6_2, .slice At6_3 t6_3.length ct6_3, .int .i64 t6_4]) 5 (some 5) rfl rfl rfl) rfl rfl rfl rfl (one1 17 rfl rfl ?_)))
     revert H; refine bdI ?_; rintro t13 A13 H
     refine op_call (impl_NeedsNestedLoop.ok k t6_0 t6_1 At6_1 ct6_1 t6_2 At6_2 ct6_2 t6_3 At6_3 ct6_3 t6_4 _ A13) [⟨15, 0, 0, false⟩, ⟨16, 0, 0, false⟩, ⟨17, 0, 0, false⟩] 27 rfl rfl rfl rfl rfl ?_
     rintro _ _ _ ⟨rfl, rfl, rfl⟩
     refine xs [0, 1, 2, 3, 4, 5, 6] [0, 1, 2, 3, 4, 5, 6, 7, 8, 9, 10, 11, 12, 13, 14, 15, 16, 17, 18, 19, 20] rfl rfl rfl (one1 19 rfl rfl ?_)
     revert H; refine bdI ?_; rintro t14 A14 H
     refine op_call (spec_NeedsNestedLoop.ok k t6_0 t6_1 At6_1 ct6_1 t6_2 At6_2 ct6_2 t6_3 At6_3 ct6_3 t6_4 _ A14) [⟨15, 0, 0, false⟩, ⟨16, 0, 0, false⟩, ⟨17, 0, 0, false⟩] 27 rfl rfl rfl rfl rfl ?_
     rintro _ _ _ ⟨rfl, rfl, rfl⟩
     refine xs [0, 1, 2, 3, 4, 5, 6] [0, 1, 2, 3, 4, 5, 6, 7, 8, 9, 10, 11, 12, 13, 14, 15, 16, 17, 18, 19, 20] rfl rfl rfl (xv 20 [0, 1, 2, 3, 4, 5, 6] [0, 1, 2, 3, 4, 5, 6, 7, 8, 9, 10, 11, 12, 13, 14, 15, 16, 17, 18, 19, 20] rfl (EV.neb rfl rfl) rfl rfl rfl rfl (xv 21 [0, 1, 2, 3, 4, 5, 6] [0, 1, 2, 3, 4, 5, 6, 7, 8, 9, 10, 11, 12, 13, 14, 15, 16, 17, 18, 19, 20] rfl (EV.pf rfl rfl rfl) rfl rfl rfl rfl (xv 22 [0, 1, 2, 3, 4, 5, 6] [0, 1, 2, 3, 4, 5, 6, 7, 8, 9, 10, 11, 12, 13, 14, 15, 16, 17, 18, 19, 20] rfl (EV.mv rfl) rfl rfl rfl rfl ?_)))
     revert H; refine ifsI ?_ ?_ <;> intro c15 H
     ·
      refine ts 61 rfl (bN c15) (xv 23 [0, 1, 2, 3, 4, 5, 6] [0, 1, 2, 3, 4, 5, 6, 7, 8, 9, 10, 11, 12, 13, 14, 15, 16, 17, 18, 19, 20] rfl (EV.ld (v := .agg #[.int .i64 t7_0, .slice At7_1 t7_1.length ct7_1, .slice At7_2 t7_2.length ct7_2, .slice At7_3 t7_3.length ct7_3, .int .i64 t7_4]) 6 (some 5) rfl rfl rfl) rfl rfl rfl rfl (xv 24 [0, 1, 2, 3, 4, 5, 6] [0, 1, 2, 3, 4, 5, 6, 7, 8, 9, 10, 11, 12, 13, 14, 15, 16, 17, 18, 19, 20] rfl (EV.mv rfl) rfl rfl rfl rfl (xv 26 [0, 1, 2, 3, 4, 5, 6] [0, 1, 2, 3, 4, 5, 6, 7, 8, 9, 10, 11, 12, 13, 14, 15, 16, 17, 18, 19, 20] rfl (EV.ld (v := .agg #[.int .i64 t7_0, .slice At7_1 t7_1.length ct7_1, .slice At7_2 t7_2.length ct7_2, .slice At7_3 t7_3.length ct7_3, .int .i64 t7_4]) 6 (some 5) rfl rfl rfl) rfl rfl rfl rfl (xv 27 [0, 1, 2, 3, 4, 5, 6] [0, 1, 2, 3, 4, 5, 6, 7, 8, 9, 10, 11, 12, 13, 14, 15, 16, 17, 18, 19, 20] rfl (EV.mv rfl) rfl rfl rfl rfl (one1 25 rfl rfl ?_)))))
      revert H; refine bdI ?_; rintro t16 A16 H
      refine op_call (impl_PartitionDepth.ok k t7_0 t7_1 At7_1 ct7_1 t7_2 At7_2 ct7_2 t7_3 At7_3 ct7_3 t7_4 t7_5 _ A16) [⟨18, 0, 0, false⟩, ⟨19, 0, 0, false⟩, ⟨20, 0, 0, false⟩] 27 rfl rfl rfl rfl rfl ?_
      rintro _ _ _ ⟨rfl, rfl, rfl⟩
      refine xs [0, 1, 2, 3, 4, 5, 6] [0, 1, 2, 3, 4, 5, 6, 7, 8, 9, 10, 11, 12, 13, 14, 15, 16, 17, 18, 19, 20] rfl rfl rfl (one1 28 rfl rfl ?_)
      revert H; refine bdI ?_; rintro t17 A17 H
      refine op_call (spec_PartitionDepth.ok k t7_0 t7_1 At7_1 ct7_1 t7_2 At7_2 ct7_2 t7_3 At7_3 ct7_3 t7_4 t7_5 _ A17) [⟨18, 0, 0, false⟩, ⟨19, 0, 0, false⟩, ⟨20, 0, 0, false⟩] 27 rfl rfl rfl rfl rfl ?_
      rintro _ _ _ ⟨rfl, rfl, rfl⟩
      refine xs [0, 1, 2, 3, 4, 5, 6] [0, 1, 2, 3, 4, 5, 6, 7, 8, 9, 10, 11, 12, 13, 14, 15, 16, 17, 18, 19, 20] rfl rfl rfl (xv 29 [0, 1, 2, 3, 4, 5, 6] [0, 1, 2, 3, 4, 5, 6, 7, 8, 9, 10, 11, 12, 13, 14, 15, 16, 17, 18, 19, 20] rfl (EV.neq rfl rfl) rfl rfl rfl rfl (xv 30 [0, 1, 2, 3, 4, 5, 6] [0, 1, 2, 3, 4, 5, 6, 7, 8, 9, 10, 11, 12, 13, 14, 15, 16, 17, 18, 19, 20] rfl (EV.pf rfl rfl rfl) rfl rfl rfl rfl (xv 31 [0, 1, 2, 3, 4, 5, 6] [0, 1, 2, 3, 4, 5, 6, 7, 8, 9, 10, 11, 12, 13, 14, 15, 16, 17, 18, 19, 20] rfl (EV.mv rfl) rfl rfl rfl rfl ?_)))
      revert H; refine ifsI ?_ ?_ <;> intro c18 H
      ·
       refine ts 70 rfl (nF c18) (xv 32 [0, 1, 2, 3, 4, 5, 6] [0, 1, 2, 3, 4, 5, 6, 7, 8, 9, 10, 11, 12, 13, 14, 15, 16, 17, 18, 19, 20] rfl (EV.ld (v := .agg #[.int .i64 t7_0, .slice At7_1 t7_1.length ct7_1, .slice At7_2 t7_2.length ct7_2, .slice At7_3 t7_3.length ct7_3, .int .i64 t7_4]) 6 (some 5) rfl rfl rfl) rfl rfl rfl rfl (xv 33 [0, 1, 2, 3, 4, 5, 6] [0, 1, 2, 3, 4, 5, 6, 7, 8, 9, 10, 11, 12, 13, 14, 15, 16, 17, 18, 19, 20] rfl (EV.mv rfl) rfl rfl rfl rfl (one1 34 rfl rfl ?_)))
       revert H; refine bdI ?_; rintro t19 A19 H
       refine op_call (impl_PartitionDepth.ok k t7_0 t7_1 At7_1 ct7_1 t7_2 At7_2 ct7_2 t7_3 At7_3 ct7_3 t7_4 t7_5 _ A19) [⟨18, 0, 0, false⟩, ⟨19, 0, 0, false⟩, ⟨20, 0, 0, false⟩] 27 rfl rfl rfl rfl rfl ?_
       rintro _ _ _ ⟨rfl, rfl, rfl⟩
       refine xs [0, 1, 2, 3, 4, 5, 6] [0, 1, 2, 3, 4, 5, 6, 7, 8, 9, 10, 11, 12, 13, 14, 15, 16, 17, 18, 19, 20] rfl rfl rfl (xv 35 [0, 1, 2, 3, 4, 5, 6] [0, 1, 2, 3, 4, 5, 6, 7, 8, 9, 10, 11, 12, 13, 14, 15, 16, 17, 18, 19, 20] rfl (EV.gtr rfl rfl) rfl rfl rfl rfl (xv 36 [0, 1, 2, 3, 4, 5, 6] [0, 1, 2, 3, 4, 5, 6, 7, 8, 9, 10, 11, 12, 13, 14, 15, 16, 17, 18, 19, 20] rfl (EV.pf rfl rfl rfl) rfl rfl rfl rfl (xv 37 [0, 1, 2, 3, 4, 5, 6] [0, 1, 2, 3, 4, 5, 6, 7, 8, 9, 10, 11, 12, 13, 14, 15, 16, 17, 18, 19, 20] rfl (EV.mv rfl) rfl rfl rfl rfl ?_)))
       revert H; refine ifsI ?_ ?_ <;> intro c20 H
       ·
        refine ts 76 rfl (dT c20) (xk 38 [0, 1, 2, 3, 4, 5, 6] [0, 1, 2, 3, 4, 5, 6, 7, 8, 9, 10, 11, 12, 13, 14, 15, 16, 17, 18, 19, 20] rfl rfl rfl rfl rfl (xk 40 [0, 1, 2, 3, 4, 5, 6] [0, 1, 2, 3, 4, 5, 6, 7, 8, 9, 10, 11, 12, 13, 14, 15, 16, 17, 18, 19, 20] rfl rfl rfl rfl rfl (xk 39 [0, 1, 2, 3, 4, 5, 6] [0, 1, 2, 3, 4, 5, 6, 7, 8, 9, 10, 11, 12, 13, 14, 15, 16, 17, 18, 19, 20] rfl rfl rfl rfl rfl (xk 41 [0, 1, 2, 3, 4, 5, 6] [0, 1, 2, 3, 4, 5, 6, 7, 8, 9, 10, 11, 12, 13, 14, 15, 16, 17, 18, 19, 20] rfl rfl rfl rfl rfl (xk 42 [0, 1, 2, 3, 4, 5, 6] [0, 1, 2, 3, 4, 5, 6, 7, 8, 9, 10, 11, 12, 13, 14, 15, 16, 17, 18, 19, 20] rfl rfl rfl rfl rfl (xv 43 [0, 1, 2, 3, 4, 5, 6] [0, 1, 2, 3, 4, 5, 6, 7, 8, 9, 10, 11, 12, 13, 14, 15, 16, 17, 18, 19, 20] rfl (EV.pt rfl rfl rfl) rfl rfl rfl rfl (xd (pr [3, 4, 5, 6, 82] [0, 1, 2] [0, 1, 2, 3, 4, 5, 6, 7, 8] rfl rfl rfl rfl (gt rfl rfl (gs (rg (sv (EV.as rfl) rfl (re ?_)))))))))))))
        cases H
        exact rt Try.func6 rfl (.tmp rfl .nil) rfl [] [] rfl rfl rfl rfl rfl ⟨rfl, rfl, rfl⟩
       ·
        refine ts 76 rfl (dF c20) (xv 38 [0, 1, 2, 3, 4, 5, 6] [0, 1, 2, 3, 4, 5, 6, 7, 8, 9, 10, 11, 12, 13, 14, 15, 16, 17, 18, 19, 20] rfl (EV.ld (v := .agg #[.int .i64 t3_0, .slice At3_1 t3_1.length ct3_1, .slice At3_2 t3_2.length ct3_2, .slice At3_3 t3_3.length ct3_3, .int .i64 t3_4]) 0 (some 5) rfl rfl rfl) rfl rfl rfl rfl (xv 40 [0, 1, 2, 3, 4, 5, 6] [0, 1, 2, 3, 4, 5, 6, 7, 8, 9, 10, 11, 12, 13, 14, 15, 16, 17, 18, 19, 20] rfl (EV.ld (v := .agg #[.int .i64 t3_0, .slice At3_1 t3_1.length ct3_1, .slice At3_2 t3_2.length ct3_2, .slice At3_3 t3_3.length ct3_3, .int .i64 t3_4]) 0 (some 5) rfl rfl rfl) rfl rfl rfl rfl (one1 39 rfl rfl ?_)))
        revert H; refine bdI ?_; rintro t21 A21 H
        refine op_call (impl_TaskCost.ok k t3_0 t3_1 At3_1 ct3_1 t3_2 At3_2 ct3_2 t3_3 At3_3 ct3_3 t3_4 _ A21) [⟨0, 0, 0, false⟩, ⟨1, 0, 0, false⟩, ⟨2, 0, 0, false⟩] 27 rfl rfl rfl rfl rfl ?_
        rintro _ _ _ ⟨rfl, rfl, rfl⟩
        refine xs [0, 1, 2, 3, 4, 5, 6] [0, 1, 2, 3, 4, 5, 6, 7, 8, 9, 10, 11, 12, 13, 14, 15, 16, 17, 18, 19, 20] rfl rfl rfl (one1 41 rfl rfl ?_)
        revert H; refine bdI ?_; rintro t22 A22 H
        refine op_call (spec_TaskCost.ok k t3_0 t3_1 At3_1 ct3_1 t3_2 At3_2 ct3_2 t3_3 At3_3 ct3_3 t3_4 _ A22) [⟨0, 0, 0, false⟩, ⟨1, 0, 0, false⟩, ⟨2, 0, 0, false⟩] 27 rfl rfl rfl rfl rfl ?_
        rintro _ _ _ ⟨rfl, rfl, rfl⟩
        refine xs [0, 1, 2, 3, 4, 5, 6] [0, 1, 2, 3, 4, 5, 6, 7, 8, 9, 10, 11, 12, 13, 14, 15, 16, 17, 18, 19, 20] rfl rfl rfl (xv 42 [0, 1, 2, 3, 4, 5, 6] [0, 1, 2, 3, 4, 5, 6, 7, 8, 9, 10, 11, 12, 13, 14, 15, 16, 17, 18, 19, 20] rfl (EV.neq rfl rfl) rfl rfl rfl rfl (xv 43 [0, 1, 2, 3, 4, 5, 6] [0, 1, 2, 3, 4, 5, 6, 7, 8, 9, 10, 11, 12, 13, 14, 15, 16, 17, 18, 19, 20] rfl (EV.pf rfl rfl rfl) rfl rfl rfl rfl (xd (pr [3, 4, 5, 6, 82] [0, 1, 2] [0, 1, 2, 3, 4, 5, 6, 7, 8] rfl rfl rfl rfl ?_))))
        revert H; refine ifsI ?_ ?_ <;> intro c23 H
        ·
         refine gf rfl (nF c23) (gk (gs (gs (rg (sv (EV.mv rfl) rfl (sv (EV.nt rfl) rfl (re ?_)))))))
         revert H; refine ifsI ?_ ?_ <;> intro c24 H
         ·
          subst c24
          refine gf rfl rfl (gk (gs (rg (sv (EV.fa 0 rfl) rfl (sv (EV.ld 0 none rfl rfl rfl) rfl (sv (EV.fa 1 rfl) rfl (sv (EV.ld 0 none rfl rfl rfl) rfl (sv (EV.fa 2 rfl) rfl (sv (EV.ld 0 none rfl rfl rfl) rfl ?_)))))))))
          revert H; refine bdI ?_; rintro t25 A25 H
          refine so rfl (op_call (spec_ReferenceJoin.ok k t3_0 t3_1 At3_1 ct3_1 t3_2 At3_2 ct3_2 _ A25) [⟨0, 0, 0, false⟩, ⟨1, 0, 0, false⟩] 12 rfl rfl rfl rfl rfl ?_)
          rintro _ _ _ ⟨At25, ct25, rfl, rfl, rfl⟩
          refine sv (EV.as rfl) rfl (re (pr [3, 4, 5, 13] [0, 1, 2] [0, 1, 2, 3, 4, 5, 6, 7, 8, 9] rfl rfl rfl rfl (gs (rg (sv (EV.fa 0 rfl) rfl (sv (EV.ld 0 none rfl rfl rfl) rfl (sv (EV.fa 1 rfl) rfl (sv (EV.ld 1 none rfl rfl rfl) rfl (sv (EV.fa 2 rfl) rfl (sv (EV.ld 1 none rfl rfl rfl) rfl ?_))))))))))
          revert H; refine bdI ?_; rintro t26 A26 H
          refine so rfl (op_call (spec_ReferenceJoin.ok k t3_0 t4_1 At4_1 ct4_1 t4_2 At4_2 ct4_2 _ A26) [⟨3, 0, 0, false⟩, ⟨4, 0, 0, false⟩] 14 rfl rfl rfl rfl rfl ?_)
          rintro _ _ _ ⟨At26, ct26, rfl, rfl, rfl⟩
          refine sv (EV.as rfl) rfl (re (pr [3, 4, 5, 13, 14] [0, 1, 2] [0, 1, 2, 3, 4, 5, 6, 7, 8, 9, 10] rfl rfl rfl rfl (gs (rg (sv (EV.fa 0 rfl) rfl (sv (EV.ld 0 none rfl rfl rfl) rfl (sv (EV.fa 1 rfl) rfl (sv (EV.ld 2 none rfl rfl rfl) rfl (sv (EV.fa 2 rfl) rfl (sv (EV.ld 2 none rfl rfl rfl) rfl ?_))))))))))
          revert H; refine bdI ?_; rintro t27 A27 H
          refine so rfl (op_call (spec_ReferenceJoin.ok k t3_0 t4_6 At4_6 ct4_6 t4_7 At4_7 ct4_7 _ A27) [⟨6, 0, 0, false⟩, ⟨7, 0, 0, false⟩] 16 rfl rfl rfl rfl rfl ?_)
          rintro _ _ _ ⟨At27, ct27, rfl, rfl, rfl⟩
          refine sv (EV.as rfl) rfl (re (pr [3, 4, 5, 13, 14, 15] [0, 1, 2] [0, 1, 2, 3, 4, 5, 6, 7, 8, 9, 10, 11] rfl rfl rfl rfl (gs (dr [0, 1, 2] [0, 1, 2, 3, 4, 5, 6, 7, 8, 9, 10, 11] [1] 26 rfl rfl rfl rfl (xv 0 [0, 1, 2] [0, 1, 2, 3, 4, 5, 6, 7, 8, 9, 10, 11] rfl (EV.ld (v := .agg #[.int .i64 t4_0, .slice At4_1 t4_1.length ct4_1, .slice At4_2 t4_2.length ct4_2, .slice At4_3 t4_3.length ct4_3, .int .i64 t4_4]) 1 (some 5) rfl rfl rfl) rfl rfl rfl rfl (one1 1 rfl rfl ?_))))))
          revert H; refine bdI ?_; rintro t28 A28 H
          refine op_call (impl_IsValidTask.ok k t4_0 t4_1 At4_1 ct4_1 t4_2 At4_2 ct4_2 t4_3 At4_3 ct4_3 t4_4 _ A28) [⟨3, 0, 0, false⟩, ⟨4, 0, 0, false⟩, ⟨5, 0, 0, false⟩] 18 rfl rfl rfl rfl rfl ?_
          rintro _ _ _ ⟨rfl, rfl, rfl⟩
          refine xn rfl (xv 2 [0, 1, 2] [0, 1, 2, 3, 4, 5, 6, 7, 8, 9, 10, 11] rfl (EV.mv rfl) rfl rfl rfl rfl ?_)
          revert H; refine ifsI ?_ ?_ <;> intro c29 H
          ·
           subst c29
           refine ts 124 rfl rfl (xv 3 [0, 1, 2] [0, 1, 2, 3, 4, 5, 6, 7, 8, 9, 10, 11] rfl (EV.ld (v := .agg #[.int .i64 t4_5, .slice At4_6 t4_6.length ct4_6, .slice At4_7 t4_7.length ct4_7, .slice At4_8 t4_8.length ct4_8, .int .i64 t4_9]) 2 (some 5) rfl rfl rfl) rfl rfl rfl rfl (one1 4 rfl rfl ?_))
           revert H; refine bdI ?_; rintro t30 A30 H
           refine op_call (impl_IsValidTask.ok k t4_5 t4_6 At4_6 ct4_6 t4_7 At4_7 ct4_7 t4_8 At4_8 ct4_8 t4_9 _ A30) [⟨6, 0, 0, false⟩, ⟨7, 0, 0, false⟩, ⟨8, 0, 0, false⟩] 18 rfl rfl rfl rfl rfl ?_
           rintro _ _ _ ⟨rfl, rfl, rfl⟩
           refine xs [0, 1, 2] [0, 1, 2, 3, 4, 5, 6, 7, 8, 9, 10, 11] rfl rfl rfl (xv 5 [0, 1, 2] [0, 1, 2, 3, 4, 5, 6, 7, 8, 9, 10, 11] rfl (EV.pt rfl rfl rfl) rfl rfl rfl rfl (xv 6 [0, 1, 2] [0, 1, 2, 3, 4, 5, 6, 7, 8, 9, 10, 11] rfl (EV.mv rfl) rfl rfl rfl rfl ?_))
           revert H; refine ifsI ?_ ?_ <;> intro c31 H
           ·
            subst c31
            refine ts 128 rfl rfl (xv 7 [0, 1, 2] [0, 1, 2, 3, 4, 5, 6, 7, 8, 9, 10, 11] rfl (EV.ld (v := .agg #[.int .i64 t4_0, .slice At4_1 t4_1.length ct4_1, .slice At4_2 t4_2.length ct4_2, .slice At4_3 t4_3.length ct4_3, .int .i64 t4_4]) 1 (some 5) rfl rfl rfl) rfl rfl rfl rfl (xv 9 [0, 1, 2] [0, 1, 2, 3, 4, 5, 6, 7, 8, 9, 10, 11] rfl (EV.ld (v := .agg #[.int .i64 t4_5, .slice At4_6 t4_6.length ct4_6, .slice At4_7 t4_7.length ct4_7, .slice At4_8 t4_8.length ct4_8, .int .i64 t4_9]) 2 (some 5) rfl rfl rfl) rfl rfl rfl rfl (xv 12 [0, 1, 2] [0, 1, 2, 3, 4, 5, 6, 7, 8, 9, 10, 11] rfl (EV.ld (v := .agg #[.int .i64 t3_0, .slice At3_1 t3_1.length ct3_1, .slice At3_2 t3_2.length ct3_2, .slice At3_3 t3_3.length ct3_3, .int .i64 t3_4]) 0 (some 5) rfl rfl rfl) rfl rfl rfl rfl (one1 8 rfl rfl ?_))))
            revert H; refine bdI ?_; rintro t32 A32 H
            refine op_call (impl_TaskCost.ok k t4_0 t4_1 At4_1 ct4_1 t4_2 At4_2 ct4_2 t4_3 At4_3 ct4_3 t4_4 _ A32) [⟨3, 0, 0, false⟩, ⟨4, 0, 0, false⟩, ⟨5, 0, 0, false⟩] 18 rfl rfl rfl rfl rfl ?_
            rintro _ _ _ ⟨rfl, rfl, rfl⟩
            refine xs [0, 1, 2] [0, 1, 2, 3, 4, 5, 6, 7, 8, 9, 10, 11] rfl rfl rfl (one1 10 rfl rfl ?_)
            revert H; refine bdI ?_; rintro t33 A33 H
            refine op_call (impl_TaskCost.ok k t4_5 t4_6 At4_6 ct4_6 t4_7 At4_7 ct4_7 t4_8 At4_8 ct4_8 t4_9 _ A33) [⟨6, 0, 0, false⟩, ⟨7, 0, 0, false⟩, ⟨8, 0, 0, false⟩] 18 rfl rfl rfl rfl rfl ?_
            rintro _ _ _ ⟨rfl, rfl, rfl⟩
            refine xs [0, 1, 2] [0, 1, 2, 3, 4, 5, 6, 7, 8, 9, 10, 11] rfl rfl rfl (xv 11 [0, 1, 2] [0, 1, 2, 3, 4, 5, 6, 7, 8, 9, 10, 11] rfl (EV.add rfl rfl) rfl rfl rfl rfl (one1 13 rfl rfl ?_))
            revert H; refine bdI ?_; rintro t34 A34 H
            refine op_call (impl_TaskCost.ok k t3_0 t3_1 At3_1 ct3_1 t3_2 At3_2 ct3_2 t3_3 At3_3 ct3_3 t3_4 _ A34) [⟨0, 0, 0, false⟩, ⟨1, 0, 0, false⟩, ⟨2, 0, 0, false⟩] 18 rfl rfl rfl rfl rfl ?_
            rintro _ _ _ ⟨rfl, rfl, rfl⟩
            refine xs [0, 1, 2] [0, 1, 2, 3, 4, 5, 6, 7, 8, 9, 10, 11] rfl rfl rfl (xv 14 [0, 1, 2] [0, 1, 2, 3, 4, 5, 6, 7, 8, 9, 10, 11] rfl (EV.eql rfl rfl) rfl rfl rfl rfl (xv 15 [0, 1, 2] [0, 1, 2, 3, 4, 5, 6, 7, 8, 9, 10, 11] rfl (EV.pt rfl rfl rfl) rfl rfl rfl rfl (xv 16 [0, 1, 2] [0, 1, 2, 3, 4, 5, 6, 7, 8, 9, 10, 11] rfl (EV.mv rfl) rfl rfl rfl rfl ?_)))
            revert H; refine ifsI ?_ ?_ <;> intro c35 H
            ·
             refine ts 138 rfl (dT c35) (xv 18 [0, 1, 2] [0, 1, 2, 3, 4, 5, 6, 7, 8, 9, 10, 11] rfl (EV.mv rfl) rfl rfl rfl rfl (xv 20 [0, 1, 2] [0, 1, 2, 3, 4, 5, 6, 7, 8, 9, 10, 11] rfl (EV.mv rfl) rfl rfl rfl rfl (xv 22 [0, 1, 2] [0, 1, 2, 3, 4, 5, 6, 7, 8, 9, 10, 11] rfl (EV.mv rfl) rfl rfl rfl rfl (one1 17 rfl rfl (op_lit (s := 7) (by_ := 56) k92 ([] : List S92) [] [] 18 [] rfl rfl rfl rfl rfl rfl rfl rfl rfl rfl rfl rfl rfl dq rfl fun A139_36 c139_36 => (xs [0, 1, 2] [0, 1, 2, 3, 4, 5, 6, 7, 8, 9, 10, 11] rfl rfl rfl (one1 19 rfl rfl ?_)))))))
             revert H; refine ggI ?_; intro g37 H
             refine op_app (k := k92) (s := 7) (by_ := 56) 12 10 rfl rfl rfl rfl (ap0 g37 dq) (ap0n g37 dq) (.inl rfl) true (fun _ => .inl rfl) rfl rfl fun A141_38 c141_38 => (nmE (en := [.sl 2 k70 At3_1 ct3_1 t3_1 2 true, .sl 2 k70 At3_2 ct3_2 t3_2 3 true, .sl 2 .bool At3_3 ct3_3 t3_3 4 true, .sl 2 k70 At4_1 ct4_1 t4_1 6 true, .sl 2 k70 At4_2 ct4_2 t4_2 7 true, .sl 2 .bool At4_3 ct4_3 t4_3 8 true, .sl 2 k70 At4_6 ct4_6 t4_6 9 true, .sl 2 k70 At4_7 ct4_7 t4_7 10 true, .sl 2 .bool At4_8 ct4_8 t4_8 11 true, .sl 2 k92 At25 ct25 t25 13 true, .sl 2 k92 At26 ct26 t26 15 true, .sl 2 k92 At27 ct27 t27 17 true, .sl 2 k92 A141_38 c141_38 t26 18 true]) (by kernel_rfl) (xs [0, 1, 2] [0, 1, 2, 3, 4, 5, 6, 7, 8, 9, 10, 11] rfl rfl rfl (one1 21 rfl rfl ?_)))
             revert H; refine ggI ?_; intro g39 H
             refine op_app (k := k92) (s := 7) (by_ := 56) 12 11 rfl rfl rfl rfl (ap2 g39 dq) (ap2n g39 dq) (.inl rfl) true (fun _ => .inl rfl) rfl rfl fun A143_40 c143_40 => (nmE (en := [.sl 2 k70 At3_1 ct3_1 t3_1 2 true, .sl 2 k70 At3_2 ct3_2 t3_2 3 true, .sl 2 .bool At3_3 ct3_3 t3_3 4 true, .sl 2 k70 At4_1 ct4_1 t4_1 6 true, .sl 2 k70 At4_2 ct4_2 t4_2 7 true, .sl 2 .bool At4_3 ct4_3 t4_3 8 true, .sl 2 k70 At4_6 ct4_6 t4_6 9 true, .sl 2 k70 At4_7 ct4_7 t4_7 10 true, .sl 2 .bool At4_8 ct4_8 t4_8 11 true, .sl 2 k92 At25 ct25 t25 13 true, .sl 2 k92 At26 ct26 t26 15 true, .sl 2 k92 At27 ct27 t27 17 true, .sl 2 k92 A143_40 c143_40 (t26 ++ t27) 18 true]) (by kernel_rfl) (xs [0, 1, 2] [0, 1, 2, 3, 4, 5, 6, 7, 8, 9, 10, 11] rfl rfl rfl (one1 23 rfl rfl ?_)))
             revert H; refine bdI ?_; rintro t41 A41 H
             refine op_call (spec_EqualPairBags.ok k (t26 ++ t27) A143_40 c143_40 t25 At25 ct25 _ A41) [⟨12, 0, 0, false⟩, ⟨9, 0, 0, false⟩] 19 rfl rfl rfl rfl rfl ?_
             rintro _ _ _ ⟨rfl, rfl, rfl⟩
             refine xs [0, 1, 2] [0, 1, 2, 3, 4, 5, 6, 7, 8, 9, 10, 11] rfl rfl rfl (xv 24 [0, 1, 2] [0, 1, 2, 3, 4, 5, 6, 7, 8, 9, 10, 11] rfl (EV.pt rfl rfl rfl) rfl rfl rfl rfl (xv 25 [0, 1, 2] [0, 1, 2, 3, 4, 5, 6, 7, 8, 9, 10, 11] rfl (EV.as rfl) rfl rfl rfl rfl (xd (pr [2] [] [] rfl rfl rfl rfl ?_))))
             cases H
             exact rt Try.func6 rfl (.tmp rfl .nil) rfl [] [] rfl rfl rfl rfl rfl ⟨rfl, rfl, rfl⟩
            ·
             refine ts 138 rfl (dF c35) (xk 18 [0, 1, 2] [0, 1, 2, 3, 4, 5, 6, 7, 8, 9, 10, 11] rfl rfl rfl rfl rfl (xk 20 [0, 1, 2] [0, 1, 2, 3, 4, 5, 6, 7, 8, 9, 10, 11] rfl rfl rfl rfl rfl (xk 22 [0, 1, 2] [0, 1, 2, 3, 4, 5, 6, 7, 8, 9, 10, 11] rfl rfl rfl rfl rfl (xk 17 [0, 1, 2] [0, 1, 2, 3, 4, 5, 6, 7, 8, 9, 10, 11] rfl rfl rfl rfl rfl (xk 19 [0, 1, 2] [0, 1, 2, 3, 4, 5, 6, 7, 8, 9, 10, 11] rfl rfl rfl rfl rfl (xk 21 [0, 1, 2] [0, 1, 2, 3, 4, 5, 6, 7, 8, 9, 10, 11] rfl rfl rfl rfl rfl (xk 23 [0, 1, 2] [0, 1, 2, 3, 4, 5, 6, 7, 8, 9, 10, 11] rfl rfl rfl rfl rfl (xv 24 [0, 1, 2] [0, 1, 2, 3, 4, 5, 6, 7, 8, 9, 10, 11] rfl (EV.pf rfl rfl rfl) rfl rfl rfl rfl (xv 25 [0, 1, 2] [0, 1, 2, 3, 4, 5, 6, 7, 8, 9, 10, 11] rfl (EV.as rfl) rfl rfl rfl rfl (xd (pr [2] [] [] rfl rfl rfl rfl ?_)))))))))))
             cases H
             exact rt Try.func6 rfl (.tmp rfl .nil) rfl [] [] rfl rfl rfl rfl rfl ⟨rfl, rfl, rfl⟩
           ·
            obtain rfl := bF c31
            refine ts 128 rfl rfl (xk 7 [0, 1, 2] [0, 1, 2, 3, 4, 5, 6, 7, 8, 9, 10, 11] rfl rfl rfl rfl rfl (xk 9 [0, 1, 2] [0, 1, 2, 3, 4, 5, 6, 7, 8, 9, 10, 11] rfl rfl rfl rfl rfl (xk 12 [0, 1, 2] [0, 1, 2, 3, 4, 5, 6, 7, 8, 9, 10, 11] rfl rfl rfl rfl rfl (xk 8 [0, 1, 2] [0, 1, 2, 3, 4, 5, 6, 7, 8, 9, 10, 11] rfl rfl rfl rfl rfl (xk 10 [0, 1, 2] [0, 1, 2, 3, 4, 5, 6, 7, 8, 9, 10, 11] rfl rfl rfl rfl rfl (xk 11 [0, 1, 2] [0, 1, 2, 3, 4, 5, 6, 7, 8, 9, 10, 11] rfl rfl rfl rfl rfl (xk 13 [0, 1, 2] [0, 1, 2, 3, 4, 5, 6, 7, 8, 9, 10, 11] rfl rfl rfl rfl rfl (xk 14 [0, 1, 2] [0, 1, 2, 3, 4, 5, 6, 7, 8, 9, 10, 11] rfl rfl rfl rfl rfl (xv 15 [0, 1, 2] [0, 1, 2, 3, 4, 5, 6, 7, 8, 9, 10, 11] rfl (EV.pf rfl rfl rfl) rfl rfl rfl rfl (xv 16 [0, 1, 2] [0, 1, 2, 3, 4, 5, 6, 7, 8, 9, 10, 11] rfl (EV.mv rfl) rfl rfl rfl rfl (xk 18 [0, 1, 2] [0, 1, 2, 3, 4, 5, 6, 7, 8, 9, 10, 11] rfl rfl rfl rfl rfl (xk 20 [0, 1, 2] [0, 1, 2, 3, 4, 5, 6, 7, 8, 9, 10, 11] rfl rfl rfl rfl rfl (xk 22 [0, 1, 2] [0, 1, 2, 3, 4, 5, 6, 7, 8, 9, 10, 11] rfl rfl rfl rfl rfl (xk 17 [0, 1, 2] [0, 1, 2, 3, 4, 5, 6, 7, 8, 9, 10, 11] rfl rfl rfl rfl rfl (xk 19 [0, 1, 2] [0, 1, 2, 3, 4, 5, 6, 7, 8, 9, 10, 11] rfl rfl rfl rfl rfl (xk 21 [0, 1, 2] [0, 1, 2, 3, 4, 5, 6, 7, 8, 9, 10, 11] rfl rfl rfl rfl rfl (xk 23 [0, 1, 2] [0, 1, 2, 3, 4, 5, 6, 7, 8, 9, 10, 11] rfl rfl rfl rfl rfl (xv 24 [0, 1, 2] [0, 1, 2, 3, 4, 5, 6, 7, 8, 9, 10, 11] rfl (EV.pf rfl rfl rfl) rfl rfl rfl rfl (xv 25 [0, 1, 2] [0, 1, 2, 3, 4, 5, 6, 7, 8, 9, 10, 11] rfl (EV.as rfl) rfl rfl rfl rfl (xd (pr [2] [] [] rfl rfl rfl rfl ?_)))))))))))))))))))))
            cases H
            exact rt Try.func6 rfl (.tmp rfl .nil) rfl [] [] rfl rfl rfl rfl rfl ⟨rfl, rfl, rfl⟩
          ·
           obtain rfl := bF c29
           refine ts 124 rfl rfl (xk 3 [0, 1, 2] [0, 1, 2, 3, 4, 5, 6, 7, 8, 9, 10, 11] rfl rfl rfl rfl rfl (xk 4 [0, 1, 2] [0, 1, 2, 3, 4, 5, 6, 7, 8, 9, 10, 11] rfl rfl rfl rfl rfl (xv 5 [0, 1, 2] [0, 1, 2, 3, 4, 5, 6, 7, 8, 9, 10, 11] rfl (EV.pf rfl rfl rfl) rfl rfl rfl rfl (xv 6 [0, 1, 2] [0, 1, 2, 3, 4, 5, 6, 7, 8, 9, 10, 11] rfl (EV.mv rfl) rfl rfl rfl rfl (xk 7 [0, 1, 2] [0, 1, 2, 3, 4, 5, 6, 7, 8, 9, 10, 11] rfl rfl rfl rfl rfl (xk 9 [0, 1, 2] [0, 1, 2, 3, 4, 5, 6, 7, 8, 9, 10, 11] rfl rfl rfl rfl rfl (xk 12 [0, 1, 2] [0, 1, 2, 3, 4, 5, 6, 7, 8, 9, 10, 11] rfl rfl rfl rfl rfl (xk 8 [0, 1, 2] [0, 1, 2, 3, 4, 5, 6, 7, 8, 9, 10, 11] rfl rfl rfl rfl rfl (xk 10 [0, 1, 2] [0, 1, 2, 3, 4, 5, 6, 7, 8, 9, 10, 11] rfl rfl rfl rfl rfl (xk 11 [0, 1, 2] [0, 1, 2, 3, 4, 5, 6, 7, 8, 9, 10, 11] rfl rfl rfl rfl rfl (xk 13 [0, 1, 2] [0, 1, 2, 3, 4, 5, 6, 7, 8, 9, 10, 11] rfl rfl rfl rfl rfl (xk 14 [0, 1, 2] [0, 1, 2, 3, 4, 5, 6, 7, 8, 9, 10, 11] rfl rfl rfl rfl rfl (xv 15 [0, 1, 2] [0, 1, 2, 3, 4, 5, 6, 7, 8, 9, 10, 11] rfl (EV.pf rfl rfl rfl) rfl rfl rfl rfl (xv 16 [0, 1, 2] [0, 1, 2, 3, 4, 5, 6, 7, 8, 9, 10, 11] rfl (EV.mv rfl) rfl rfl rfl rfl (xk 18 [0, 1, 2] [0, 1, 2, 3, 4, 5, 6, 7, 8, 9, 10, 11] rfl rfl rfl rfl rfl (xk 20 [0, 1, 2] [0, 1, 2, 3, 4, 5, 6, 7, 8, 9, 10, 11] rfl rfl rfl rfl rfl (xk 22 [0, 1, 2] [0, 1, 2, 3, 4, 5, 6, 7, 8, 9, 10, 11] rfl rfl rfl rfl rfl (xk 17 [0, 1, 2] [0, 1, 2, 3, 4, 5, 6, 7, 8, 9, 10, 11] rfl rfl rfl rfl rfl (xk 19 [0, 1, 2] [0, 1, 2, 3, 4, 5, 6, 7, 8, 9, 10, 11] rfl rfl rfl rfl rfl (xk 21 [0, 1, 2] [0, 1, 2, 3, 4, 5, 6, 7, 8, 9, 10, 11] rfl rfl rfl rfl rfl (xk 23 [0, 1, 2] [0, 1, 2, 3, 4, 5, 6, 7, 8, 9, 10, 11] rfl rfl rfl rfl rfl (xv 24 [0, 1, 2] [0, 1, 2, 3, 4, 5, 6, 7, 8, 9, 10, 11] rfl (EV.pf rfl rfl rfl) rfl rfl rfl rfl (xv 25 [0, 1, 2] [0, 1, 2, 3, 4, 5, 6, 7, 8, 9, 10, 11] rfl (EV.as rfl) rfl rfl rfl rfl (xd (pr [2] [] [] rfl rfl rfl rfl ?_)))))))))))))))))))))))))
           cases H
           exact rt Try.func6 rfl (.tmp rfl .nil) rfl [] [] rfl rfl rfl rfl rfl ⟨rfl, rfl, rfl⟩
         ·
          obtain rfl := bF c24
          refine gt rfl rfl (gs (rg (sv (EV.fa 1 rfl) rfl (sv (EV.ld 1 none rfl rfl rfl) rfl (sv (EV.ln rfl) rfl (sv (EV.fa 1 rfl) rfl (sv (EV.ld 2 none rfl rfl rfl) rfl (sv (EV.ln rfl) rfl (sv (EV.add rfl rfl) rfl (sv (EV.fa 2 rfl) rfl (sv (EV.ld 1 none rfl rfl rfl) rfl (sv (EV.ln rfl) rfl (sv (EV.add rfl rfl) rfl (sv (EV.fa 2 rfl) rfl (sv (EV.ld 2 none rfl rfl rfl) rfl (sv (EV.ln rfl) rfl (sv (EV.add rfl rfl) rfl (sv (EV.eql rfl rfl) rfl (sv (EV.as rfl) rfl (re (pr [2] [] [] rfl rfl rfl rfl ?_)))))))))))))))))))))
          cases H
          exact rt Try.func6 rfl (.tmp rfl .nil) rfl [] [] rfl rfl rfl rfl rfl ⟨rfl, rfl, rfl⟩
        ·
         refine gt rfl (nT c23) (gs (rg (sv (EV.as rfl) rfl (re ?_))))
         cases H
         exact rt Try.func6 rfl (.tmp rfl .nil) rfl [] [] rfl rfl rfl rfl rfl ⟨rfl, rfl, rfl⟩
      ·
       refine ts 70 rfl (nT c18) (xk 32 [0, 1, 2, 3, 4, 5, 6] [0, 1, 2, 3, 4, 5, 6, 7, 8, 9, 10, 11, 12, 13, 14, 15, 16, 17, 18, 19, 20] rfl rfl rfl rfl rfl (xk 33 [0, 1, 2, 3, 4, 5, 6] [0, 1, 2, 3, 4, 5, 6, 7, 8, 9, 10, 11, 12, 13, 14, 15, 16, 17, 18, 19, 20] rfl rfl rfl rfl rfl (xk 34 [0, 1, 2, 3, 4, 5, 6] [0, 1, 2, 3, 4, 5, 6, 7, 8, 9, 10, 11, 12, 13, 14, 15, 16, 17, 18, 19, 20] rfl rfl rfl rfl rfl (xk 35 [0, 1, 2, 3, 4, 5, 6] [0, 1, 2, 3, 4, 5, 6, 7, 8, 9, 10, 11, 12, 13, 14, 15, 16, 17, 18, 19, 20] rfl rfl rfl rfl rfl (xv 36 [0, 1, 2, 3, 4, 5, 6] [0, 1, 2, 3, 4, 5, 6, 7, 8, 9, 10, 11, 12, 13, 14, 15, 16, 17, 18, 19, 20] rfl (EV.pt rfl rfl rfl) rfl rfl rfl rfl (xv 37 [0, 1, 2, 3, 4, 5, 6] [0, 1, 2, 3, 4, 5, 6, 7, 8, 9, 10, 11, 12, 13, 14, 15, 16, 17, 18, 19, 20] rfl (EV.mv rfl) rfl rfl rfl rfl (xk 38 [0, 1, 2, 3, 4, 5, 6] [0, 1, 2, 3, 4, 5, 6, 7, 8, 9, 10, 11, 12, 13, 14, 15, 16, 17, 18, 19, 20] rfl rfl rfl rfl rfl (xk 40 [0, 1, 2, 3, 4, 5, 6] [0, 1, 2, 3, 4, 5, 6, 7, 8, 9, 10, 11, 12, 13, 14, 15, 16, 17, 18, 19, 20] rfl rfl rfl rfl rfl (xk 39 [0, 1, 2, 3, 4, 5, 6] [0, 1, 2, 3, 4, 5, 6, 7, 8, 9, 10, 11, 12, 13, 14, 15, 16, 17, 18, 19, 20] rfl rfl rfl rfl rfl (xk 41 [0, 1, 2, 3, 4, 5, 6] [0, 1, 2, 3, 4, 5, 6, 7, 8, 9, 10, 11, 12, 13, 14, 15, 16, 17, 18, 19, 20] rfl rfl rfl rfl rfl (xk 42 [0, 1, 2, 3, 4, 5, 6] [0, 1, 2, 3, 4, 5, 6, 7, 8, 9, 10, 11, 12, 13, 14, 15, 16, 17, 18, 19, 20] rfl rfl rfl rfl rfl (xv 43 [0, 1, 2, 3, 4, 5, 6] [0, 1, 2, 3, 4, 5, 6, 7, 8, 9, 10, 11, 12, 13, 14, 15, 16, 17, 18, 19, 20] rfl (EV.pt rfl rfl rfl) rfl rfl rfl rfl (xd (pr [3, 4, 5, 6, 82] [0, 1, 2] [0, 1, 2, 3, 4, 5, 6, 7, 8] rfl rfl rfl rfl (gt rfl rfl (gs (rg (sv (EV.as rfl) rfl (re ?_)))))))))))))))))))
       cases H
       exact rt Try.func6 rfl (.tmp rfl .nil) rfl [] [] rfl rfl rfl rfl rfl ⟨rfl, rfl, rfl⟩
     ·
      refine ts 61 rfl (bM c15) (xk 23 [0, 1, 2, 3, 4, 5, 6] [0, 1, 2, 3, 4, 5, 6, 7, 8, 9, 10, 11, 12, 13, 14, 15, 16, 17, 18, 19, 20] rfl rfl rfl rfl rfl (xk 24 [0, 1, 2, 3, 4, 5, 6] [0, 1, 2, 3, 4, 5, 6, 7, 8, 9, 10, 11, 12, 13, 14, 15, 16, 17, 18, 19, 20] rfl rfl rfl rfl rfl (xk 26 [0, 1, 2, 3, 4, 5, 6] [0, 1, 2, 3, 4, 5, 6, 7, 8, 9, 10, 11, 12, 13, 14, 15, 16, 17, 18, 19, 20] rfl rfl rfl rfl rfl (xk 27 [0, 1, 2, 3, 4, 5, 6] [0, 1, 2, 3, 4, 5, 6, 7, 8, 9, 10, 11, 12, 13, 14, 15, 16, 17, 18, 19, 20] rfl rfl rfl rfl rfl (xk 25 [0, 1, 2, 3, 4, 5, 6] [0, 1, 2, 3, 4, 5, 6, 7, 8, 9, 10, 11, 12, 13, 14, 15, 16, 17, 18, 19, 20] rfl rfl rfl rfl rfl (xk 28 [0, 1, 2, 3, 4, 5, 6] [0, 1, 2, 3, 4, 5, 6, 7, 8, 9, 10, 11, 12, 13, 14, 15, 16, 17, 18, 19, 20] rfl rfl rfl rfl rfl (xk 29 [0, 1, 2, 3, 4, 5, 6] [0, 1, 2, 3, 4, 5, 6, 7, 8, 9, 10, 11, 12, 13, 14, 15, 16, 17, 18, 19, 20] rfl rfl rfl rfl rfl (xv 30 [0, 1, 2, 3, 4, 5, 6] [0, 1, 2, 3, 4, 5, 6, 7, 8, 9, 10, 11, 12, 13, 14, 15, 16, 17, 18, 19, 20] rfl (EV.pt rfl rfl rfl) rfl rfl rfl rfl (xv 31 [0, 1, 2, 3, 4, 5, 6] [0, 1, 2, 3, 4, 5, 6, 7, 8, 9, 10, 11, 12, 13, 14, 15, 16, 17, 18, 19, 20] rfl (EV.mv rfl) rfl rfl rfl rfl (xk 32 [0, 1, 2, 3, 4, 5, 6] [0, 1, 2, 3, 4, 5, 6, 7, 8, 9, 10, 11, 12, 13, 14, 15, 16, 17, 18, 19, 20] rfl rfl rfl rfl rfl (xk 33 [0, 1, 2, 3, 4, 5, 6] [0, 1, 2, 3, 4, 5, 6, 7, 8, 9, 10, 11, 12, 13, 14, 15, 16, 17, 18, 19, 20] rfl rfl rfl rfl rfl (xk 34 [0, 1, 2, 3, 4, 5, 6] [0, 1, 2, 3, 4, 5, 6, 7, 8, 9, 10, 11, 12, 13, 14, 15, 16, 17, 18, 19, 20] rfl rfl rfl rfl rfl (xk 35 [0, 1, 2, 3, 4, 5, 6] [0, 1, 2, 3, 4, 5, 6, 7, 8, 9, 10, 11, 12, 13, 14, 15, 16, 17, 18, 19, 20] rfl rfl rfl rfl rfl (xv 36 [0, 1, 2, 3, 4, 5, 6] [0, 1, 2, 3, 4, 5, 6, 7, 8, 9, 10, 11, 12, 13, 14, 15, 16, 17, 18, 19, 20] rfl (EV.pt rfl rfl rfl) rfl rfl rfl rfl (xv 37 [0, 1, 2, 3, 4, 5, 6] [0, 1, 2, 3, 4, 5, 6, 7, 8, 9, 10, 11, 12, 13, 14, 15, 16, 17, 18, 19, 20] rfl (EV.mv rfl) rfl rfl rfl rfl (xk 38 [0, 1, 2, 3, 4, 5, 6] [0, 1, 2, 3, 4, 5, 6, 7, 8, 9, 10, 11, 12, 13, 14, 15, 16, 17, 18, 19, 20] rfl rfl rfl rfl rfl (xk 40 [0, 1, 2, 3, 4, 5, 6] [0, 1, 2, 3, 4, 5, 6, 7, 8, 9, 10, 11, 12, 13, 14, 15, 16, 17, 18, 19, 20] rfl rfl rfl rfl rfl (xk 39 [0, 1, 2, 3, 4, 5, 6] [0, 1, 2, 3, 4, 5, 6, 7, 8, 9, 10, 11, 12, 13, 14, 15, 16, 17, 18, 19, 20] rfl rfl rfl rfl rfl (xk 41 [0, 1, 2, 3, 4, 5, 6] [0, 1, 2, 3, 4, 5, 6, 7, 8, 9, 10, 11, 12, 13, 14, 15, 16, 17, 18, 19, 20] rfl rfl rfl rfl rfl (xk 42 [0, 1, 2, 3, 4, 5, 6] [0, 1, 2, 3, 4, 5, 6, 7, 8, 9, 10, 11, 12, 13, 14, 15, 16, 17, 18, 19, 20] rfl rfl rfl rfl rfl (xv 43 [0, 1, 2, 3, 4, 5, 6] [0, 1, 2, 3, 4, 5, 6, 7, 8, 9, 10, 11, 12, 13, 14, 15, 16, 17, 18, 19, 20] rfl (EV.pt rfl rfl rfl) rfl rfl rfl rfl (xd (pr [3, 4, 5, 6, 82] [0, 1, 2] [0, 1, 2, 3, 4, 5, 6, 7, 8] rfl rfl rfl rfl (gt rfl rfl (gs (rg (sv (EV.as rfl) rfl (re ?_))))))))))))))))))))))))))))
      cases H
      exact rt Try.func6 rfl (.tmp rfl .nil) rfl [] [] rfl rfl rfl rfl rfl ⟨rfl, rfl, rfl⟩
    ·
     obtain rfl := bF c12
     refine ts 54 rfl rfl (xk 16 [0, 1, 2, 3, 4, 5, 6] [0, 1, 2, 3, 4, 5, 6, 7, 8, 9, 10, 11, 12, 13, 14, 15, 16, 17, 18, 19, 20] rfl rfl rfl rfl rfl (xk 18 [0, 1, 2, 3, 4, 5, 6] [0, 1, 2, 3, 4, 5, 6, 7, 8, 9, 10, 11, 12, 13, 14, 15, 16, 17, 18, 19, 20] rfl rfl rfl rfl rfl (xk 17 [0, 1, 2, 3, 4, 5, 6] [0, 1, 2, 3, 4, 5, 6, 7, 8, 9, 10, 11, 12, 13, 14, 15, 16, 17, 18, 19, 20] rfl rfl rfl rfl rfl (xk 19 [0, 1, 2, 3, 4, 5, 6] [0, 1, 2, 3, 4, 5, 6, 7, 8, 9, 10, 11, 12, 13, 14, 15, 16, 17, 18, 19, 20] rfl rfl rfl rfl rfl (xk 20 [0, 1, 2, 3, 4, 5, 6] [0, 1, 2, 3, 4, 5, 6, 7, 8, 9, 10, 11, 12, 13, 14, 15, 16, 17, 18, 19, 20] rfl rfl rfl rfl rfl (xv 21 [0, 1, 2, 3, 4, 5, 6] [0, 1, 2, 3, 4, 5, 6, 7, 8, 9, 10, 11, 12, 13, 14, 15, 16, 17, 18, 19, 20] rfl (EV.pt rfl rfl rfl) rfl rfl rfl rfl (xv 22 [0, 1, 2, 3, 4, 5, 6] [0, 1, 2, 3, 4, 5, 6, 7, 8, 9, 10, 11, 12, 13, 14, 15, 16, 17, 18, 19, 20] rfl (EV.mv rfl) rfl rfl rfl rfl (xk 23 [0, 1, 2, 3, 4, 5, 6] [0, 1, 2, 3, 4, 5, 6, 7, 8, 9, 10, 11, 12, 13, 14, 15, 16, 17, 18, 19, 20] rfl rfl rfl rfl rfl (xk 24 [0, 1, 2, 3, 4, 5, 6] [0, 1, 2, 3, 4, 5, 6, 7, 8, 9, 10, 11, 12, 13, 14, 15, 16, 17, 18, 19, 20] rfl rfl rfl rfl rfl (xk 26 [0, 1, 2, 3, 4, 5, 6] [0, 1, 2, 3, 4, 5, 6, 7, 8, 9, 10, 11, 12, 13, 14, 15, 16, 17, 18, 19, 20] rfl rfl rfl rfl rfl (xk 27 [0, 1, 2, 3, 4, 5, 6] [0, 1, 2, 3, 4, 5, 6, 7, 8, 9, 10, 11, 12, 13, 14, 15, 16, 17, 18, 19, 20] rfl rfl rfl rfl rfl (xk 25 [0, 1, 2, 3, 4, 5, 6] [0, 1, 2, 3, 4, 5, 6, 7, 8, 9, 10, 11, 12, 13, 14, 15, 16, 17, 18, 19, 20] rfl rfl rfl rfl rfl (xk 28 [0, 1, 2, 3, 4, 5, 6] [0, 1, 2, 3, 4, 5, 6, 7, 8, 9, 10, 11, 12, 13, 14, 15, 16, 17, 18, 19, 20] rfl rfl rfl rfl rfl (xk 29 [0, 1, 2, 3, 4, 5, 6] [0, 1, 2, 3, 4, 5, 6, 7, 8, 9, 10, 11, 12, 13, 14, 15, 16, 17, 18, 19, 20] rfl rfl rfl rfl rfl (xv 30 [0, 1, 2, 3, 4, 5, 6] [0, 1, 2, 3, 4, 5, 6, 7, 8, 9, 10, 11, 12, 13, 14, 15, 16, 17, 18, 19, 20] rfl (EV.pt rfl rfl rfl) rfl rfl rfl rfl (xv 31 [0, 1, 2, 3, 4, 5, 6] [0, 1, 2, 3, 4, 5, 6, 7, 8, 9, 10, 11, 12, 13, 14, 15, 16, 17, 18, 19, 20] rfl (EV.mv rfl) rfl rfl rfl rfl (xk 32 [0, 1, 2, 3, 4, 5, 6] [0, 1, 2, 3, 4, 5, 6, 7, 8, 9, 10, 11, 12, 13, 14, 15, 16, 17, 18, 19, 20] rfl rfl rfl rfl rfl (xk 33 [0, 1, 2, 3, 4, 5, 6] [0, 1, 2, 3, 4, 5, 6, 7, 8, 9, 10, 11, 12, 13, 14, 15, 16, 17, 18, 19, 20] rfl rfl rfl rfl rfl (xk 34 [0, 1, 2, 3, 4, 5, 6] [0, 1, 2, 3, 4, 5, 6, 7, 8, 9, 10, 11, 12, 13, 14, 15, 16, 17, 18, 19, 20] rfl rfl rfl rfl rfl (xk 35 [0, 1, 2, 3, 4, 5, 6] [0, 1, 2, 3, 4, 5, 6, 7, 8, 9, 10, 11, 12, 13, 14, 15, 16, 17, 18, 19, 20] rfl rfl rfl rfl rfl (xv 36 [0, 1, 2, 3, 4, 5, 6] [0, 1, 2, 3, 4, 5, 6, 7, 8, 9, 10, 11, 12, 13, 14, 15, 16, 17, 18, 19, 20] rfl (EV.pt rfl rfl rfl) rfl rfl rfl rfl (xv 37 [0, 1, 2, 3, 4, 5, 6] [0, 1, 2, 3, 4, 5, 6, 7, 8, 9, 10, 11, 12, 13, 14, 15, 16, 17, 18, 19, 20] rfl (EV.mv rfl) rfl rfl rfl rfl (xk 38 [0, 1, 2, 3, 4, 5, 6] [0, 1, 2, 3, 4, 5, 6, 7, 8, 9, 10, 11, 12, 13, 14, 15, 16, 17, 18, 19, 20] rfl rfl rfl rfl rfl (xk 40 [0, 1, 2, 3, 4, 5, 6] [0, 1, 2, 3, 4, 5, 6, 7, 8, 9, 10, 11, 12, 13, 14, 15, 16, 17, 18, 19, 20] rfl rfl rfl rfl rfl (xk 39 [0, 1, 2, 3, 4, 5, 6] [0, 1, 2, 3, 4, 5, 6, 7, 8, 9, 10, 11, 12, 13, 14, 15, 16, 17, 18, 19, 20] rfl rfl rfl rfl rfl (xk 41 [0, 1, 2, 3, 4, 5, 6] [0, 1, 2, 3, 4, 5, 6, 7, 8, 9, 10, 11, 12, 13, 14, 15, 16, 17, 18, 19, 20] rfl rfl rfl rfl rfl (xk 42 [0, 1, 2, 3, 4, 5, 6] [0, 1, 2, 3, 4, 5, 6, 7, 8, 9, 10, 11, 12, 13, 14, 15, 16, 17, 18, 19, 20] rfl rfl rfl rfl rfl (xv 43 [0, 1, 2, 3, 4, 5, 6] [0, 1, 2, 3, 4, 5, 6, 7, 8, 9, 10, 11, 12, 13, 14, 15, 16, 17, 18, 19, 20] rfl (EV.pt rfl rfl rfl) rfl rfl rfl rfl (xd ?_)))))))))))))))))))))))))))))
     refine pr [3, 4, 5, 6, 82] [0, 1, 2] [0, 1, 2, 3, 4, 5, 6, 7, 8] rfl rfl rfl rfl (gt rfl rfl (gs (rg (sv (EV.as rfl) rfl (re ?_)))))
     cases H
     exact rt Try.func6 rfl (.tmp rfl .nil) rfl [] [] rfl rfl rfl rfl rfl ⟨rfl, rfl, rfl⟩
   ·
    obtain rfl := bF c10
    refine ts 48 rfl rfl (xk 10 [0, 1, 2, 3, 4, 5, 6] [0, 1, 2, 3, 4, 5, 6, 7, 8, 9, 10, 11, 12, 13, 14, 15, 16, 17, 18, 19, 20] rfl rfl rfl rfl rfl (xk 11 [0, 1, 2, 3, 4, 5, 6] [0, 1, 2, 3, 4, 5, 6, 7, 8, 9, 10, 11, 12, 13, 14, 15, 16, 17, 18, 19, 20] rfl rfl rfl rfl rfl (xk 12 [0, 1, 2, 3, 4, 5, 6] [0, 1, 2, 3, 4, 5, 6, 7, 8, 9, 10, 11, 12, 13, 14, 15, 16, 17, 18, 19, 20] rfl rfl rfl rfl rfl (xk 13 [0, 1, 2, 3, 4, 5, 6] [0, 1, 2, 3, 4, 5, 6, 7, 8, 9, 10, 11, 12, 13, 14, 15, 16, 17, 18, 19, 20] rfl rfl rfl rfl rfl (xv 14 [0, 1, 2, 3, 4, 5, 6] [0, 1, 2, 3, 4, 5, 6, 7, 8, 9, 10, 11, 12, 13, 14, 15, 16, 17, 18, 19, 20] rfl (EV.pt rfl rfl rfl) rfl rfl rfl rfl (xv 15 [0, 1, 2, 3, 4, 5, 6] [0, 1, 2, 3, 4, 5, 6, 7, 8, 9, 10, 11, 12, 13, 14, 15, 16, 17, 18, 19, 20] rfl (EV.mv rfl) rfl rfl rfl rfl (xk 16 [0, 1, 2, 3, 4, 5, 6] [0, 1, 2, 3, 4, 5, 6, 7, 8, 9, 10, 11, 12, 13, 14, 15, 16, 17, 18, 19, 20] rfl rfl rfl rfl rfl (xk 18 [0, 1, 2, 3, 4, 5, 6] [0, 1, 2, 3, 4, 5, 6, 7, 8, 9, 10, 11, 12, 13, 14, 15, 16, 17, 18, 19, 20] rfl rfl rfl rfl rfl (xk 17 [0, 1, 2, 3, 4, 5, 6] [0, 1, 2, 3, 4, 5, 6, 7, 8, 9, 10, 11, 12, 13, 14, 15, 16, 17, 18, 19, 20] rfl rfl rfl rfl rfl (xk 19 [0, 1, 2, 3, 4, 5, 6] [0, 1, 2, 3, 4, 5, 6, 7, 8, 9, 10, 11, 12, 13, 14, 15, 16, 17, 18, 19, 20] rfl rfl rfl rfl rfl (xk 20 [0, 1, 2, 3, 4, 5, 6] [0, 1, 2, 3, 4, 5, 6, 7, 8, 9, 10, 11, 12, 13, 14, 15, 16, 17, 18, 19, 20] rfl rfl rfl rfl rfl (xv 21 [0, 1, 2, 3, 4, 5, 6] [0, 1, 2, 3, 4, 5, 6, 7, 8, 9, 10, 11, 12, 13, 14, 15, 16, 17, 18, 19, 20] rfl (EV.pt rfl rfl rfl) rfl rfl rfl rfl (xv 22 [0, 1, 2, 3, 4, 5, 6] [0, 1, 2, 3, 4, 5, 6, 7, 8, 9, 10, 11, 12, 13, 14, 15, 16, 17, 18, 19, 20] rfl (EV.mv rfl) rfl rfl rfl rfl (xk 23 [0, 1, 2, 3, 4, 5, 6] [0, 1, 2, 3, 4, 5, 6, 7, 8, 9, 10, 11, 12, 13, 14, 15, 16, 17, 18, 19, 20] rfl rfl rfl rfl rfl (xk 24 [0, 1, 2, 3, 4, 5, 6] [0, 1, 2, 3, 4, 5, 6, 7, 8, 9, 10, 11, 12, 13, 14, 15, 16, 17, 18, 19, 20] rfl rfl rfl rfl rfl (xk 26 [0, 1, 2, 3, 4, 5, 6] [0, 1, 2, 3, 4, 5, 6, 7, 8, 9, 10, 11, 12, 13, 14, 15, 16, 17, 18, 19, 20] rfl rfl rfl rfl rfl (xk 27 [0, 1, 2, 3, 4, 5, 6] [0, 1, 2, 3, 4, 5, 6, 7, 8, 9, 10, 11, 12, 13, 14, 15, 16, 17, 18, 19, 20] rfl rfl rfl rfl rfl (xk 25 [0, 1, 2, 3, 4, 5, 6] [0, 1, 2, 3, 4, 5, 6, 7, 8, 9, 10, 11, 12, 13, 14, 15, 16, 17, 18, 19, 20] rfl rfl rfl rfl rfl (xk 28 [0, 1, 2, 3, 4, 5, 6] [0, 1, 2, 3, 4, 5, 6, 7, 8, 9, 10, 11, 12, 13, 14, 15, 16, 17, 18, 19, 20] rfl rfl rfl rfl rfl (xk 29 [0, 1, 2, 3, 4, 5, 6] [0, 1, 2, 3, 4, 5, 6, 7, 8, 9, 10, 11, 12, 13, 14, 15, 16, 17, 18, 19, 20] rfl rfl rfl rfl rfl (xv 30 [0, 1, 2, 3, 4, 5, 6] [0, 1, 2, 3, 4, 5, 6, 7, 8, 9, 10, 11, 12, 13, 14, 15, 16, 17, 18, 19, 20] rfl (EV.pt rfl rfl rfl) rfl rfl rfl rfl (xv 31 [0, 1, 2, 3, 4, 5, 6] [0, 1, 2, 3, 4, 5, 6, 7, 8, 9, 10, 11, 12, 13, 14, 15, 16, 17, 18, 19, 20] rfl (EV.mv rfl) rfl rfl rfl rfl (xk 32 [0, 1, 2, 3, 4, 5, 6] [0, 1, 2, 3, 4, 5, 6, 7, 8, 9, 10, 11, 12, 13, 14, 15, 16, 17, 18, 19, 20] rfl rfl rfl rfl rfl (xk 33 [0, 1, 2, 3, 4, 5, 6] [0, 1, 2, 3, 4, 5, 6, 7, 8, 9, 10, 11, 12, 13, 14, 15, 16, 17, 18, 19, 20] rfl rfl rfl rfl rfl (xk 34 [0, 1, 2, 3, 4, 5, 6] [0, 1, 2, 3, 4, 5, 6, 7, 8, 9, 10, 11, 12, 13, 14, 15, 16, 17, 18, 19, 20] rfl rfl rfl rfl rfl (xk 35 [0, 1, 2, 3, 4, 5, 6] [0, 1, 2, 3, 4, 5, 6, 7, 8, 9, 10, 11, 12, 13, 14, 15, 16, 17, 18, 19, 20] rfl rfl rfl rfl rfl (xv 36 [0, 1, 2, 3, 4, 5, 6] [0, 1, 2, 3, 4, 5, 6, 7, 8, 9, 10, 11, 12, 13, 14, 15, 16, 17, 18, 19, 20] rfl (EV.pt rfl rfl rfl) rfl rfl rfl rfl (xv 37 [0, 1, 2, 3, 4, 5, 6] [0, 1, 2, 3, 4, 5, 6, 7, 8, 9, 10, 11, 12, 13, 14, 15, 16, 17, 18, 19, 20] rfl (EV.mv rfl) rfl rfl rfl rfl (xk 38 [0, 1, 2, 3, 4, 5, 6] [0, 1, 2, 3, 4, 5, 6, 7, 8, 9, 10, 11, 12, 13, 14, 15, 16, 17, 18, 19, 20] rfl rfl rfl rfl rfl ?_)))))))))))))))))))))))))))))
    refine xk 40 [0, 1, 2, 3, 4, 5, 6] [0, 1, 2, 3, 4, 5, 6, 7, 8, 9, 10, 11, 12, 13, 14, 15, 16, 17, 18, 19, 20] rfl rfl rfl rfl rfl (xk 39 [0, 1, 2, 3, 4, 5, 6] [0, 1, 2, 3, 4, 5, 6, 7, 8, 9, 10, 11, 12, 13, 14, 15, 16, 17, 18, 19, 20] rfl rfl rfl rfl rfl (xk 41 [0, 1, 2, 3, 4, 5, 6] [0, 1, 2, 3, 4, 5, 6, 7, 8, 9, 10, 11, 12, 13, 14, 15, 16, 17, 18, 19, 20] rfl rfl rfl rfl rfl (xk 42 [0, 1, 2, 3, 4, 5, 6] [0, 1, 2, 3, 4, 5, 6, 7, 8, 9, 10, 11, 12, 13, 14, 15, 16, 17, 18, 19, 20] rfl rfl rfl rfl rfl (xv 43 [0, 1, 2, 3, 4, 5, 6] [0, 1, 2, 3, 4, 5, 6, 7, 8, 9, 10, 11, 12, 13, 14, 15, 16, 17, 18, 19, 20] rfl (EV.pt rfl rfl rfl) rfl rfl rfl rfl (xd (pr [3, 4, 5, 6, 82] [0, 1, 2] [0, 1, 2, 3, 4, 5, 6, 7, 8] rfl rfl rfl rfl (gt rfl rfl (gs (rg (sv (EV.as rfl) rfl (re ?_)))))))))))
    cases H
    exact rt Try.func6 rfl (.tmp rfl .nil) rfl [] [] rfl rfl rfl rfl rfl ⟨rfl, rfl, rfl⟩
  ·
   refine ts 42 rfl (bM c8) (xk 4 [0, 1, 2, 3, 4, 5, 6] [0, 1, 2, 3, 4, 5, 6, 7, 8, 9, 10, 11, 12, 13, 14, 15, 16, 17, 18, 19, 20] rfl rfl rfl rfl rfl (xk 5 [0, 1, 2, 3, 4, 5, 6] [0, 1, 2, 3, 4, 5, 6, 7, 8, 9, 10, 11, 12, 13, 14, 15, 16, 17, 18, 19, 20] rfl rfl rfl rfl rfl (xk 6 [0, 1, 2, 3, 4, 5, 6] [0, 1, 2, 3, 4, 5, 6, 7, 8, 9, 10, 11, 12, 13, 14, 15, 16, 17, 18, 19, 20] rfl rfl rfl rfl rfl (xk 7 [0, 1, 2, 3, 4, 5, 6] [0, 1, 2, 3, 4, 5, 6, 7, 8, 9, 10, 11, 12, 13, 14, 15, 16, 17, 18, 19, 20] rfl rfl rfl rfl rfl (xv 8 [0, 1, 2, 3, 4, 5, 6] [0, 1, 2, 3, 4, 5, 6, 7, 8, 9, 10, 11, 12, 13, 14, 15, 16, 17, 18, 19, 20] rfl (EV.pt rfl rfl rfl) rfl rfl rfl rfl (xv 9 [0, 1, 2, 3, 4, 5, 6] [0, 1, 2, 3, 4, 5, 6, 7, 8, 9, 10, 11, 12, 13, 14, 15, 16, 17, 18, 19, 20] rfl (EV.mv rfl) rfl rfl rfl rfl (xk 10 [0, 1, 2, 3, 4, 5, 6] [0, 1, 2, 3, 4, 5, 6, 7, 8, 9, 10, 11, 12, 13, 14, 15, 16, 17, 18, 19, 20] rfl rfl rfl rfl rfl (xk 11 [0, 1, 2, 3, 4, 5, 6] [0, 1, 2, 3, 4, 5, 6, 7, 8, 9, 10, 11, 12, 13, 14, 15, 16, 17, 18, 19, 20] rfl rfl rfl rfl rfl (xk 12 [0, 1, 2, 3, 4, 5, 6] [0, 1, 2, 3, 4, 5, 6, 7, 8, 9, 10, 11, 12, 13, 14, 15, 16, 17, 18, 19, 20] rfl rfl rfl rfl rfl (xk 13 [0, 1, 2, 3, 4, 5, 6] [0, 1, 2, 3, 4, 5, 6, 7, 8, 9, 10, 11, 12, 13, 14, 15, 16, 17, 18, 19, 20] rfl rfl rfl rfl rfl (xv 14 [0, 1, 2, 3, 4, 5, 6] [0, 1, 2, 3, 4, 5, 6, 7, 8, 9, 10, 11, 12, 13, 14, 15, 16, 17, 18, 19, 20] rfl (EV.pt rfl rfl rfl) rfl rfl rfl rfl (xv 15 [0, 1, 2, 3, 4, 5, 6] [0, 1, 2, 3, 4, 5, 6, 7, 8, 9, 10, 11, 12, 13, 14, 15, 16, 17, 18, 19, 20] rfl (EV.mv rfl) rfl rfl rfl rfl (xk 16 [0, 1, 2, 3, 4, 5, 6] [0, 1, 2, 3, 4, 5, 6, 7, 8, 9, 10, 11, 12, 13, 14, 15, 16, 17, 18, 19, 20] rfl rfl rfl rfl rfl (xk 18 [0, 1, 2, 3, 4, 5, 6] [0, 1, 2, 3, 4, 5, 6, 7, 8, 9, 10, 11, 12, 13, 14, 15, 16, 17, 18, 19, 20] rfl rfl rfl rfl rfl (xk 17 [0, 1, 2, 3, 4, 5, 6] [0, 1, 2, 3, 4, 5, 6, 7, 8, 9, 10, 11, 12, 13, 14, 15, 16, 17, 18, 19, 20] rfl rfl rfl rfl rfl (xk 19 [0, 1, 2, 3, 4, 5, 6] [0, 1, 2, 3, 4, 5, 6, 7, 8, 9, 10, 11, 12, 13, 14, 15, 16, 17, 18, 19, 20] rfl rfl rfl rfl rfl (xk 20 [0, 1, 2, 3, 4, 5, 6] [0, 1, 2, 3, 4, 5, 6, 7, 8, 9, 10, 11, 12, 13, 14, 15, 16, 17, 18, 19, 20] rfl rfl rfl rfl rfl (xv 21 [0, 1, 2, 3, 4, 5, 6] [0, 1, 2, 3, 4, 5, 6, 7, 8, 9, 10, 11, 12, 13, 14, 15, 16, 17, 18, 19, 20] rfl (EV.pt rfl rfl rfl) rfl rfl rfl rfl (xv 22 [0, 1, 2, 3, 4, 5, 6] [0, 1, 2, 3, 4, 5, 6, 7, 8, 9, 10, 11, 12, 13, 14, 15, 16, 17, 18, 19, 20] rfl (EV.mv rfl) rfl rfl rfl rfl (xk 23 [0, 1, 2, 3, 4, 5, 6] [0, 1, 2, 3, 4, 5, 6, 7, 8, 9, 10, 11, 12, 13, 14, 15, 16, 17, 18, 19, 20] rfl rfl rfl rfl rfl (xk 24 [0, 1, 2, 3, 4, 5, 6] [0, 1, 2, 3, 4, 5, 6, 7, 8, 9, 10, 11, 12, 13, 14, 15, 16, 17, 18, 19, 20] rfl rfl rfl rfl rfl (xk 26 [0, 1, 2, 3, 4, 5, 6] [0, 1, 2, 3, 4, 5, 6, 7, 8, 9, 10, 11, 12, 13, 14, 15, 16, 17, 18, 19, 20] rfl rfl rfl rfl rfl (xk 27 [0, 1, 2, 3, 4, 5, 6] [0, 1, 2, 3, 4, 5, 6, 7, 8, 9, 10, 11, 12, 13, 14, 15, 16, 17, 18, 19, 20] rfl rfl rfl rfl rfl (xk 25 [0, 1, 2, 3, 4, 5, 6] [0, 1, 2, 3, 4, 5, 6, 7, 8, 9, 10, 11, 12, 13, 14, 15, 16, 17, 18, 19, 20] rfl rfl rfl rfl rfl (xk 28 [0, 1, 2, 3, 4, 5, 6] [0, 1, 2, 3, 4, 5, 6, 7, 8, 9, 10, 11, 12, 13, 14, 15, 16, 17, 18, 19, 20] rfl rfl rfl rfl rfl (xk 29 [0, 1, 2, 3, 4, 5, 6] [0, 1, 2, 3, 4, 5, 6, 7, 8, 9, 10, 11, 12, 13, 14, 15, 16, 17, 18, 19, 20] rfl rfl rfl rfl rfl (xv 30 [0, 1, 2, 3, 4, 5, 6] [0, 1, 2, 3, 4, 5, 6, 7, 8, 9, 10, 11, 12, 13, 14, 15, 16, 17, 18, 19, 20] rfl (EV.pt rfl rfl rfl) rfl rfl rfl rfl (xv 31 [0, 1, 2, 3, 4, 5, 6] [0, 1, 2, 3, 4, 5, 6, 7, 8, 9, 10, 11, 12, 13, 14, 15, 16, 17, 18, 19, 20] rfl (EV.mv rfl) rfl rfl rfl rfl (xk 32 [0, 1, 2, 3, 4, 5, 6] [0, 1, 2, 3, 4, 5, 6, 7, 8, 9, 10, 11, 12, 13, 14, 15, 16, 17, 18, 19, 20] rfl rfl rfl rfl rfl ?_)))))))))))))))))))))))))))))
   refine xk 33 [0, 1, 2, 3, 4, 5, 6] [0, 1, 2, 3, 4, 5, 6, 7, 8, 9, 10, 11, 12, 13, 14, 15, 16, 17, 18, 19, 20] rfl rfl rfl rfl rfl (xk 34 [0, 1, 2, 3, 4, 5, 6] [0, 1, 2, 3, 4, 5, 6, 7, 8, 9, 10, 11, 12, 13, 14, 15, 16, 17, 18, 19, 20] rfl rfl rfl rfl rfl (xk 35 [0, 1, 2, 3, 4, 5, 6] [0, 1, 2, 3, 4, 5, 6, 7, 8, 9, 10, 11, 12, 13, 14, 15, 16, 17, 18, 19, 20] rfl rfl rfl rfl rfl (xv 36 [0, 1, 2, 3, 4, 5, 6] [0, 1, 2, 3, 4, 5, 6, 7, 8, 9, 10, 11, 12, 13, 14, 15, 16, 17, 18, 19, 20] rfl (EV.pt rfl rfl rfl) rfl rfl rfl rfl (xv 37 [0, 1, 2, 3, 4, 5, 6] [0, 1, 2, 3, 4, 5, 6, 7, 8, 9, 10, 11, 12, 13, 14, 15, 16, 17, 18, 19, 20] rfl (EV.mv rfl) rfl rfl rfl rfl (xk 38 [0, 1, 2, 3, 4, 5, 6] [0, 1, 2, 3, 4, 5, 6, 7, 8, 9, 10, 11, 12, 13, 14, 15, 16, 17, 18, 19, 20] rfl rfl rfl rfl rfl (xk 40 [0, 1, 2, 3, 4, 5, 6] [0, 1, 2, 3, 4, 5, 6, 7, 8, 9, 10, 11, 12, 13, 14, 15, 16, 17, 18, 19, 20] rfl rfl rfl rfl rfl (xk 39 [0, 1, 2, 3, 4, 5, 6] [0, 1, 2, 3, 4, 5, 6, 7, 8, 9, 10, 11, 12, 13, 14, 15, 16, 17, 18, 19, 20] rfl rfl rfl rfl rfl (xk 41 [0, 1, 2, 3, 4, 5, 6] [0, 1, 2, 3, 4, 5, 6, 7, 8, 9, 10, 11, 12, 13, 14, 15, 16, 17, 18, 19, 20] rfl rfl rfl rfl rfl (xk 42 [0, 1, 2, 3, 4, 5, 6] [0, 1, 2, 3, 4, 5, 6, 7, 8, 9, 10, 11, 12, 13, 14, 15, 16, 17, 18, 19, 20] rfl rfl rfl rfl rfl (xv 43 [0, 1, 2, 3, 4, 5, 6] [0, 1, 2, 3, 4, 5, 6, 7, 8, 9, 10, 11, 12, 13, 14, 15, 16, 17, 18, 19, 20] rfl (EV.pt rfl rfl rfl) rfl rfl rfl rfl (xd (pr [3, 4, 5, 6, 82] [0, 1, 2] [0, 1, 2, 3, 4, 5, 6, 7, 8] rfl rfl rfl rfl (gt rfl rfl (gs (rg (sv (EV.as rfl) rfl (re ?_)))))))))))))))))
   cases H
   exact rt Try.func6 rfl (.tmp rfl .nil) rfl [] [] rfl rfl rfl rfl rfl ⟨rfl, rfl, rfl⟩
end Go.Proofs.Ytajjeemkdjfilaa.K
