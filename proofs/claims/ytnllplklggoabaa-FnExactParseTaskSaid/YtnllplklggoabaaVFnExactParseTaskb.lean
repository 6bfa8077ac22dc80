/- Walks: what the functions compute. Printed by gen.py; no condition. -/
import Derived.Test.YtnllplklggoabaaVFnExactParseTaska
namespace Go.Proofs.Ytnllplklggoabaa.K
open Go Go.RowKit
set_option linter.unusedVariables false
set_option linter.unusedSimpArgs false
def laws_markTask.f (k : Nat) (a0_0 : Int) (l0_1 : List S124) (l0_2 : List S124) (l0_3 : List Bool) (a0_4 : Int) (a1 : Int) : Option (Int × (List S124) × (List S124) × (List Bool)) := (laws_markRowS.f k l0_1 a1).bind fun bt1 => ((laws_markRowS.f k l0_2 bt1.1).bind fun bt2 => ((laws_markBoolS.f k l0_3 bt2.1).bind fun bt3 => (some (bt3.1, bt1.2, bt2.2, bt3.2))))
set_option maxHeartbeats 4000000 in
set_option maxRecDepth 100000 in
theorem laws_markTask.ok (k : Nat) (a0_0 : Int) (l0_1 : List S124) (Al0_1 : Option Addr) (cl0_1 : Nat) (l0_2 : List S124) (Al0_2 : Option Addr) (cl0_2 : Nat) (l0_3 : List Bool) (Al0_3 : Option Addr) (cl0_3 : Nat) (a0_4 : Int) (a1 : Int) (r0 : Int) (r1 : List S124) (r2 : List S124) (r3 : List Bool) (H : laws_markTask.f k a0_0 l0_1 l0_2 l0_3 a0_4 a1 = some (r0, r1, r2, r3)) : Fn Try.prog 36 [.agg #[.int .i64 a0_0, .slice Al0_1 l0_1.length cl0_1, .slice Al0_2 l0_2.length cl0_2, .slice Al0_3 l0_3.length cl0_3, .int .i64 a0_4], .int .i64 a1] [] [.sl 1 k124 Al0_1 cl0_1 l0_1 1 false, .sl 1 k124 Al0_2 cl0_2 l0_2 2 false, .sl 1 .bool Al0_3 cl0_3 l0_3 3 false] (fun v bx en => v = .int .i64 r0 ∧ bx = [] ∧ en = [.sl 1 k124 Al0_1 cl0_1 r1 1 false, .sl 1 k124 Al0_2 cl0_2 r2 2 false, .sl 1 .bool Al0_3 cl0_3 r3 3 false] ∧ r1.length = l0_1.length ∧ r2.length = l0_2.length ∧ r3.length = l0_3.length) := by
 refine fn_ 18 Try.func36 rfl rfl rfl (fun base T w0 => ?_)
 rw [laws_markTask.f] at H
 refine gs (rg (so rfl (op_box (cs := [.int .i64 a0_0, .slice Al0_1 l0_1.length cl0_1, .slice Al0_2 l0_2.length cl0_2, .slice Al0_3 l0_3.length cl0_3, .int .i64 a0_4]) rfl rfl rfl fun b2 => (sv (EV.as rfl) rfl (re (gs (rg (sv (EV.fa 1 rfl) rfl (sv (EV.ld 0 none rfl rfl rfl) rfl (sv (EV.mv rfl) rfl ?_))))))))))
 revert H; refine bdI ?_; rintro ⟨t1_0, t1_1⟩ A1 H
 refine so rfl (op_callM (laws_markRowS.ok k l0_1 Al0_1 cl0_1 a1 _ _ A1) [⟨0, 1, 1, false⟩] [] [0] 4 rfl rfl rfl rfl rfl rfl rfl rfl ?_)
 rintro _ _ _ ⟨rfl, rfl, rfl, q1_0⟩
 refine rlT 0 (v' := .agg #[.int .i64 a0_0, .slice Al0_1 t1_1.length cl0_1, .slice Al0_2 l0_2.length cl0_2, .slice Al0_3 l0_3.length cl0_3, .int .i64 a0_4]) rfl (by simp only [q1_0]) (rlT 6 (v' := .slice Al0_1 t1_1.length cl0_1) rfl (slq _ _ q1_0) (rlB 0 (cs' := [.int .i64 a0_0, .slice Al0_1 t1_1.length cl0_1, .slice Al0_2 l0_2.length cl0_2, .slice Al0_3 l0_3.length cl0_3, .int .i64 a0_4]) rfl (by simp only [q1_0]) (nmE (en := [.sl 1 k124 Al0_2 cl0_2 l0_2 2 false, .sl 1 .bool Al0_3 cl0_3 l0_3 3 false, .sl 1 k124 Al0_1 cl0_1 t1_1 5 false]) (by kernel_rfl) (sv (EV.as rfl) rfl (re (pr [1, 2] [0] [0, 1, 2] rfl rfl rfl rfl (gs (rg (sv (EV.fa 2 rfl) rfl (sv (EV.ld 0 none rfl rfl rfl) rfl (sv (EV.mv rfl) rfl ?_)))))))))))
 revert H; refine bdI ?_; rintro ⟨t2_0, t2_1⟩ A2 H
 refine so rfl (op_callM (laws_markRowS.ok k l0_2 Al0_2 cl0_2 t1_0 _ _ A2) [⟨0, 1, 1, false⟩] [] [0] 6 rfl rfl rfl rfl rfl rfl rfl rfl ?_)
 rintro _ _ _ ⟨rfl, rfl, rfl, q2_0⟩
 refine rlT 10 (v' := .slice Al0_2 t2_1.length cl0_2) rfl (slq _ _ q2_0) (rlB 0 (cs' := [.int .i64 a0_0, .slice Al0_1 t1_1.length cl0_1, .slice Al0_2 t2_1.length cl0_2, .slice Al0_3 l0_3.length cl0_3, .int .i64 a0_4]) rfl (by simp only [q2_0]) (nmE (en := [.sl 1 .bool Al0_3 cl0_3 l0_3 3 false, .sl 1 k124 Al0_1 cl0_1 t1_1 5 false, .sl 1 k124 Al0_2 cl0_2 t2_1 7 false]) (by kernel_rfl) (sv (EV.as rfl) rfl (re (gs (rg (sv (EV.fa 3 rfl) rfl (sv (EV.ld 0 none rfl rfl rfl) rfl (sv (EV.mv rfl) rfl ?_)))))))))
 revert H; refine bdI ?_; rintro ⟨t3_0, t3_1⟩ A3 H
 refine so rfl (op_callM (laws_markBoolS.ok k l0_3 Al0_3 cl0_3 t2_0 _ _ A3) [⟨0, 1, 1, false⟩] [] [0] 8 rfl rfl rfl rfl rfl rfl rfl rfl ?_)
 rintro _ _ _ ⟨rfl, rfl, rfl, q3_0⟩
 refine rlT 14 (v' := .slice Al0_3 t3_1.length cl0_3) rfl (slq _ _ q3_0) (rlB 0 (cs' := [.int .i64 a0_0, .slice Al0_1 t1_1.length cl0_1, .slice Al0_2 t2_1.length cl0_2, .slice Al0_3 t3_1.length cl0_3, .int .i64 a0_4]) rfl (by simp only [q3_0]) (nmE (en := [.sl 1 k124 Al0_1 cl0_1 t1_1 5 false, .sl 1 k124 Al0_2 cl0_2 t2_1 7 false, .sl 1 .bool Al0_3 cl0_3 t3_1 9 false]) (by kernel_rfl) (sv (EV.as rfl) rfl (re (pr [1] [] [0, 1, 2] rfl rfl rfl rfl (gs (rg (sv (EV.mv rfl) rfl (sv (EV.as rfl) rfl (re ?_))))))))))
 cases H
 exact rt Try.func36 rfl (.tmp rfl .nil) rfl [] [⟨0, 1, 1, false⟩, ⟨1, 1, 2, false⟩, ⟨2, 1, 3, false⟩] rfl rfl rfl rfl rfl ⟨rfl, rfl, rfl, by first | rfl | assumption | omega | (simp only [List.length_set]; first | done | assumption | omega), by first | rfl | assumption | omega | (simp only [List.length_set]; first | done | assumption | omega), by first | rfl | assumption | omega | (simp only [List.length_set]; first | done | assumption | omega)⟩
end Go.Proofs.Ytnllplklggoabaa.K
namespace Go.Proofs.Ytnllplklggoabaa.K
open Go Go.RowKit
set_option linter.unusedVariables false
set_option linter.unusedSimpArgs false
def laws_heldRowS.l0 : Nat → Int → Int → (List S124) → Option (Int)
 | 0, _, _, _ => none
 | k + 1, x2_1, x2_5, l0 => if x2_5 < (l0.length : Int) then (if 0 ≤ x2_5 then (if ((rd_T124 l0 x2_5).f0) = x2_1 then (if ((rd_T124 l0 x2_5).f1) = (wrap64 (x2_1 + 1)) then (if ((rd_T124 l0 x2_5).f2) = (wrap64 ((wrap64 (x2_1 + 1)) + 1)) then (laws_heldRowS.l0 k (wrap64 ((wrap64 ((wrap64 (x2_1 + 1)) + 1)) + 1)) (wrap64 (x2_5 + 1)) l0) else (some (-1))) else (some (-1))) else (some (-1))) else none) else (some x2_1)
def laws_heldRowS.f (k : Nat) (l0 : List S124) (a1 : Int) : Option (Int) := laws_heldRowS.l0 k a1 0 l0
set_option maxHeartbeats 4000000 in
set_option maxRecDepth 100000 in
theorem laws_heldRowS.ok (k : Nat) (l0 : List S124) (Al0 : Option Addr) (cl0 : Nat) (a1 : Int) (r0 : Int) (H : laws_heldRowS.f k l0 a1 = some r0) : Fn Try.prog 79 [.slice Al0 l0.length cl0, .int .i64 a1] [] [.sl 0 k124 Al0 cl0 l0 0 false] (fun v bx en => v = .int .i64 r0 ∧ bx = [] ∧ en = []) := by
 refine fn_ 40 Try.func79 rfl rfl rfl (fun base T w0 => ?_)
 rw [laws_heldRowS.f] at H
 refine gs (rg (sv (EV.as rfl) rfl (re (gs (gs (rg (sv (EV.as rfl) rfl (re (gb ?_)))))))))
 refine lo (fun kk S => ∃ (x2_1 : Int) (x2_5 : Int), laws_heldRowS.l0 kk x2_1 x2_5 l0 = some r0 ∧ S = ⟨[(0, .slice Al0 l0.length cl0), (1, .int .i64 x2_1), (5, .int .i64 x2_5)], [], [.sl 0 k124 Al0 cl0 l0 0 false]⟩) (fun S hS => ?_) (fun n0 ih0 S hS => ?_) ⟨a1, 0, H, rfl⟩ (fun h => wk [0, 1, 5] [] [⟨0, 0, 0, false⟩] h)
 · clear H; obtain ⟨_, _, H, _⟩ := hS; rw [laws_heldRowS.l0] at H; cases H
 clear H
 obtain ⟨x2_1, x2_5, H, rfl⟩ := hS
 rw [laws_heldRowS.l0] at H
 refine gs (gs (rg (sv (EV.mv rfl) rfl (sv (EV.mv rfl) rfl (sv (EV.ln rfl) rfl (sv (EV.lss rfl rfl) rfl (re ?_)))))))
 revert H; refine ifsI ?_ ?_ <;> intro c1 H
 ·
  refine gt rfl (dT c1) (gk (gs (gb (gs (gs (rg (sv (EV.mv rfl) rfl (sv (EV.mv rfl) rfl ?_))))))))
  revert H; refine ggI ?_; intro g2 H
  refine sv (EV.ix 0 rfl rfl rfl g2 c1 rfl) rfl (sv (EV.fa 0 rfl) rfl (sv (EV.le (v := .int .i64 ((rd_T124 l0 x2_5).f0)) x2_5 0 none 0 z124 rfl rfl rfl g2 c1 rfl rfl rfl) rfl (sv (EV.mv rfl) rfl (sv (EV.neq rfl rfl) rfl (re (pr [0, 1, 5, 18] [] [0] rfl rfl rfl rfl ?_))))))
  revert H; refine ifsI ?_ ?_ <;> intro c3 H
  ·
   refine gf rfl (nF c3) (gk (gs (rg (sv (EV.mv rfl) rfl (sv (EV.add rfl rfl) rfl (sv (EV.as rfl) rfl (re (gs (gs (rg (sv (EV.mv rfl) rfl (sv (EV.mv rfl) rfl (sv (EV.ix 0 rfl rfl rfl g2 c1 rfl) rfl (sv (EV.fa 1 rfl) rfl (sv (EV.le (v := .int .i64 ((rd_T124 l0 x2_5).f1)) x2_5 1 none 0 z124 rfl rfl rfl g2 c1 rfl rfl rfl) rfl (sv (EV.mv rfl) rfl (sv (EV.neq rfl rfl) rfl (re (pr [0, 1, 5, 27] [] [0] rfl rfl rfl rfl ?_)))))))))))))))))))
   revert H; refine ifsI ?_ ?_ <;> intro c4 H
   ·
    refine gf rfl (nF c4) (gk (gs (rg (sv (EV.mv rfl) rfl (sv (EV.add rfl rfl) rfl (sv (EV.as rfl) rfl (re (gs (gs (rg (sv (EV.mv rfl) rfl (sv (EV.mv rfl) rfl (sv (EV.ix 0 rfl rfl rfl g2 c1 rfl) rfl (sv (EV.fa 2 rfl) rfl (sv (EV.le (v := .int .i64 ((rd_T124 l0 x2_5).f2)) x2_5 2 none 0 z124 rfl rfl rfl g2 c1 rfl rfl rfl) rfl (sv (EV.mv rfl) rfl (sv (EV.neq rfl rfl) rfl (re (pr [0, 1, 5, 36] [] [0] rfl rfl rfl rfl ?_)))))))))))))))))))
    revert H; refine ifsI ?_ ?_ <;> intro c5 H
    ·
     exact gf rfl (nF c5) (gk (rg (sv (EV.mv rfl) rfl (sv (EV.add rfl rfl) rfl (sv (EV.as rfl) rfl (re (ge (rg (sv (EV.mv rfl) rfl (sv (EV.add rfl rfl) rfl (sv (EV.as rfl) rfl (re (wk [0, 1, 5] [] [⟨0, 0, 0, false⟩] (ih0 _ (by omega) _ ⟨wrap64 ((wrap64 ((wrap64 (x2_1 + 1)) + 1)) + 1), wrap64 (x2_5 + 1), H, rfl⟩))))))))))))))
    ·
     refine gt rfl (nT c5) (gs (rg (sv (EV.as rfl) rfl (re ?_))))
     cases H
     exact rt Try.func79 rfl (.tmp rfl .nil) rfl [] [] rfl rfl rfl rfl rfl ⟨rfl, rfl, rfl⟩
   ·
    refine gt rfl (nT c4) (gs (rg (sv (EV.as rfl) rfl (re ?_))))
    cases H
    exact rt Try.func79 rfl (.tmp rfl .nil) rfl [] [] rfl rfl rfl rfl rfl ⟨rfl, rfl, rfl⟩
  ·
   refine gt rfl (nT c3) (gs (rg (sv (EV.as rfl) rfl (re ?_))))
   cases H
   exact rt Try.func79 rfl (.tmp rfl .nil) rfl [] [] rfl rfl rfl rfl rfl ⟨rfl, rfl, rfl⟩
 ·
  refine gf rfl (dF c1) (gx rfl (gs (rg (sv (EV.mv rfl) rfl (sv (EV.as rfl) rfl (re (pr [4] [] [] rfl rfl rfl rfl ?_)))))))
  cases H
  exact rt Try.func79 rfl (.tmp rfl .nil) rfl [] [] rfl rfl rfl rfl rfl ⟨rfl, rfl, rfl⟩
end Go.Proofs.Ytnllplklggoabaa.K
namespace Go.Proofs.Ytnllplklggoabaa.K
open Go Go.RowKit
set_option linter.unusedVariables false
set_option linter.unusedSimpArgs false
def laws_heldBoolS.l0 : Nat → Int → Int → (List Bool) → Option (Int)
 | 0, _, _, _ => none
 | k + 1, x2_1, x2_5, l0 => if x2_5 < (l0.length : Int) then (if 0 ≤ x2_5 then (if ((rdOf false l0 x2_5) == (decide ((Int.tmod x2_1 3) = 0))) = true then (laws_heldBoolS.l0 k (wrap64 (x2_1 + 1)) (wrap64 (x2_5 + 1)) l0) else (some (-1))) else none) else (some x2_1)
def laws_heldBoolS.f (k : Nat) (l0 : List Bool) (a1 : Int) : Option (Int) := laws_heldBoolS.l0 k a1 0 l0
set_option maxHeartbeats 4000000 in
set_option maxRecDepth 100000 in
theorem laws_heldBoolS.ok (k : Nat) (l0 : List Bool) (Al0 : Option Addr) (cl0 : Nat) (a1 : Int) (r0 : Int) (H : laws_heldBoolS.f k l0 a1 = some r0) : Fn Try.prog 80 [.slice Al0 l0.length cl0, .int .i64 a1] [] [.sl 0 .bool Al0 cl0 l0 0 false] (fun v bx en => v = .int .i64 r0 ∧ bx = [] ∧ en = []) := by
 refine fn_ 23 Try.func80 rfl rfl rfl (fun base T w0 => ?_)
 rw [laws_heldBoolS.f] at H
 refine gs (rg (sv (EV.as rfl) rfl (re (gs (gs (rg (sv (EV.as rfl) rfl (re (gb ?_)))))))))
 refine lo (fun kk S => ∃ (x2_1 : Int) (x2_5 : Int), laws_heldBoolS.l0 kk x2_1 x2_5 l0 = some r0 ∧ S = ⟨[(0, .slice Al0 l0.length cl0), (1, .int .i64 x2_1), (5, .int .i64 x2_5)], [], [.sl 0 .bool Al0 cl0 l0 0 false]⟩) (fun S hS => ?_) (fun n0 ih0 S hS => ?_) ⟨a1, 0, H, rfl⟩ (fun h => wk [0, 1, 5] [] [⟨0, 0, 0, false⟩] h)
 · clear H; obtain ⟨_, _, H, _⟩ := hS; rw [laws_heldBoolS.l0] at H; cases H
 clear H
 obtain ⟨x2_1, x2_5, H, rfl⟩ := hS
 rw [laws_heldBoolS.l0] at H
 refine gs (gs (rg (sv (EV.mv rfl) rfl (sv (EV.mv rfl) rfl (sv (EV.ln rfl) rfl (sv (EV.lss rfl rfl) rfl (re ?_)))))))
 revert H; refine ifsI ?_ ?_ <;> intro c1 H
 ·
  refine gt rfl (dT c1) (gk (gs (gb (gs (gs (rg (sv (EV.mv rfl) rfl (sv (EV.mv rfl) rfl ?_))))))))
  revert H; refine ggI ?_; intro g2 H
  refine sv (EV.ix 0 rfl rfl rfl g2 c1 rfl) rfl (sv (EV.le (v := .bool (rdOf false l0 x2_5)) x2_5 0 none 0 false rfl rfl rfl g2 c1 rfl rfl rfl) rfl (sv (EV.mv rfl) rfl (sv (EV.rem rfl rfl dq) rfl (sv (EV.eql rfl rfl) rfl (sv (EV.neb rfl rfl) rfl (re (pr [0, 1, 5, 19] [] [0] rfl rfl rfl rfl ?_)))))))
  revert H; refine ifsI ?_ ?_ <;> intro c3 H
  ·
   exact gf rfl (bN c3) (gk (rg (sv (EV.mv rfl) rfl (sv (EV.add rfl rfl) rfl (sv (EV.as rfl) rfl (re (ge (rg (sv (EV.mv rfl) rfl (sv (EV.add rfl rfl) rfl (sv (EV.as rfl) rfl (re (wk [0, 1, 5] [] [⟨0, 0, 0, false⟩] (ih0 _ (by omega) _ ⟨wrap64 (x2_1 + 1), wrap64 (x2_5 + 1), H, rfl⟩))))))))))))))
  ·
   refine gt rfl (bM c3) (gs (rg (sv (EV.as rfl) rfl (re ?_))))
   cases H
   exact rt Try.func80 rfl (.tmp rfl .nil) rfl [] [] rfl rfl rfl rfl rfl ⟨rfl, rfl, rfl⟩
 ·
  refine gf rfl (dF c1) (gx rfl (gs (rg (sv (EV.mv rfl) rfl (sv (EV.as rfl) rfl (re (pr [4] [] [] rfl rfl rfl rfl ?_)))))))
  cases H
  exact rt Try.func80 rfl (.tmp rfl .nil) rfl [] [] rfl rfl rfl rfl rfl ⟨rfl, rfl, rfl⟩
end Go.Proofs.Ytnllplklggoabaa.K
namespace Go.Proofs.Ytnllplklggoabaa.K
open Go Go.RowKit
set_option linter.unusedVariables false
set_option linter.unusedSimpArgs false
def laws_heldTask.f (k : Nat) (a0_0 : Int) (l0_1 : List S124) (l0_2 : List S124) (l0_3 : List Bool) (a0_4 : Int) (a1 : Int) : Option (Int) := (laws_heldRowS.f k l0_1 a1).bind fun t1 => (if t1 < 0 then (some (-1)) else ((laws_heldRowS.f k l0_2 t1).bind fun t3 => (if t3 < 0 then (some (-1)) else ((laws_heldBoolS.f k l0_3 t3).bind fun t5 => (if t5 < 0 then (some (-1)) else (some t5))))))
set_option maxHeartbeats 4000000 in
set_option maxRecDepth 100000 in
theorem laws_heldTask.ok (k : Nat) (a0_0 : Int) (l0_1 : List S124) (Al0_1 : Option Addr) (cl0_1 : Nat) (l0_2 : List S124) (Al0_2 : Option Addr) (cl0_2 : Nat) (l0_3 : List Bool) (Al0_3 : Option Addr) (cl0_3 : Nat) (a0_4 : Int) (a1 : Int) (r0 : Int) (H : laws_heldTask.f k a0_0 l0_1 l0_2 l0_3 a0_4 a1 = some r0) : Fn Try.prog 37 [.agg #[.int .i64 a0_0, .slice Al0_1 l0_1.length cl0_1, .slice Al0_2 l0_2.length cl0_2, .slice Al0_3 l0_3.length cl0_3, .int .i64 a0_4], .int .i64 a1] [] [.sl 0 k124 Al0_1 cl0_1 l0_1 0 false, .sl 0 k124 Al0_2 cl0_2 l0_2 0 false, .sl 0 .bool Al0_3 cl0_3 l0_3 0 false] (fun v bx en => v = .int .i64 r0 ∧ bx = [] ∧ en = []) := by
 refine fn_ 24 Try.func37 rfl rfl rfl (fun base T w0 => ?_)
 rw [laws_heldTask.f] at H
 refine gs (rg (so rfl (op_box (cs := [.int .i64 a0_0, .slice Al0_1 l0_1.length cl0_1, .slice Al0_2 l0_2.length cl0_2, .slice Al0_3 l0_3.length cl0_3, .int .i64 a0_4]) rfl rfl rfl fun b2 => (sv (EV.as rfl) rfl (re (gs (rg (sv (EV.fa 1 rfl) rfl (sv (EV.ld 0 none rfl rfl rfl) rfl (sv (EV.mv rfl) rfl ?_))))))))))
 revert H; refine bdI ?_; rintro t1 A1 H
 refine so rfl (op_call (laws_heldRowS.ok k l0_1 Al0_1 cl0_1 a1 _ A1) [⟨0, 0, 0, false⟩] 1 rfl rfl rfl rfl rfl ?_)
 rintro _ _ _ ⟨rfl, rfl, rfl⟩
 refine sv (EV.as rfl) rfl (re (pr [1, 2] [0] [0, 1, 2] rfl rfl rfl rfl (gs (gs (rg (sv (EV.mv rfl) rfl (sv (EV.lss rfl rfl) rfl (re ?_))))))))
 revert H; refine ifsI ?_ ?_ <;> intro c2 H
 ·
  refine gt rfl (dT c2) (gs (rg (sv (EV.as rfl) rfl (re ?_))))
  cases H
  exact rt Try.func37 rfl (.tmp rfl .nil) rfl [] [] rfl rfl rfl rfl rfl ⟨rfl, rfl, rfl⟩
 ·
  refine gf rfl (dF c2) (gk (gs (rg (sv (EV.fa 2 rfl) rfl (sv (EV.ld 0 none rfl rfl rfl) rfl (sv (EV.mv rfl) rfl ?_))))))
  revert H; refine bdI ?_; rintro t3 A3 H
  refine so rfl (op_call (laws_heldRowS.ok k l0_2 Al0_2 cl0_2 t1 _ A3) [⟨1, 0, 0, false⟩] 1 rfl rfl rfl rfl rfl ?_)
  rintro _ _ _ ⟨rfl, rfl, rfl⟩
  refine sv (EV.as rfl) rfl (re (pr [1, 2] [0] [0, 1, 2] rfl rfl rfl rfl (gs (gs (rg (sv (EV.mv rfl) rfl (sv (EV.lss rfl rfl) rfl (re ?_))))))))
  revert H; refine ifsI ?_ ?_ <;> intro c4 H
  ·
   refine gt rfl (dT c4) (gs (rg (sv (EV.as rfl) rfl (re ?_))))
   cases H
   exact rt Try.func37 rfl (.tmp rfl .nil) rfl [] [] rfl rfl rfl rfl rfl ⟨rfl, rfl, rfl⟩
  ·
   refine gf rfl (dF c4) (gk (gs (rg (sv (EV.fa 3 rfl) rfl (sv (EV.ld 0 none rfl rfl rfl) rfl (sv (EV.mv rfl) rfl ?_))))))
   revert H; refine bdI ?_; rintro t5 A5 H
   refine so rfl (op_call (laws_heldBoolS.ok k l0_3 Al0_3 cl0_3 t3 _ A5) [⟨2, 0, 0, false⟩] 1 rfl rfl rfl rfl rfl ?_)
   rintro _ _ _ ⟨rfl, rfl, rfl⟩
   refine sv (EV.as rfl) rfl (re (pr [1] [] [] rfl rfl rfl rfl (gs (gs (rg (sv (EV.mv rfl) rfl (sv (EV.lss rfl rfl) rfl (re ?_))))))))
   revert H; refine ifsI ?_ ?_ <;> intro c6 H
   ·
    refine gt rfl (dT c6) (gs (rg (sv (EV.as rfl) rfl (re ?_))))
    cases H
    exact rt Try.func37 rfl (.tmp rfl .nil) rfl [] [] rfl rfl rfl rfl rfl ⟨rfl, rfl, rfl⟩
   ·
    refine gf rfl (dF c6) (gk (gs (rg (sv (EV.mv rfl) rfl (sv (EV.as rfl) rfl (re ?_))))))
    cases H
    exact rt Try.func37 rfl (.tmp rfl .nil) rfl [] [] rfl rfl rfl rfl rfl ⟨rfl, rfl, rfl⟩
end Go.Proofs.Ytnllplklggoabaa.K
namespace Go.Proofs.Ytnllplklggoabaa.K
open Go Go.RowKit
set_option linter.unusedVariables false
set_option linter.unusedSimpArgs false
def laws_FnExactParseTask.f (k : Nat) (a0 : ByteArray) : Option (Bool) := if (a0.size : Int) > 1048576 then (some true) else ((spec_ParseTask.f k a0).bind fun bt2 => ((impl_ParseTask.f k a0).bind fun bt3 => ((laws_eqTask.f k bt3.1 bt3.2.1 bt3.2.2.1 bt3.2.2.2.1 bt3.2.2.2.2.1 bt2.1 bt2.2.1 bt2.2.2.1 bt2.2.2.2.1 bt2.2.2.2.2.1).bind fun t4 => (if t4 = true then (if (bt3.2.2.2.2.2 == bt2.2.2.2.2.2) = true then ((laws_markTask.f k bt3.1 bt3.2.1 bt3.2.2.1 bt3.2.2.2.1 bt3.2.2.2.2.1 1).bind fun bt7 => ((laws_heldTask.f k bt3.1 bt7.2.1 bt7.2.2.1 bt7.2.2.2 bt3.2.2.2.2.1 1).bind fun t8 => (if t8 < 0 then (some false) else (if t8 = bt7.1 then ((impl_ParseTask.f k a0).bind fun bt11 => ((laws_eqTask.f k bt11.1 bt11.2.1 bt11.2.2.1 bt11.2.2.2.1 bt11.2.2.2.2.1 bt2.1 bt2.2.1 bt2.2.2.1 bt2.2.2.2.1 bt2.2.2.2.2.1).bind fun t12 => (if t12 = true then (if (bt11.2.2.2.2.2 == bt2.2.2.2.2.2) = true then ((laws_heldTask.f k bt3.1 bt7.2.1 bt7.2.2.1 bt7.2.2.2 bt3.2.2.2.2.1 1).bind fun t15 => (if t15 < 0 then (some false) else (if t15 = bt7.1 then (some true) else (some false)))) else (some false)) else (some false)))) else (some false))))) else (some false)) else (some false)))))
set_option maxHeartbeats 4000000 in
set_option maxRecDepth 100000 in
theorem laws_FnExactParseTask.ok (k : Nat) (a0 : ByteArray) (r0 : Bool) (H : laws_FnExactParseTask.f k a0 = some r0) : Fn Try.prog 8 [.string a0] [] [] (fun v bx en => v = .bool r0 ∧ bx = [] ∧ en = []) := by
 refine fn_ 66 Try.func8 rfl rfl rfl (fun base T w0 => ?_)
 rw [laws_FnExactParseTask.f] at H
 refine gs (rg (sv (EV.as rfl) rfl (re (gs (gs (rg (sv (EV.mv rfl) rfl (sv (EV.lns rfl) rfl (sv (EV.gtr rfl rfl) rfl (re ?_))))))))))
 revert H; refine ifsI ?_ ?_ <;> intro c1 H
 ·
  refine gt rfl (dT c1) (gs (rg (sv (EV.as rfl) rfl (re ?_))))
  cases H
  exact rt Try.func8 rfl (.tmp rfl .nil) rfl [] [] rfl rfl rfl rfl rfl ⟨rfl, rfl, rfl⟩
 ·
  refine gf rfl (dF c1) (gk (gs (rg (sv (EV.mv rfl) rfl ?_))))
  revert H; refine bdI ?_; rintro ⟨t2_0, t2_1, t2_2, t2_3, t2_4, t2_5⟩ A2 H
  refine so rfl (op_call (spec_ParseTask.ok k a0 _ _ _ _ _ _ A2) [] 1 rfl rfl rfl rfl rfl ?_)
  rintro _ _ _ ⟨At2_1, ct2_1, At2_2, ct2_2, At2_3, ct2_3, rfl, rfl, rfl⟩
  refine sv (EV.mv rfl) rfl (sv (EV.ex rfl rfl) rfl (sv (EV.ex rfl rfl) rfl (so rfl (op_alloc (cs := [.int .i64 0, .slice none 0 0, .slice none 0 0, .slice none 0 0, .int .i64 0]) (by kernel_rfl) rfl fun b3 => (so rfl (op_st (cs' := [.int .i64 t2_0, .slice At2_1 t2_1.length ct2_1, .slice At2_2 t2_2.length ct2_2, .slice At2_3 t2_3.length ct2_3, .int .i64 t2_4]) 0 rfl rfl rfl rfl rfl rfl (sv (EV.as rfl) rfl (re (pr [0, 3, 4] [0] [0, 1, 2] rfl rfl rfl rfl (gs (rg (sv (EV.mv rfl) rfl ?_))))))))))))
  revert H; refine bdI ?_; rintro ⟨t3_0, t3_1, t3_2, t3_3, t3_4, t3_5⟩ A3 H
  refine so rfl (op_call (impl_ParseTask.ok k a0 _ _ _ _ _ _ A3) [] 5 rfl rfl rfl rfl rfl ?_)
  rintro _ _ _ ⟨At3_1, ct3_1, At3_2, ct3_2, At3_3, ct3_3, rfl, rfl, rfl⟩
  refine sv (EV.mv rfl) rfl (sv (EV.ex rfl rfl) rfl (sv (EV.ex rfl rfl) rfl (so rfl (op_alloc (cs := [.int .i64 0, .slice none 0 0, .slice none 0 0, .slice none 0 0, .int .i64 0]) (by kernel_rfl) rfl fun b5 => (so rfl (op_st (cs' := [.int .i64 t3_0, .slice At3_1 t3_1.length ct3_1, .slice At3_2 t3_2.length ct3_2, .slice At3_3 t3_3.length ct3_3, .int .i64 t3_4]) 1 rfl rfl rfl rfl rfl rfl (sv (EV.as rfl) rfl (re (gs (gs (rg (sv (EV.ld (v := .agg #[.int .i64 t3_0, .slice At3_1 t3_1.length ct3_1, .slice At3_2 t3_2.length ct3_2, .slice At3_3 t3_3.length ct3_3, .int .i64 t3_4]) 1 (some 5) rfl rfl rfl) rfl (sv (EV.ld (v := .agg #[.int .i64 t2_0, .slice At2_1 t2_1.length ct2_1, .slice At2_2 t2_2.length ct2_2, .slice At2_3 t2_3.length ct2_3, .int .i64 t2_4]) 0 (some 5) rfl rfl rfl) rfl ?_)))))))))))))
  revert H; refine bdI ?_; rintro t4 A4 H
  refine so rfl (op_call (laws_eqTask.ok k t3_0 t3_1 At3_1 ct3_1 t3_2 At3_2 ct3_2 t3_3 At3_3 ct3_3 t3_4 t2_0 t2_1 At2_1 ct2_1 t2_2 At2_2 ct2_2 t2_3 At2_3 ct2_3 t2_4 _ A4) [⟨3, 0, 0, false⟩, ⟨4, 0, 0, false⟩, ⟨5, 0, 0, false⟩, ⟨0, 0, 0, false⟩, ⟨1, 0, 0, false⟩, ⟨2, 0, 0, false⟩] 9 rfl rfl rfl rfl rfl ?_)
  rintro _ _ _ ⟨rfl, rfl, rfl⟩
  refine sv (EV.nt rfl) rfl (sv (EV.mv rfl) rfl ?_)
  revert H; refine ifsI ?_ ?_ <;> intro c5 H
  ·
   subst c5
   refine ts 28 rfl rfl (sv (EV.mv rfl) rfl (sv (EV.mv rfl) rfl (sv (EV.neb rfl rfl) rfl (sv (EV.pf rfl rfl rfl) rfl (re (pr [0, 3, 4, 5, 32] [0, 1] [0, 1, 2, 3, 4, 5] rfl rfl rfl rfl ?_))))))
   revert H; refine ifsI ?_ ?_ <;> intro c6 H
   ·
    refine gf rfl (bN c6) (gk (gs (rg (sv (EV.as rfl) rfl (re (gs (rg (sv (EV.ld (v := .agg #[.int .i64 t3_0, .slice At3_1 t3_1.length ct3_1, .slice At3_2 t3_2.length ct3_2, .slice At3_3 t3_3.length ct3_3, .int .i64 t3_4]) 1 (some 5) rfl rfl rfl) rfl (sv (EV.mv rfl) rfl ?_)))))))))
    revert H; refine bdI ?_; rintro ⟨t7_0, t7_1, t7_2, t7_3⟩ A7 H
    refine so rfl (op_callM (laws_markTask.ok k t3_0 t3_1 At3_1 ct3_1 t3_2 At3_2 ct3_2 t3_3 At3_3 ct3_3 t3_4 1 _ _ _ _ A7) [⟨3, 1, 1, false⟩, ⟨4, 1, 2, false⟩, ⟨5, 1, 3, false⟩] [] [0, 1] 9 rfl rfl rfl rfl rfl rfl rfl rfl ?_)
    rintro _ _ _ ⟨rfl, rfl, rfl, q7_0, q7_1, q7_2⟩
    refine rlT 33 (v' := .agg #[.int .i64 t3_0, .slice At3_1 t7_1.length ct3_1, .slice At3_2 t3_2.length ct3_2, .slice At3_3 t3_3.length ct3_3, .int .i64 t3_4]) rfl (by simp only [q7_0]) (rlB 1 (cs' := [.int .i64 t3_0, .slice At3_1 t7_1.length ct3_1, .slice At3_2 t3_2.length ct3_2, .slice At3_3 t3_3.length ct3_3, .int .i64 t3_4]) rfl (by simp only [q7_0]) (rlT 33 (v' := .agg #[.int .i64 t3_0, .slice At3_1 t7_1.length ct3_1, .slice At3_2 t7_2.length ct3_2, .slice At3_3 t3_3.length ct3_3, .int .i64 t3_4]) rfl (by simp only [q7_1]) (rlB 1 (cs' := [.int .i64 t3_0, .slice At3_1 t7_1.length ct3_1, .slice At3_2 t7_2.length ct3_2, .slice At3_3 t3_3.length ct3_3, .int .i64 t3_4]) rfl (by simp only [q7_1]) (rlT 33 (v' := .agg #[.int .i64 t3_0, .slice At3_1 t7_1.length ct3_1, .slice At3_2 t7_2.length ct3_2, .slice At3_3 t7_3.length ct3_3, .int .i64 t3_4]) rfl (by simp only [q7_2]) (rlB 1 (cs' := [.int .i64 t3_0, .slice At3_1 t7_1.length ct3_1, .slice At3_2 t7_2.length ct3_2, .slice At3_3 t7_3.length ct3_3, .int .i64 t3_4]) rfl (by simp only [q7_2]) (nmE (en := [.sl 2 k124 At2_1 ct2_1 t2_1 2 true, .sl 2 k124 At2_2 ct2_2 t2_2 3 true, .sl 2 .bool At2_3 ct2_3 t2_3 4 true, .sl 1 k124 At3_1 ct3_1 t7_1 10 false, .sl 1 k124 At3_2 ct3_2 t7_2 11 false, .sl 1 .bool At3_3 ct3_3 t7_3 12 false]) (by kernel_rfl) (sv (EV.as rfl) rfl (re (gs (rg (sv (EV.as rfl) rfl (re (gs (rg (sv (EV.ld (v := .agg #[.int .i64 t3_0, .slice At3_1 t7_1.length ct3_1, .slice At3_2 t7_2.length ct3_2, .slice At3_3 t7_3.length ct3_3, .int .i64 t3_4]) 1 (some 5) rfl rfl rfl) rfl (sv (EV.mv rfl) rfl ?_))))))))))))))))
    revert H; refine bdI ?_; rintro t8 A8 H
    refine so rfl (op_call (laws_heldTask.ok k t3_0 t7_1 At3_1 ct3_1 t7_2 At3_2 ct3_2 t7_3 At3_3 ct3_3 t3_4 1 _ A8) [⟨3, 0, 0, false⟩, ⟨4, 0, 0, false⟩, ⟨5, 0, 0, false⟩] 13 rfl rfl rfl rfl rfl ?_)
    rintro _ _ _ ⟨rfl, rfl, rfl⟩
    refine sv (EV.as rfl) rfl (re (pr [0, 3, 4, 5, 7, 8] [0, 1] [0, 1, 2, 3, 4, 5] rfl rfl rfl rfl (gs (gs (rg (sv (EV.mv rfl) rfl (sv (EV.lss rfl rfl) rfl (re ?_))))))))
    revert H; refine ifsI ?_ ?_ <;> intro c9 H
    ·
     refine gt rfl (dT c9) (gs (rg (sv (EV.as rfl) rfl (re (pr [2] [] [] rfl rfl rfl rfl ?_)))))
     cases H
     exact rt Try.func8 rfl (.tmp rfl .nil) rfl [] [] rfl rfl rfl rfl rfl ⟨rfl, rfl, rfl⟩
    ·
     refine gf rfl (dF c9) (gk (gs (gs (rg (sv (EV.mv rfl) rfl (sv (EV.mv rfl) rfl (sv (EV.neq rfl rfl) rfl (re ?_))))))))
     revert H; refine ifsI ?_ ?_ <;> intro c10 H
     ·
      refine gf rfl (nF c10) (gk (gs (rg (sv (EV.mv rfl) rfl ?_))))
      revert H; refine bdI ?_; rintro ⟨t11_0, t11_1, t11_2, t11_3, t11_4, t11_5⟩ A11 H
      refine so rfl (op_call (impl_ParseTask.ok k a0 _ _ _ _ _ _ A11) [] 13 rfl rfl rfl rfl rfl ?_)
      rintro _ _ _ ⟨At11_1, ct11_1, At11_2, ct11_2, At11_3, ct11_3, rfl, rfl, rfl⟩
      refine sv (EV.mv rfl) rfl (sv (EV.ex rfl rfl) rfl (sv (EV.ex rfl rfl) rfl (so rfl (op_alloc (cs := [.int .i64 0, .slice none 0 0, .slice none 0 0, .slice none 0 0, .int .i64 0]) (by kernel_rfl) rfl fun b9 => (so rfl (op_st (cs' := [.int .i64 t11_0, .slice At11_1 t11_1.length ct11_1, .slice At11_2 t11_2.length ct11_2, .slice At11_3 t11_3.length ct11_3, .int .i64 t11_4]) 2 rfl rfl rfl rfl rfl rfl (sv (EV.as rfl) rfl (re (pr [3, 4, 5, 7, 9, 10] [0, 1, 2] [0, 1, 2, 3, 4, 5, 6, 7, 8] rfl rfl rfl rfl (gs (gs (rg (sv (EV.ld (v := .agg #[.int .i64 t11_0, .slice At11_1 t11_1.length ct11_1, .slice At11_2 t11_2.length ct11_2, .slice At11_3 t11_3.length ct11_3, .int .i64 t11_4]) 2 (some 5) rfl rfl rfl) rfl (sv (EV.ld (v := .agg #[.int .i64 t2_0, .slice At2_1 t2_1.length ct2_1, .slice At2_2 t2_2.length ct2_2, .slice At2_3 t2_3.length ct2_3, .int .i64 t2_4]) 0 (some 5) rfl rfl rfl) rfl ?_))))))))))))))
      revert H; refine bdI ?_; rintro t12 A12 H
      refine so rfl (op_call (laws_eqTask.ok k t11_0 t11_1 At11_1 ct11_1 t11_2 At11_2 ct11_2 t11_3 At11_3 ct11_3 t11_4 t2_0 t2_1 At2_1 ct2_1 t2_2 At2_2 ct2_2 t2_3 At2_3 ct2_3 t2_4 _ A12) [⟨6, 0, 0, false⟩, ⟨7, 0, 0, false⟩, ⟨8, 0, 0, false⟩, ⟨0, 0, 0, false⟩, ⟨1, 0, 0, false⟩, ⟨2, 0, 0, false⟩] 17 rfl rfl rfl rfl rfl ?_)
      rintro _ _ _ ⟨rfl, rfl, rfl⟩
      refine sv (EV.nt rfl) rfl (sv (EV.mv rfl) rfl ?_)
      revert H; refine ifsI ?_ ?_ <;> intro c13 H
      ·
       subst c13
       refine ts 53 rfl rfl (sv (EV.mv rfl) rfl (sv (EV.mv rfl) rfl (sv (EV.neb rfl rfl) rfl (sv (EV.pf rfl rfl rfl) rfl (re (pr [5, 7, 57] [1] [3, 4, 5] rfl rfl rfl rfl ?_))))))
       revert H; refine ifsI ?_ ?_ <;> intro c14 H
       ·
        refine gf rfl (bN c14) (gk (gs (rg (sv (EV.as rfl) rfl (re (gs (rg (sv (EV.ld (v := .agg #[.int .i64 t3_0, .slice At3_1 t7_1.length ct3_1, .slice At3_2 t7_2.length ct3_2, .slice At3_3 t7_3.length ct3_3, .int .i64 t3_4]) 0 (some 5) rfl rfl rfl) rfl (sv (EV.mv rfl) rfl ?_)))))))))
        revert H; refine bdI ?_; rintro t15 A15 H
        refine so rfl (op_call (laws_heldTask.ok k t3_0 t7_1 At3_1 ct3_1 t7_2 At3_2 ct3_2 t7_3 At3_3 ct3_3 t3_4 1 _ A15) [⟨0, 0, 0, false⟩, ⟨1, 0, 0, false⟩, ⟨2, 0, 0, false⟩] 13 rfl rfl rfl rfl rfl ?_)
        rintro _ _ _ ⟨rfl, rfl, rfl⟩
        refine sv (EV.as rfl) rfl (re (gs (gs (rg (sv (EV.mv rfl) rfl (sv (EV.lss rfl rfl) rfl (re (pr [7, 8, 62] [] [] rfl rfl rfl rfl ?_))))))))
        revert H; refine ifsI ?_ ?_ <;> intro c16 H
        ·
         refine gt rfl (dT c16) (gs (rg (sv (EV.as rfl) rfl (re ?_))))
         cases H
         exact rt Try.func8 rfl (.tmp rfl .nil) rfl [] [] rfl rfl rfl rfl rfl ⟨rfl, rfl, rfl⟩
        ·
         refine gf rfl (dF c16) (gk (gs (gs (rg (sv (EV.mv rfl) rfl (sv (EV.mv rfl) rfl (sv (EV.neq rfl rfl) rfl (re ?_))))))))
         revert H; refine ifsI ?_ ?_ <;> intro c17 H
         ·
          refine gf rfl (nF c17) (gk (gs (rg (sv (EV.as rfl) rfl (re (pr [2] [] [] rfl rfl rfl rfl ?_))))))
          cases H
          exact rt Try.func8 rfl (.tmp rfl .nil) rfl [] [] rfl rfl rfl rfl rfl ⟨rfl, rfl, rfl⟩
         ·
          refine gt rfl (nT c17) (gs (rg (sv (EV.as rfl) rfl (re (pr [2] [] [] rfl rfl rfl rfl ?_)))))
          cases H
          exact rt Try.func8 rfl (.tmp rfl .nil) rfl [] [] rfl rfl rfl rfl rfl ⟨rfl, rfl, rfl⟩
       ·
        refine gt rfl (bM c14) (gs (rg (sv (EV.as rfl) rfl (re ?_))))
        cases H
        exact rt Try.func8 rfl (.tmp rfl .nil) rfl [] [] rfl rfl rfl rfl rfl ⟨rfl, rfl, rfl⟩
      ·
       obtain rfl := bF c13
       refine ts 53 rfl rfl (sk rfl (sk rfl (sk rfl (sv (EV.pt rfl rfl rfl) rfl (re (pr [5, 7, 57] [1] [3, 4, 5] rfl rfl rfl rfl (gt rfl rfl (gs (rg (sv (EV.as rfl) rfl (re ?_)))))))))))
       cases H
       exact rt Try.func8 rfl (.tmp rfl .nil) rfl [] [] rfl rfl rfl rfl rfl ⟨rfl, rfl, rfl⟩
     ·
      refine gt rfl (nT c10) (gs (rg (sv (EV.as rfl) rfl (re (pr [2] [] [] rfl rfl rfl rfl ?_)))))
      cases H
      exact rt Try.func8 rfl (.tmp rfl .nil) rfl [] [] rfl rfl rfl rfl rfl ⟨rfl, rfl, rfl⟩
   ·
    refine gt rfl (bM c6) (gs (rg (sv (EV.as rfl) rfl (re ?_))))
    cases H
    exact rt Try.func8 rfl (.tmp rfl .nil) rfl [] [] rfl rfl rfl rfl rfl ⟨rfl, rfl, rfl⟩
  ·
   obtain rfl := bF c5
   refine ts 28 rfl rfl (sk rfl (sk rfl (sk rfl (sv (EV.pt rfl rfl rfl) rfl (re (pr [0, 3, 4, 5, 32] [0, 1] [0, 1, 2, 3, 4, 5] rfl rfl rfl rfl (gt rfl rfl (gs (rg (sv (EV.as rfl) rfl (re ?_)))))))))))
   cases H
   exact rt Try.func8 rfl (.tmp rfl .nil) rfl [] [] rfl rfl rfl rfl rfl ⟨rfl, rfl, rfl⟩
end Go.Proofs.Ytnllplklggoabaa.K
