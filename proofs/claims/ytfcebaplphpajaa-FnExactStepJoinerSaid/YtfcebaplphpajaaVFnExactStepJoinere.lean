/- Walks: what the functions compute. Printed by gen.py; no condition. -/
import Derived.Test.YtfcebaplphpajaaVFnExactStepJoinerd
namespace Go.Proofs.Ytfcebaplphpajaa.K
open Go Go.RowKit
set_option linter.unusedVariables false
set_option linter.unusedSimpArgs false
def laws_markPairS.l0 : Nat → (List S99) → Int → Int → Option (Int × (List S99))
 | 0, _, _, _ => none
 | k + 1, x2_ml0, x2_1, x2_5 => if x2_5 < (x2_ml0.length : Int) then (if 0 ≤ x2_5 then ((some (x2_ml0.set x2_5.toNat (⟨(⟨x2_1, (rd_T99 x2_ml0 x2_5).f0.f1, (rd_T99 x2_ml0 x2_5).f0.f2⟩ : S77), (⟨(rd_T99 x2_ml0 x2_5).f1.f0, (rd_T99 x2_ml0 x2_5).f1.f1, (rd_T99 x2_ml0 x2_5).f1.f2⟩ : S77), (rd_T99 x2_ml0 x2_5).f2⟩ : S99))).bind fun s3 => (if x2_5 < (s3.length : Int) then ((some (s3.set x2_5.toNat (⟨(⟨(rd_T99 s3 x2_5).f0.f0, wrap64 (x2_1 + 1), (rd_T99 s3 x2_5).f0.f2⟩ : S77), (⟨(rd_T99 s3 x2_5).f1.f0, (rd_T99 s3 x2_5).f1.f1, (rd_T99 s3 x2_5).f1.f2⟩ : S77), (rd_T99 s3 x2_5).f2⟩ : S99))).bind fun s5 => (if x2_5 < (s5.length : Int) then ((some (s5.set x2_5.toNat (⟨(⟨(rd_T99 s5 x2_5).f0.f0, (rd_T99 s5 x2_5).f0.f1, wrap64 ((wrap64 (x2_1 + 1)) + 1)⟩ : S77), (⟨(rd_T99 s5 x2_5).f1.f0, (rd_T99 s5 x2_5).f1.f1, (rd_T99 s5 x2_5).f1.f2⟩ : S77), (rd_T99 s5 x2_5).f2⟩ : S99))).bind fun s7 => (if x2_5 < (s7.length : Int) then ((some (s7.set x2_5.toNat (⟨(⟨(rd_T99 s7 x2_5).f0.f0, (rd_T99 s7 x2_5).f0.f1, (rd_T99 s7 x2_5).f0.f2⟩ : S77), (⟨wrap64 ((wrap64 ((wrap64 (x2_1 + 1)) + 1)) + 1), (rd_T99 s7 x2_5).f1.f1, (rd_T99 s7 x2_5).f1.f2⟩ : S77), (rd_T99 s7 x2_5).f2⟩ : S99))).bind fun s9 => (if x2_5 < (s9.length : Int) then ((some (s9.set x2_5.toNat (⟨(⟨(rd_T99 s9 x2_5).f0.f0, (rd_T99 s9 x2_5).f0.f1, (rd_T99 s9 x2_5).f0.f2⟩ : S77), (⟨(rd_T99 s9 x2_5).f1.f0, wrap64 ((wrap64 ((wrap64 ((wrap64 (x2_1 + 1)) + 1)) + 1)) + 1), (rd_T99 s9 x2_5).f1.f2⟩ : S77), (rd_T99 s9 x2_5).f2⟩ : S99))).bind fun s11 => (if x2_5 < (s11.length : Int) then ((some (s11.set x2_5.toNat (⟨(⟨(rd_T99 s11 x2_5).f0.f0, (rd_T99 s11 x2_5).f0.f1, (rd_T99 s11 x2_5).f0.f2⟩ : S77), (⟨(rd_T99 s11 x2_5).f1.f0, (rd_T99 s11 x2_5).f1.f1, wrap64 ((wrap64 ((wrap64 ((wrap64 ((wrap64 (x2_1 + 1)) + 1)) + 1)) + 1)) + 1)⟩ : S77), (rd_T99 s11 x2_5).f2⟩ : S99))).bind fun s13 => (if x2_5 < (s13.length : Int) then ((some (s13.set x2_5.toNat (⟨(⟨(rd_T99 s13 x2_5).f0.f0, (rd_T99 s13 x2_5).f0.f1, (rd_T99 s13 x2_5).f0.f2⟩ : S77), (⟨(rd_T99 s13 x2_5).f1.f0, (rd_T99 s13 x2_5).f1.f1, (rd_T99 s13 x2_5).f1.f2⟩ : S77), decide ((Int.tmod (wrap64 ((wrap64 ((wrap64 ((wrap64 ((wrap64 ((wrap64 (x2_1 + 1)) + 1)) + 1)) + 1)) + 1)) + 1)) 3) = 0)⟩ : S99))).bind fun s15 => (laws_markPairS.l0 k s15 (wrap64 ((wrap64 ((wrap64 ((wrap64 ((wrap64 ((wrap64 ((wrap64 (x2_1 + 1)) + 1)) + 1)) + 1)) + 1)) + 1)) + 1)) (wrap64 (x2_5 + 1)))) else none)) else none)) else none)) else none)) else none)) else none)) else none) else (some (x2_1, x2_ml0))
def laws_markPairS.f (k : Nat) (l0 : List S99) (a1 : Int) : Option (Int × (List S99)) := laws_markPairS.l0 k l0 a1 0
set_option maxHeartbeats 4000000 in
set_option maxRecDepth 100000 in
theorem laws_markPairS.ok (k : Nat) (l0 : List S99) (Al0 : Option Addr) (cl0 : Nat) (a1 : Int) (r0 : Int) (r1 : List S99) (H : laws_markPairS.f k l0 a1 = some (r0, r1)) : Fn Try.prog 40 [.slice Al0 l0.length cl0, .int .i64 a1] [] [.sl 1 k99 Al0 cl0 l0 1 false] (fun v bx en => v = .int .i64 r0 ∧ bx = [] ∧ en = [.sl 1 k99 Al0 cl0 r1 1 false] ∧ r1.length = l0.length) := by
 refine fn_ 70 Try.func40 rfl rfl rfl (fun base T w0 => ?_)
 rw [laws_markPairS.f] at H
 refine gs (rg (sv (EV.as rfl) rfl (re (gs (gs (rg (sv (EV.as rfl) rfl (re (gb ?_)))))))))
 refine lo (fun kk S => ∃ (x2_ml0 : List S99) (x2_1 : Int) (x2_5 : Int), laws_markPairS.l0 kk x2_ml0 x2_1 x2_5 = some (r0, r1) ∧ x2_ml0.length = l0.length ∧ S = ⟨[(0, .slice Al0 x2_ml0.length cl0), (1, .int .i64 x2_1), (5, .int .i64 x2_5)], [], [.sl 1 k99 Al0 cl0 x2_ml0 1 false]⟩) (fun S hS => ?_) (fun n0 ih0 S hS => ?_) ⟨l0, a1, 0, H, (by first | rfl | assumption | omega | (simp only [List.length_set]; first | done | assumption | omega)), rfl⟩ (fun h => wk [0, 1, 5] [] [⟨0, 1, 1, false⟩] h)
 · clear H; obtain ⟨_, _, _, H, _⟩ := hS; rw [laws_markPairS.l0] at H; cases H
 clear H
 obtain ⟨x2_ml0, x2_1, x2_5, H, ex2_ml0, rfl⟩ := hS
 rw [laws_markPairS.l0] at H
 refine gs (gs (rg (sv (EV.mv rfl) rfl (sv (EV.mv rfl) rfl (sv (EV.ln rfl) rfl (sv (EV.lss rfl rfl) rfl (re ?_)))))))
 revert H; refine ifsI ?_ ?_ <;> intro c1 H
 ·
  refine gt rfl (dT c1) (gk (gs (gb (gs (rg (sv (EV.mv rfl) rfl (sv (EV.mv rfl) rfl (sv (EV.mv rfl) rfl ?_))))))))
  revert H; refine ggI ?_; intro g2 H
  refine sv (EV.ix 0 rfl rfl rfl g2 c1 rfl) rfl (sv (EV.fa 0 rfl) rfl (sv (EV.fa 0 rfl) rfl ?_))
  revert H; refine bdI ?_; intro s3 A3 H; have q3 := stl (Option.some.inj A3)
  refine so rfl (op_stg x2_5 0 0 z99 (⟨(⟨x2_1, (rd_T99 x2_ml0 x2_5).f0.f1, (rd_T99 x2_ml0 x2_5).f0.f2⟩ : S77), (⟨(rd_T99 x2_ml0 x2_5).f1.f0, (rd_T99 x2_ml0 x2_5).f1.f1, (rd_T99 x2_ml0 x2_5).f1.f2⟩ : S77), (rd_T99 x2_ml0 x2_5).f2⟩ : S99) (Option.some.inj A3) rfl rfl rfl rfl g2 c1 rfl rfl rfl rfl dq rfl (rlT 0 (v' := .slice Al0 s3.length cl0) rfl (slq _ _ q3) (rlT 7 (v' := .slice Al0 s3.length cl0) rfl (slq _ _ q3) (rlT 12 (v' := .slice Al0 s3.length cl0) rfl (slq _ _ q3) (nmE (en := [.sl 1 k99 Al0 cl0 s3 1 true]) (by kernel_rfl) (re (pr [0, 1, 5] [] [0] rfl rfl rfl rfl (gs (rg (sv (EV.mv rfl) rfl (sv (EV.add rfl rfl) rfl (sv (EV.as rfl) rfl (re (gs (rg (sv (EV.mv rfl) rfl (sv (EV.mv rfl) rfl (sv (EV.mv rfl) rfl ?_))))))))))))))))))
  revert H; refine ggI ?_; intro g4 H
  refine sv (EV.ix 0 rfl rfl rfl g2 g4 rfl) rfl (sv (EV.fa 0 rfl) rfl (sv (EV.fa 1 rfl) rfl ?_))
  revert H; refine bdI ?_; intro s5 A5 H; have q5 := stl (Option.some.inj A5)
  refine so rfl (op_stg x2_5 1 0 z99 (⟨(⟨(rd_T99 s3 x2_5).f0.f0, wrap64 (x2_1 + 1), (rd_T99 s3 x2_5).f0.f2⟩ : S77), (⟨(rd_T99 s3 x2_5).f1.f0, (rd_T99 s3 x2_5).f1.f1, (rd_T99 s3 x2_5).f1.f2⟩ : S77), (rd_T99 s3 x2_5).f2⟩ : S99) (Option.some.inj A5) rfl rfl rfl rfl g2 g4 rfl rfl rfl rfl dq rfl (rlT 0 (v' := .slice Al0 s5.length cl0) rfl (slq _ _ q5) (rlT 20 (v' := .slice Al0 s5.length cl0) rfl (slq _ _ q5) (nmE (en := [.sl 1 k99 Al0 cl0 s5 1 true]) (by kernel_rfl) (re (gs (rg (sv (EV.mv rfl) rfl (sv (EV.add rfl rfl) rfl (sv (EV.as rfl) rfl (re (pr [0, 1, 5] [] [0] rfl rfl rfl rfl (gs (rg (sv (EV.mv rfl) rfl (sv (EV.mv rfl) rfl (sv (EV.mv rfl) rfl ?_)))))))))))))))))
  revert H; refine ggI ?_; intro g6 H
  refine sv (EV.ix 0 rfl rfl rfl g2 g6 rfl) rfl (sv (EV.fa 0 rfl) rfl (sv (EV.fa 2 rfl) rfl ?_))
  revert H; refine bdI ?_; intro s7 A7 H; have q7 := stl (Option.some.inj A7)
  refine so rfl (op_stg x2_5 2 0 z99 (⟨(⟨(rd_T99 s5 x2_5).f0.f0, (rd_T99 s5 x2_5).f0.f1, wrap64 ((wrap64 (x2_1 + 1)) + 1)⟩ : S77), (⟨(rd_T99 s5 x2_5).f1.f0, (rd_T99 s5 x2_5).f1.f1, (rd_T99 s5 x2_5).f1.f2⟩ : S77), (rd_T99 s5 x2_5).f2⟩ : S99) (Option.some.inj A7) rfl rfl rfl rfl g2 g6 rfl rfl rfl rfl dq rfl (rlT 0 (v' := .slice Al0 s7.length cl0) rfl (slq _ _ q7) (rlT 28 (v' := .slice Al0 s7.length cl0) rfl (slq _ _ q7) (nmE (en := [.sl 1 k99 Al0 cl0 s7 1 true]) (by kernel_rfl) (re (gs (rg (sv (EV.mv rfl) rfl (sv (EV.add rfl rfl) rfl (sv (EV.as rfl) rfl (re (gs (rg (sv (EV.mv rfl) rfl (sv (EV.mv rfl) rfl (sv (EV.mv rfl) rfl ?_))))))))))))))))
  revert H; refine ggI ?_; intro g8 H
  refine sv (EV.ix 0 rfl rfl rfl g2 g8 rfl) rfl (sv (EV.fa 3 rfl) rfl (sv (EV.fa 0 rfl) rfl ?_))
  revert H; refine bdI ?_; intro s9 A9 H; have q9 := stl (Option.some.inj A9)
  refine so rfl (op_stg x2_5 3 0 z99 (⟨(⟨(rd_T99 s7 x2_5).f0.f0, (rd_T99 s7 x2_5).f0.f1, (rd_T99 s7 x2_5).f0.f2⟩ : S77), (⟨wrap64 ((wrap64 ((wrap64 (x2_1 + 1)) + 1)) + 1), (rd_T99 s7 x2_5).f1.f1, (rd_T99 s7 x2_5).f1.f2⟩ : S77), (rd_T99 s7 x2_5).f2⟩ : S99) (Option.some.inj A9) rfl rfl rfl rfl g2 g8 rfl rfl rfl rfl dq rfl (rlT 0 (v' := .slice Al0 s9.length cl0) rfl (slq _ _ q9) (rlT 28 (v' := .slice Al0 s9.length cl0) rfl (slq _ _ q9) (rlT 36 (v' := .slice Al0 s9.length cl0) rfl (slq _ _ q9) (nmE (en := [.sl 1 k99 Al0 cl0 s9 1 true]) (by kernel_rfl) (re (pr [0, 1, 5] [] [0] rfl rfl rfl rfl (gs (rg (sv (EV.mv rfl) rfl (sv (EV.add rfl rfl) rfl (sv (EV.as rfl) rfl (re (gs (rg (sv (EV.mv rfl) rfl (sv (EV.mv rfl) rfl (sv (EV.mv rfl) rfl ?_))))))))))))))))))
  revert H; refine ggI ?_; intro g10 H
  refine sv (EV.ix 0 rfl rfl rfl g2 g10 rfl) rfl (sv (EV.fa 3 rfl) rfl (sv (EV.fa 1 rfl) rfl ?_))
  revert H; refine bdI ?_; intro s11 A11 H; have q11 := stl (Option.some.inj A11)
  refine so rfl (op_stg x2_5 4 0 z99 (⟨(⟨(rd_T99 s9 x2_5).f0.f0, (rd_T99 s9 x2_5).f0.f1, (rd_T99 s9 x2_5).f0.f2⟩ : S77), (⟨(rd_T99 s9 x2_5).f1.f0, wrap64 ((wrap64 ((wrap64 ((wrap64 (x2_1 + 1)) + 1)) + 1)) + 1), (rd_T99 s9 x2_5).f1.f2⟩ : S77), (rd_T99 s9 x2_5).f2⟩ : S99) (Option.some.inj A11) rfl rfl rfl rfl g2 g10 rfl rfl rfl rfl dq rfl (rlT 0 (v' := .slice Al0 s11.length cl0) rfl (slq _ _ q11) (rlT 44 (v' := .slice Al0 s11.length cl0) rfl (slq _ _ q11) (nmE (en := [.sl 1 k99 Al0 cl0 s11 1 true]) (by kernel_rfl) (re (gs (rg (sv (EV.mv rfl) rfl (sv (EV.add rfl rfl) rfl (sv (EV.as rfl) rfl (re (pr [0, 1, 5] [] [0] rfl rfl rfl rfl (gs (rg (sv (EV.mv rfl) rfl (sv (EV.mv rfl) rfl (sv (EV.mv rfl) rfl ?_)))))))))))))))))
  revert H; refine ggI ?_; intro g12 H
  refine sv (EV.ix 0 rfl rfl rfl g2 g12 rfl) rfl (sv (EV.fa 3 rfl) rfl (sv (EV.fa 2 rfl) rfl ?_))
  revert H; refine bdI ?_; intro s13 A13 H; have q13 := stl (Option.some.inj A13)
  refine so rfl (op_stg x2_5 5 0 z99 (⟨(⟨(rd_T99 s11 x2_5).f0.f0, (rd_T99 s11 x2_5).f0.f1, (rd_T99 s11 x2_5).f0.f2⟩ : S77), (⟨(rd_T99 s11 x2_5).f1.f0, (rd_T99 s11 x2_5).f1.f1, wrap64 ((wrap64 ((wrap64 ((wrap64 ((wrap64 (x2_1 + 1)) + 1)) + 1)) + 1)) + 1)⟩ : S77), (rd_T99 s11 x2_5).f2⟩ : S99) (Option.some.inj A13) rfl rfl rfl rfl g2 g12 rfl rfl rfl rfl dq rfl (rlT 0 (v' := .slice Al0 s13.length cl0) rfl (slq _ _ q13) (rlT 52 (v' := .slice Al0 s13.length cl0) rfl (slq _ _ q13) (nmE (en := [.sl 1 k99 Al0 cl0 s13 1 true]) (by kernel_rfl) (re (gs (rg (sv (EV.mv rfl) rfl (sv (EV.add rfl rfl) rfl (sv (EV.as rfl) rfl (re (gs (rg (sv (EV.mv rfl) rfl (sv (EV.mv rfl) rfl (sv (EV.mv rfl) rfl (sv (EV.rem rfl rfl dq) rfl (sv (EV.eql rfl rfl) rfl ?_))))))))))))))))))
  revert H; refine ggI ?_; intro g14 H
  refine sv (EV.ix 0 rfl rfl rfl g2 g14 rfl) rfl (sv (EV.fa 6 rfl) rfl ?_)
  revert H; refine bdI ?_; intro s15 A15 H; have q15 := stl (Option.some.inj A15)
  exact so rfl (op_stg x2_5 6 0 z99 (⟨(⟨(rd_T99 s13 x2_5).f0.f0, (rd_T99 s13 x2_5).f0.f1, (rd_T99 s13 x2_5).f0.f2⟩ : S77), (⟨(rd_T99 s13 x2_5).f1.f0, (rd_T99 s13 x2_5).f1.f1, (rd_T99 s13 x2_5).f1.f2⟩ : S77), decide ((Int.tmod (wrap64 ((wrap64 ((wrap64 ((wrap64 ((wrap64 ((wrap64 (x2_1 + 1)) + 1)) + 1)) + 1)) + 1)) + 1)) 3) = 0)⟩ : S99) (Option.some.inj A15) rfl rfl rfl rfl g2 g14 rfl rfl rfl rfl dq rfl (rlT 0 (v' := .slice Al0 s15.length cl0) rfl (slq _ _ q15) (rlT 52 (v' := .slice Al0 s15.length cl0) rfl (slq _ _ q15) (rlT 60 (v' := .slice Al0 s15.length cl0) rfl (slq _ _ q15) (nmE (en := [.sl 1 k99 Al0 cl0 s15 1 true]) (by kernel_rfl) (re (pr [0, 1, 5] [] [0] rfl rfl rfl rfl (rg (sv (EV.mv rfl) rfl (sv (EV.add rfl rfl) rfl (sv (EV.as rfl) rfl (re (ge (rg (sv (EV.mv rfl) rfl (sv (EV.add rfl rfl) rfl (sv (EV.as rfl) rfl (re (wk [0, 1, 5] [] [⟨0, 1, 1, false⟩] (ih0 _ (by omega) _ ⟨s15, wrap64 ((wrap64 ((wrap64 ((wrap64 ((wrap64 ((wrap64 ((wrap64 (x2_1 + 1)) + 1)) + 1)) + 1)) + 1)) + 1)) + 1), wrap64 (x2_5 + 1), H, (by first | rfl | assumption | omega | (simp only [List.length_set]; first | done | assumption | omega)), rfl⟩))))))))))))))))))))
 ·
  refine gf rfl (dF c1) (gx rfl (gs (rg (sv (EV.mv rfl) rfl (sv (EV.as rfl) rfl (re (pr [4] [] [0] rfl rfl rfl rfl ?_)))))))
  cases H
  exact rt Try.func40 rfl (.tmp rfl .nil) rfl [] [⟨0, 1, 1, false⟩] rfl rfl rfl rfl rfl ⟨rfl, rfl, rfl, by first | rfl | assumption | omega | (simp only [List.length_set]; first | done | assumption | omega)⟩
end Go.Proofs.Ytfcebaplphpajaa.K
namespace Go.Proofs.Ytfcebaplphpajaa.K
open Go Go.RowKit
set_option linter.unusedVariables false
set_option linter.unusedSimpArgs false
def laws_heldPairS.l0 : Nat → Int → Int → (List S99) → Option (Int)
 | 0, _, _, _ => none
 | k + 1, x2_1, x2_5, l0 => if x2_5 < (l0.length : Int) then (if 0 ≤ x2_5 then (if ((rd_T99 l0 x2_5).f0.f0) = x2_1 then (if ((rd_T99 l0 x2_5).f0.f1) = (wrap64 (x2_1 + 1)) then (if ((rd_T99 l0 x2_5).f0.f2) = (wrap64 ((wrap64 (x2_1 + 1)) + 1)) then (if ((rd_T99 l0 x2_5).f1.f0) = (wrap64 ((wrap64 ((wrap64 (x2_1 + 1)) + 1)) + 1)) then (if ((rd_T99 l0 x2_5).f1.f1) = (wrap64 ((wrap64 ((wrap64 ((wrap64 (x2_1 + 1)) + 1)) + 1)) + 1)) then (if ((rd_T99 l0 x2_5).f1.f2) = (wrap64 ((wrap64 ((wrap64 ((wrap64 ((wrap64 (x2_1 + 1)) + 1)) + 1)) + 1)) + 1)) then (if (((rd_T99 l0 x2_5).f2) == (decide ((Int.tmod (wrap64 ((wrap64 ((wrap64 ((wrap64 ((wrap64 ((wrap64 (x2_1 + 1)) + 1)) + 1)) + 1)) + 1)) + 1)) 3) = 0))) = true then (laws_heldPairS.l0 k (wrap64 ((wrap64 ((wrap64 ((wrap64 ((wrap64 ((wrap64 ((wrap64 (x2_1 + 1)) + 1)) + 1)) + 1)) + 1)) + 1)) + 1)) (wrap64 (x2_5 + 1)) l0) else (some (-1))) else (some (-1))) else (some (-1))) else (some (-1))) else (some (-1))) else (some (-1))) else (some (-1))) else none) else (some x2_1)
def laws_heldPairS.f (k : Nat) (l0 : List S99) (a1 : Int) : Option (Int) := laws_heldPairS.l0 k a1 0 l0
set_option maxHeartbeats 4000000 in
set_option maxRecDepth 100000 in
theorem laws_heldPairS.ok (k : Nat) (l0 : List S99) (Al0 : Option Addr) (cl0 : Nat) (a1 : Int) (r0 : Int) (H : laws_heldPairS.f k l0 a1 = some r0) : Fn Try.prog 41 [.slice Al0 l0.length cl0, .int .i64 a1] [] [.sl 0 k99 Al0 cl0 l0 0 false] (fun v bx en => v = .int .i64 r0 ∧ bx = [] ∧ en = []) := by
 refine fn_ 84 Try.func41 rfl rfl rfl (fun base T w0 => ?_)
 rw [laws_heldPairS.f] at H
 refine gs (rg (sv (EV.as rfl) rfl (re (gs (gs (rg (sv (EV.as rfl) rfl (re (gb ?_)))))))))
 refine lo (fun kk S => ∃ (x2_1 : Int) (x2_5 : Int), laws_heldPairS.l0 kk x2_1 x2_5 l0 = some r0 ∧ S = ⟨[(0, .slice Al0 l0.length cl0), (1, .int .i64 x2_1), (5, .int .i64 x2_5)], [], [.sl 0 k99 Al0 cl0 l0 0 false]⟩) (fun S hS => ?_) (fun n0 ih0 S hS => ?_) ⟨a1, 0, H, rfl⟩ (fun h => wk [0, 1, 5] [] [⟨0, 0, 0, false⟩] h)
 · clear H; obtain ⟨_, _, H, _⟩ := hS; rw [laws_heldPairS.l0] at H; cases H
 clear H
 obtain ⟨x2_1, x2_5, H, rfl⟩ := hS
 rw [laws_heldPairS.l0] at H
 refine gs (gs (rg (sv (EV.mv rfl) rfl (sv (EV.mv rfl) rfl (sv (EV.ln rfl) rfl (sv (EV.lss rfl rfl) rfl (re ?_)))))))
 revert H; refine ifsI ?_ ?_ <;> intro c1 H
 ·
  refine gt rfl (dT c1) (gk (gs (gb (gs (gs (rg (sv (EV.mv rfl) rfl (sv (EV.mv rfl) rfl ?_))))))))
  revert H; refine ggI ?_; intro g2 H
  refine sv (EV.ix 0 rfl rfl rfl g2 c1 rfl) rfl (sv (EV.fa 0 rfl) rfl (sv (EV.fa 0 rfl) rfl (sv (EV.le (v := .int .i64 ((rd_T99 l0 x2_5).f0.f0)) x2_5 0 none 0 z99 rfl rfl rfl g2 c1 rfl rfl rfl) rfl (sv (EV.mv rfl) rfl (sv (EV.neq rfl rfl) rfl (re (pr [0, 1, 5, 19] [] [0] rfl rfl rfl rfl ?_)))))))
  revert H; refine ifsI ?_ ?_ <;> intro c3 H
  ·
   refine gf rfl (nF c3) (gk (gs (rg (sv (EV.mv rfl) rfl (sv (EV.add rfl rfl) rfl (sv (EV.as rfl) rfl (re (gs (gs (rg (sv (EV.mv rfl) rfl (sv (EV.mv rfl) rfl (sv (EV.ix 0 rfl rfl rfl g2 c1 rfl) rfl (sv (EV.fa 0 rfl) rfl (sv (EV.fa 1 rfl) rfl (sv (EV.le (v := .int .i64 ((rd_T99 l0 x2_5).f0.f1)) x2_5 1 none 0 z99 rfl rfl rfl g2 c1 rfl rfl rfl) rfl (sv (EV.mv rfl) rfl (sv (EV.neq rfl rfl) rfl (re (pr [0, 1, 5, 29] [] [0] rfl rfl rfl rfl ?_))))))))))))))))))))
   revert H; refine ifsI ?_ ?_ <;> intro c4 H
   ·
    refine gf rfl (nF c4) (gk (gs (rg (sv (EV.mv rfl) rfl (sv (EV.add rfl rfl) rfl (sv (EV.as rfl) rfl (re (gs (gs (rg (sv (EV.mv rfl) rfl (sv (EV.mv rfl) rfl (sv (EV.ix 0 rfl rfl rfl g2 c1 rfl) rfl (sv (EV.fa 0 rfl) rfl (sv (EV.fa 2 rfl) rfl (sv (EV.le (v := .int .i64 ((rd_T99 l0 x2_5).f0.f2)) x2_5 2 none 0 z99 rfl rfl rfl g2 c1 rfl rfl rfl) rfl (sv (EV.mv rfl) rfl (sv (EV.neq rfl rfl) rfl (re (pr [0, 1, 5, 39] [] [0] rfl rfl rfl rfl ?_))))))))))))))))))))
    revert H; refine ifsI ?_ ?_ <;> intro c5 H
    ·
     refine gf rfl (nF c5) (gk (gs (rg (sv (EV.mv rfl) rfl (sv (EV.add rfl rfl) rfl (sv (EV.as rfl) rfl (re (gs (gs (rg (sv (EV.mv rfl) rfl (sv (EV.mv rfl) rfl (sv (EV.ix 0 rfl rfl rfl g2 c1 rfl) rfl (sv (EV.fa 3 rfl) rfl (sv (EV.fa 0 rfl) rfl (sv (EV.le (v := .int .i64 ((rd_T99 l0 x2_5).f1.f0)) x2_5 3 none 0 z99 rfl rfl rfl g2 c1 rfl rfl rfl) rfl (sv (EV.mv rfl) rfl (sv (EV.neq rfl rfl) rfl (re (pr [0, 1, 5, 49] [] [0] rfl rfl rfl rfl ?_))))))))))))))))))))
     revert H; refine ifsI ?_ ?_ <;> intro c6 H
     ·
      refine gf rfl (nF c6) (gk (gs (rg (sv (EV.mv rfl) rfl (sv (EV.add rfl rfl) rfl (sv (EV.as rfl) rfl (re (gs (gs (rg (sv (EV.mv rfl) rfl (sv (EV.mv rfl) rfl (sv (EV.ix 0 rfl rfl rfl g2 c1 rfl) rfl (sv (EV.fa 3 rfl) rfl (sv (EV.fa 1 rfl) rfl (sv (EV.le (v := .int .i64 ((rd_T99 l0 x2_5).f1.f1)) x2_5 4 none 0 z99 rfl rfl rfl g2 c1 rfl rfl rfl) rfl (sv (EV.mv rfl) rfl (sv (EV.neq rfl rfl) rfl (re (pr [0, 1, 5, 59] [] [0] rfl rfl rfl rfl ?_))))))))))))))))))))
      revert H; refine ifsI ?_ ?_ <;> intro c7 H
      ·
       refine gf rfl (nF c7) (gk (gs (rg (sv (EV.mv rfl) rfl (sv (EV.add rfl rfl) rfl (sv (EV.as rfl) rfl (re (gs (gs (rg (sv (EV.mv rfl) rfl (sv (EV.mv rfl) rfl (sv (EV.ix 0 rfl rfl rfl g2 c1 rfl) rfl (sv (EV.fa 3 rfl) rfl (sv (EV.fa 2 rfl) rfl (sv (EV.le (v := .int .i64 ((rd_T99 l0 x2_5).f1.f2)) x2_5 5 none 0 z99 rfl rfl rfl g2 c1 rfl rfl rfl) rfl (sv (EV.mv rfl) rfl (sv (EV.neq rfl rfl) rfl (re (pr [0, 1, 5, 69] [] [0] rfl rfl rfl rfl ?_))))))))))))))))))))
       revert H; refine ifsI ?_ ?_ <;> intro c8 H
       ·
        refine gf rfl (nF c8) (gk (gs (rg (sv (EV.mv rfl) rfl (sv (EV.add rfl rfl) rfl (sv (EV.as rfl) rfl (re (gs (gs (rg (sv (EV.mv rfl) rfl (sv (EV.mv rfl) rfl (sv (EV.ix 0 rfl rfl rfl g2 c1 rfl) rfl (sv (EV.fa 6 rfl) rfl (sv (EV.le (v := .bool ((rd_T99 l0 x2_5).f2)) x2_5 6 none 0 z99 rfl rfl rfl g2 c1 rfl rfl rfl) rfl (sv (EV.mv rfl) rfl (sv (EV.rem rfl rfl dq) rfl (sv (EV.eql rfl rfl) rfl (sv (EV.neb rfl rfl) rfl (re (pr [0, 1, 5, 80] [] [0] rfl rfl rfl rfl ?_)))))))))))))))))))))
        revert H; refine ifsI ?_ ?_ <;> intro c9 H
        ·
         exact gf rfl (bN c9) (gk (rg (sv (EV.mv rfl) rfl (sv (EV.add rfl rfl) rfl (sv (EV.as rfl) rfl (re (ge (rg (sv (EV.mv rfl) rfl (sv (EV.add rfl rfl) rfl (sv (EV.as rfl) rfl (re (wk [0, 1, 5] [] [⟨0, 0, 0, false⟩] (ih0 _ (by omega) _ ⟨wrap64 ((wrap64 ((wrap64 ((wrap64 ((wrap64 ((wrap64 ((wrap64 (x2_1 + 1)) + 1)) + 1)) + 1)) + 1)) + 1)) + 1), wrap64 (x2_5 + 1), H, rfl⟩))))))))))))))
        ·
         refine gt rfl (bM c9) (gs (rg (sv (EV.as rfl) rfl (re ?_))))
         cases H
         exact rt Try.func41 rfl (.tmp rfl .nil) rfl [] [] rfl rfl rfl rfl rfl ⟨rfl, rfl, rfl⟩
       ·
        refine gt rfl (nT c8) (gs (rg (sv (EV.as rfl) rfl (re ?_))))
        cases H
        exact rt Try.func41 rfl (.tmp rfl .nil) rfl [] [] rfl rfl rfl rfl rfl ⟨rfl, rfl, rfl⟩
      ·
       refine gt rfl (nT c7) (gs (rg (sv (EV.as rfl) rfl (re ?_))))
       cases H
       exact rt Try.func41 rfl (.tmp rfl .nil) rfl [] [] rfl rfl rfl rfl rfl ⟨rfl, rfl, rfl⟩
     ·
      refine gt rfl (nT c6) (gs (rg (sv (EV.as rfl) rfl (re ?_))))
      cases H
      exact rt Try.func41 rfl (.tmp rfl .nil) rfl [] [] rfl rfl rfl rfl rfl ⟨rfl, rfl, rfl⟩
    ·
     refine gt rfl (nT c5) (gs (rg (sv (EV.as rfl) rfl (re ?_))))
     cases H
     exact rt Try.func41 rfl (.tmp rfl .nil) rfl [] [] rfl rfl rfl rfl rfl ⟨rfl, rfl, rfl⟩
   ·
    refine gt rfl (nT c4) (gs (rg (sv (EV.as rfl) rfl (re ?_))))
    cases H
    exact rt Try.func41 rfl (.tmp rfl .nil) rfl [] [] rfl rfl rfl rfl rfl ⟨rfl, rfl, rfl⟩
  ·
   refine gt rfl (nT c3) (gs (rg (sv (EV.as rfl) rfl (re ?_))))
   cases H
   exact rt Try.func41 rfl (.tmp rfl .nil) rfl [] [] rfl rfl rfl rfl rfl ⟨rfl, rfl, rfl⟩
 ·
  refine gf rfl (dF c1) (gx rfl (gs (rg (sv (EV.mv rfl) rfl (sv (EV.as rfl) rfl (re (pr [4] [] [] rfl rfl rfl rfl ?_)))))))
  cases H
  exact rt Try.func41 rfl (.tmp rfl .nil) rfl [] [] rfl rfl rfl rfl rfl ⟨rfl, rfl, rfl⟩
end Go.Proofs.Ytfcebaplphpajaa.K
namespace Go.Proofs.Ytfcebaplphpajaa.K
open Go Go.RowKit
set_option linter.unusedVariables false
set_option linter.unusedSimpArgs false
def laws_FnExactStepJoiner.f (k : Nat) (l0_0 : List S102) (a0_1 : Int) (a0_2 : Int) (a1 : Int) : Option (Bool) := (laws_szJoiner.f k l0_0 a0_1 a0_2 1048576).bind fun t1 => (if t1 < 0 then (some true) else ((laws_toJoiner.f k l0_0 a0_1 a0_2).bind fun bt3 => ((spec_StepJoiner.f k bt3.1 bt3.2.1 bt3.2.2 a1).bind fun bt4 => ((laws_toJoiner.f k l0_0 a0_1 a0_2).bind fun bt5 => ((impl_StepJoiner.f k bt5.1 bt5.2.1 bt5.2.2 a1).bind fun bt6 => ((laws_eqJoiner.f k bt6.1 bt6.2.1 bt6.2.2.1 bt4.1 bt4.2.1 bt4.2.2.1).bind fun t7 => (if t7 = true then ((laws_eqPairS.f k bt6.2.2.2.1 bt4.2.2.2.1).bind fun t9 => (if t9 = true then (if bt6.2.2.2.2.1 = bt4.2.2.2.2.1 then (if (bt6.2.2.2.2.2 == bt4.2.2.2.2.2) = true then ((laws_toJoiner.f k l0_0 a0_1 a0_2).bind fun bt13 => ((laws_eqJoiner.f k bt5.1 bt5.2.1 bt5.2.2 bt13.1 bt13.2.1 bt13.2.2).bind fun t14 => (if t14 = true then ((laws_markJoiner.f k bt5.1 bt5.2.1 bt5.2.2 1).bind fun bt16 => (if bt16.1 < 0 then (some false) else ((laws_eqJoiner.f k bt6.1 bt6.2.1 bt6.2.2.1 bt4.1 bt4.2.1 bt4.2.2.1).bind fun t18 => (if t18 = true then ((laws_eqPairS.f k bt6.2.2.2.1 bt4.2.2.2.1).bind fun t20 => (if t20 = true then ((laws_markJoiner.f k bt6.1 bt6.2.1 bt6.2.2.1 1).bind fun bt22 => ((laws_markPairS.f k bt6.2.2.2.1 bt22.1).bind fun bt23 => ((laws_heldJoiner.f k bt22.2 bt6.2.1 bt6.2.2.1 1).bind fun t24 => (if t24 < 0 then (some false) else ((laws_heldPairS.f k bt23.2 t24).bind fun t26 => (if t26 < 0 then (some false) else (if t26 = bt23.1 then ((laws_toJoiner.f k l0_0 a0_1 a0_2).bind fun bt29 => ((impl_StepJoiner.f k bt29.1 bt29.2.1 bt29.2.2 a1).bind fun bt30 => ((laws_eqJoiner.f k bt30.1 bt30.2.1 bt30.2.2.1 bt4.1 bt4.2.1 bt4.2.2.1).bind fun t31 => (if t31 = true then ((laws_eqPairS.f k bt30.2.2.2.1 bt4.2.2.2.1).bind fun t33 => (if t33 = true then (if bt30.2.2.2.2.1 = bt4.2.2.2.2.1 then (if (bt30.2.2.2.2.2 == bt4.2.2.2.2.2) = true then ((laws_heldJoiner.f k bt22.2 bt6.2.1 bt6.2.2.1 1).bind fun t37 => (if t37 < 0 then (some false) else ((laws_heldPairS.f k bt23.2 t37).bind fun t39 => (if t39 < 0 then (some false) else (if t39 = bt23.1 then (some true) else (some false)))))) else (some false)) else (some false)) else (some false))) else (some false))))) else (some false)))))))) else (some false))) else (some false))))) else (some false)))) else (some false)) else (some false)) else (some false))) else (some false))))))))
set_option maxHeartbeats 4000000 in
set_option maxRecDepth 100000 in
theorem laws_FnExactStepJoiner.ok (k : Nat) (l0_0 : List S102) (Al0_0 : Option Addr) (cl0_0 : Nat) (a0_1 : Int) (a0_2 : Int) (a1 : Int) (r0 : Bool) (H : laws_FnExactStepJoiner.f k l0_0 a0_1 a0_2 a1 = some r0) : Fn Try.prog 9 [.agg #[.slice Al0_0 l0_0.length cl0_0, .int .i64 a0_1, .int .i64 a0_2], .int .i64 a1] [] [.sl 0 k102 Al0_0 cl0_0 l0_0 0 false] (fun v bx en => v = .bool r0 ∧ bx = [] ∧ en = []) := by
 refine fn_ 159 Try.func9 rfl rfl rfl (fun base T w0 => ?_)
 rw [laws_FnExactStepJoiner.f] at H
 refine gs (rg (so rfl (op_box (cs := [.slice Al0_0 l0_0.length cl0_0, .int .i64 a0_1, .int .i64 a0_2]) rfl rfl rfl fun b2 => (sv (EV.as rfl) rfl (re (gs (rg (sv (EV.as rfl) rfl (re (gs (rg (sv (EV.ld (v := .agg #[.slice Al0_0 l0_0.length cl0_0, .int .i64 a0_1, .int .i64 a0_2]) 0 (some 3) rfl rfl rfl) rfl (sv (EV.mv rfl) rfl ?_)))))))))))))
 revert H; refine bdI ?_; rintro t1 A1 H
 refine so rfl (op_call (laws_szJoiner.ok k l0_0 Al0_0 cl0_0 a0_1 a0_2 1048576 _ A1) [⟨0, 0, 0, false⟩] 1 rfl rfl rfl rfl rfl ?_)
 rintro _ _ _ ⟨rfl, rfl, rfl⟩
 refine sv (EV.as rfl) rfl (re (gs (gs (rg (sv (EV.mv rfl) rfl (sv (EV.lss rfl rfl) rfl (re (pr [1, 2, 26] [0] [0] rfl rfl rfl rfl ?_))))))))
 revert H; refine ifsI ?_ ?_ <;> intro c2 H
 ·
  refine gt rfl (dT c2) (gs (rg (sv (EV.as rfl) rfl (re ?_))))
  cases H
  exact rt Try.func9 rfl (.tmp rfl .nil) rfl [] [] rfl rfl rfl rfl rfl ⟨rfl, rfl, rfl⟩
 ·
  refine gf rfl (dF c2) (gk (gs (rg (sv (EV.ld (v := .agg #[.slice Al0_0 l0_0.length cl0_0, .int .i64 a0_1, .int .i64 a0_2]) 0 (some 3) rfl rfl rfl) rfl ?_))))
  revert H; refine bdI ?_; rintro ⟨t3_0, t3_1, t3_2⟩ A3 H
  refine so rfl (op_call (laws_toJoiner.ok k l0_0 Al0_0 cl0_0 a0_1 a0_2 _ _ _ A3) [⟨0, 0, 0, false⟩] 1 rfl rfl rfl rfl rfl ?_)
  rintro _ _ _ ⟨At3_0, ct3_0, rfl, rfl, rfl⟩
  refine sv (EV.mv rfl) rfl ?_
  revert H; refine bdI ?_; rintro ⟨t4_0, t4_1, t4_2, t4_3, t4_4, t4_5⟩ A4 H
  refine so rfl (op_call (spec_StepJoiner.ok k t3_0 At3_0 ct3_0 t3_1 t3_2 a1 _ _ _ _ _ _ A4) [⟨1, 0, 0, false⟩] 3 rfl rfl rfl rfl rfl ?_)
  rintro _ _ _ ⟨At4_0, ct4_0, At4_3, ct4_3, rfl, rfl, rfl⟩
  refine sv (EV.mv rfl) rfl (sv (EV.ex rfl rfl) rfl (sv (EV.ex rfl rfl) rfl (sv (EV.ex rfl rfl) rfl (sv (EV.ex rfl rfl) rfl (so rfl (op_alloc (cs := [.slice none 0 0, .int .i64 0, .int .i64 0]) (by kernel_rfl) rfl fun b6 => (so rfl (op_st (cs' := [.slice At4_0 t4_0.length ct4_0, .int .i64 t4_1, .int .i64 t4_2]) 1 rfl rfl rfl rfl rfl rfl (sv (EV.as rfl) rfl (sv (EV.as rfl) rfl (sv (EV.as rfl) rfl (re (pr [1, 2, 6, 7, 8, 9] [0, 1] [0, 2, 3] rfl rfl rfl rfl (gs (rg (sv (EV.ld (v := .agg #[.slice Al0_0 l0_0.length cl0_0, .int .i64 a0_1, .int .i64 a0_2]) 0 (some 3) rfl rfl rfl) rfl ?_))))))))))))))))
  revert H; refine bdI ?_; rintro ⟨t5_0, t5_1, t5_2⟩ A5 H
  refine so rfl (op_call (laws_toJoiner.ok k l0_0 Al0_0 cl0_0 a0_1 a0_2 _ _ _ A5) [⟨0, 0, 0, false⟩] 6 rfl rfl rfl rfl rfl ?_)
  rintro _ _ _ ⟨At5_0, ct5_0, rfl, rfl, rfl⟩
  refine so rfl (op_alloc (cs := [.slice none 0 0, .int .i64 0, .int .i64 0]) (by kernel_rfl) rfl fun b10 => (so rfl (op_st (cs' := [.slice At5_0 t5_0.length ct5_0, .int .i64 t5_1, .int .i64 t5_2]) 2 rfl rfl rfl rfl rfl rfl (re (gs (rg (sv (EV.ld (v := .agg #[.slice At5_0 t5_0.length ct5_0, .int .i64 t5_1, .int .i64 t5_2]) 2 (some 3) rfl rfl rfl) rfl (sv (EV.mv rfl) rfl ?_))))))))
  revert H; refine bdI ?_; rintro ⟨t6_0, t6_1, t6_2, t6_3, t6_4, t6_5⟩ A6 H
  refine so rfl (op_call (impl_StepJoiner.ok k t5_0 At5_0 ct5_0 t5_1 t5_2 a1 _ _ _ _ _ _ A6) [⟨3, 0, 0, false⟩] 8 rfl rfl rfl rfl rfl ?_)
  rintro _ _ _ ⟨At6_0, ct6_0, At6_3, ct6_3, rfl, rfl, rfl⟩
  refine sv (EV.mv rfl) rfl (sv (EV.ex rfl rfl) rfl (sv (EV.ex rfl rfl) rfl (sv (EV.ex rfl rfl) rfl (sv (EV.ex rfl rfl) rfl (so rfl (op_alloc (cs := [.slice none 0 0, .int .i64 0, .int .i64 0]) (by kernel_rfl) rfl fun b11 => (so rfl (op_st (cs' := [.slice At6_0 t6_0.length ct6_0, .int .i64 t6_1, .int .i64 t6_2]) 3 rfl rfl rfl rfl rfl rfl (sv (EV.as rfl) rfl (sv (EV.as rfl) rfl (sv (EV.as rfl) rfl (re (pr [1, 2, 6, 7, 8, 9, 10, 11, 12, 13, 14] [0, 1, 2, 3] [0, 1, 2, 3, 4, 5] rfl rfl rfl rfl (gs (gs (rg (sv (EV.ld (v := .agg #[.slice At6_0 t6_0.length ct6_0, .int .i64 t6_1, .int .i64 t6_2]) 3 (some 3) rfl rfl rfl) rfl (sv (EV.ld (v := .agg #[.slice At4_0 t4_0.length ct4_0, .int .i64 t4_1, .int .i64 t4_2]) 1 (some 3) rfl rfl rfl) rfl ?_))))))))))))))))))
  revert H; refine bdI ?_; rintro t7 A7 H
  refine so rfl (op_call (laws_eqJoiner.ok k t6_0 At6_0 ct6_0 t6_1 t6_2 t4_0 At4_0 ct4_0 t4_1 t4_2 _ A7) [⟨4, 0, 0, false⟩, ⟨1, 0, 0, false⟩] 11 rfl rfl rfl rfl rfl ?_)
  rintro _ _ _ ⟨rfl, rfl, rfl⟩
  refine sv (EV.nt rfl) rfl (sv (EV.mv rfl) rfl ?_)
  revert H; refine ifsI ?_ ?_ <;> intro c8 H
  ·
   subst c8
   refine ts 50 rfl rfl (sv (EV.mv rfl) rfl (sv (EV.mv rfl) rfl ?_))
   revert H; refine bdI ?_; rintro t9 A9 H
   refine so rfl (op_call (laws_eqPairS.ok k t6_3 At6_3 ct6_3 t4_3 At4_3 ct4_3 _ A9) [⟨5, 0, 0, false⟩, ⟨2, 0, 0, false⟩] 11 rfl rfl rfl rfl rfl ?_)
   rintro _ _ _ ⟨rfl, rfl, rfl⟩
   refine sv (EV.nt rfl) rfl (sv (EV.pf rfl rfl rfl) rfl (sv (EV.mv rfl) rfl ?_))
   revert H; refine ifsI ?_ ?_ <;> intro c10 H
   ·
    subst c10
    refine ts 56 rfl rfl (sv (EV.mv rfl) rfl (sv (EV.mv rfl) rfl (sv (EV.neq rfl rfl) rfl (sv (EV.pf rfl rfl rfl) rfl (sv (EV.mv rfl) rfl ?_)))))
    revert H; refine ifsI ?_ ?_ <;> intro c11 H
    ·
     refine ts 61 rfl (nF c11) (sv (EV.mv rfl) rfl (sv (EV.mv rfl) rfl (sv (EV.neb rfl rfl) rfl (sv (EV.pf rfl rfl rfl) rfl (re (pr [1, 2, 6, 7, 8, 9, 10, 11, 12, 13, 14, 65] [0, 1, 2, 3] [0, 1, 2, 3, 4, 5] rfl rfl rfl rfl ?_))))))
     revert H; refine ifsI ?_ ?_ <;> intro c12 H
     ·
      refine gf rfl (bN c12) (gk (gs (gs (dr [0, 1, 2, 3] [0, 1, 2, 3, 4, 5] [] 5 rfl rfl rfl rfl (xv 0 [0, 1, 2, 3] [0, 1, 2, 3, 4, 5] rfl (EV.ld (v := .agg #[.slice At5_0 t5_0.length ct5_0, .int .i64 t5_1, .int .i64 t5_2]) 2 (some 3) rfl rfl rfl) rfl rfl rfl rfl (xv 1 [0, 1, 2, 3] [0, 1, 2, 3, 4, 5] rfl (EV.ld (v := .agg #[.slice Al0_0 l0_0.length cl0_0, .int .i64 a0_1, .int .i64 a0_2]) 0 (some 3) rfl rfl rfl) rfl rfl rfl rfl (one1 2 rfl rfl ?_)))))))
      revert H; refine bdI ?_; rintro ⟨t13_0, t13_1, t13_2⟩ A13 H
      refine op_call (laws_toJoiner.ok k l0_0 Al0_0 cl0_0 a0_1 a0_2 _ _ _ A13) [⟨0, 0, 0, false⟩] 11 rfl rfl rfl rfl rfl ?_
      rintro _ _ _ ⟨At13_0, ct13_0, rfl, rfl, rfl⟩
      refine xs [0, 1, 2, 3] [0, 1, 2, 3, 4, 5] rfl rfl rfl (one1 3 rfl rfl ?_)
      revert H; refine bdI ?_; rintro t14 A14 H
      refine op_call (laws_eqJoiner.ok k t5_0 At5_0 ct5_0 t5_1 t5_2 t13_0 At13_0 ct13_0 t13_1 t13_2 _ A14) [⟨3, 0, 0, false⟩, ⟨6, 0, 0, false⟩] 13 rfl rfl rfl rfl rfl ?_
      rintro _ _ _ ⟨rfl, rfl, rfl⟩
      refine xs [0, 1, 2, 3] [0, 1, 2, 3, 4, 5] rfl rfl rfl (xv 4 [0, 1, 2, 3] [0, 1, 2, 3, 4, 5] rfl (EV.nt rfl) rfl rfl rfl rfl (xd ?_))
      revert H; refine ifsI ?_ ?_ <;> intro c15 H
      ·
       subst c15
       refine gf rfl rfl (gk (gs (rg (sv (EV.as rfl) rfl (re (pr [1, 2, 6, 7, 8, 9, 10, 11, 12, 13, 14, 15] [0, 1, 2, 3] [0, 1, 2, 3, 4, 5] rfl rfl rfl rfl (gs (rg (sv (EV.ld (v := .agg #[.slice At5_0 t5_0.length ct5_0, .int .i64 t5_1, .int .i64 t5_2]) 2 (some 3) rfl rfl rfl) rfl (sv (EV.mv rfl) rfl ?_))))))))))
       revert H; refine bdI ?_; rintro ⟨t16_0, t16_1⟩ A16 H
       refine so rfl (op_callM (laws_markJoiner.ok k t5_0 At5_0 ct5_0 t5_1 t5_2 1 _ _ A16) [⟨3, 1, 1, true⟩] [] [0, 1, 2, 3] 11 rfl rfl rfl rfl rfl rfl rfl rfl ?_)
       rintro _ _ _ ⟨rfl, rfl, rfl, q16_0⟩
       refine rlT 71 (v' := .agg #[.slice At5_0 t16_1.length ct5_0, .int .i64 t5_1, .int .i64 t5_2]) rfl (by simp only [q16_0]) (rlB 2 (cs' := [.slice At5_0 t16_1.length ct5_0, .int .i64 t5_1, .int .i64 t5_2]) rfl (by simp only [q16_0]) (nmE (en := [.sl 0 k102 Al0_0 cl0_0 l0_0 0 false, .sl 1 k68 At4_0 ct4_0 t4_0 4 true, .sl 2 k99 At4_3 ct4_3 t4_3 5 true, .sl 1 k68 At6_0 ct6_0 t6_0 9 true, .sl 2 k99 At6_3 ct6_3 t6_3 10 true, .sl 1 k68 At5_0 ct5_0 t16_1 12 true]) (by kernel_rfl) (sv (EV.as rfl) rfl (re (gs (gs (rg (sv (EV.mv rfl) rfl (sv (EV.lss rfl rfl) rfl (sv (EV.mv rfl) rfl ?_))))))))))
       revert H; refine ifsI ?_ ?_ <;> intro c17 H
       ·
        refine ts 76 rfl (dT c17) (sk rfl (sk rfl (sk rfl (sk rfl (sv (EV.pt rfl rfl rfl) rfl (sv (EV.mv rfl) rfl (sk rfl (sk rfl (sk rfl (sk rfl (sv (EV.pt rfl rfl rfl) rfl (sv (EV.mv rfl) rfl (sk rfl (sk rfl (sk rfl (sv (EV.pt rfl rfl rfl) rfl (sv (EV.mv rfl) rfl (sk rfl (sk rfl (sk rfl (sv (EV.pt rfl rfl rfl) rfl (re (pr [1, 2, 6, 7, 8, 9, 11, 12, 97] [0, 1, 3] [0, 1, 2, 3, 4] rfl rfl rfl rfl (gt rfl rfl (gs (rg (sv (EV.as rfl) rfl (re (pr [4] [] [] rfl rfl rfl rfl ?_)))))))))))))))))))))))))))))
        cases H
        exact rt Try.func9 rfl (.tmp rfl .nil) rfl [] [] rfl rfl rfl rfl rfl ⟨rfl, rfl, rfl⟩
       ·
        refine ts 76 rfl (dF c17) (sv (EV.ld (v := .agg #[.slice At6_0 t6_0.length ct6_0, .int .i64 t6_1, .int .i64 t6_2]) 3 (some 3) rfl rfl rfl) rfl (sv (EV.ld (v := .agg #[.slice At4_0 t4_0.length ct4_0, .int .i64 t4_1, .int .i64 t4_2]) 1 (some 3) rfl rfl rfl) rfl ?_))
        revert H; refine bdI ?_; rintro t18 A18 H
        refine so rfl (op_call (laws_eqJoiner.ok k t6_0 At6_0 ct6_0 t6_1 t6_2 t4_0 At4_0 ct4_0 t4_1 t4_2 _ A18) [⟨3, 0, 0, false⟩, ⟨1, 0, 0, false⟩] 13 rfl rfl rfl rfl rfl ?_)
        rintro _ _ _ ⟨rfl, rfl, rfl⟩
        refine sv (EV.nt rfl) rfl (sv (EV.pf rfl rfl rfl) rfl (sv (EV.mv rfl) rfl ?_))
        revert H; refine ifsI ?_ ?_ <;> intro c19 H
        ·
         subst c19
         refine ts 82 rfl rfl (sv (EV.mv rfl) rfl (sv (EV.mv rfl) rfl ?_))
         revert H; refine bdI ?_; rintro t20 A20 H
         refine so rfl (op_call (laws_eqPairS.ok k t6_3 At6_3 ct6_3 t4_3 At4_3 ct4_3 _ A20) [⟨4, 0, 0, false⟩, ⟨2, 0, 0, false⟩] 13 rfl rfl rfl rfl rfl ?_)
         rintro _ _ _ ⟨rfl, rfl, rfl⟩
         refine sv (EV.nt rfl) rfl (sv (EV.pf rfl rfl rfl) rfl (sv (EV.mv rfl) rfl ?_))
         revert H; refine ifsI ?_ ?_ <;> intro c21 H
         ·
          subst c21
          refine ts 88 rfl rfl (sv (EV.mv rfl) rfl (sv (EV.mv rfl) rfl (sv (EV.neq rfl rfl) rfl (sv (EV.pf rfl rfl rfl) rfl (sv (EV.mv rfl) rfl (ts 93 rfl (nF c11) (sv (EV.mv rfl) rfl (sv (EV.mv rfl) rfl (sv (EV.neb rfl rfl) rfl (sv (EV.pf rfl rfl rfl) rfl (re (pr [1, 2, 6, 7, 8, 9, 11, 12, 97] [0, 1, 3] [0, 1, 2, 3, 4] rfl rfl rfl rfl (gf rfl (bN c12) (gk (gs (rg (sv (EV.as rfl) rfl (re (gs (rg (sv (EV.ld (v := .agg #[.slice At6_0 t6_0.length ct6_0, .int .i64 t6_1, .int .i64 t6_2]) 2 (some 3) rfl rfl rfl) rfl (sv (EV.mv rfl) rfl ?_))))))))))))))))))))))
          revert H; refine bdI ?_; rintro ⟨t22_0, t22_1⟩ A22 H
          refine so rfl (op_callM (laws_markJoiner.ok k t6_0 At6_0 ct6_0 t6_1 t6_2 1 _ _ A22) [⟨3, 1, 1, true⟩] [] [0, 1, 2] 11 rfl rfl rfl rfl rfl rfl rfl rfl ?_)
          rintro _ _ _ ⟨rfl, rfl, rfl, q22_0⟩
          refine rlT 98 (v' := .agg #[.slice At6_0 t22_1.length ct6_0, .int .i64 t6_1, .int .i64 t6_2]) rfl (by simp only [q22_0]) (rlB 2 (cs' := [.slice At6_0 t22_1.length ct6_0, .int .i64 t6_1, .int .i64 t6_2]) rfl (by simp only [q22_0]) (nmE (en := [.sl 0 k102 Al0_0 cl0_0 l0_0 0 false, .sl 1 k68 At4_0 ct4_0 t4_0 4 true, .sl 2 k99 At4_3 ct4_3 t4_3 5 true, .sl 2 k99 At6_3 ct6_3 t6_3 10 true, .sl 1 k68 At6_0 ct6_0 t22_1 12 true]) (by kernel_rfl) (sv (EV.as rfl) rfl (re (gs (rg (sv (EV.mv rfl) rfl (sv (EV.mv rfl) rfl ?_))))))))
          revert H; refine bdI ?_; rintro ⟨t23_0, t23_1⟩ A23 H
          refine so rfl (op_callM (laws_markPairS.ok k t6_3 At6_3 ct6_3 t22_0 _ _ A23) [⟨3, 1, 1, false⟩] [] [0, 1, 2] 13 rfl rfl rfl rfl rfl rfl rfl rfl ?_)
          rintro _ _ _ ⟨rfl, rfl, rfl, q23_0⟩
          refine rlT 12 (v' := .slice At6_3 t23_1.length ct6_3) rfl (slq _ _ q23_0) (rlT 101 (v' := .slice At6_3 t23_1.length ct6_3) rfl (slq _ _ q23_0) (nmE (en := [.sl 0 k102 Al0_0 cl0_0 l0_0 0 false, .sl 1 k68 At4_0 ct4_0 t4_0 4 true, .sl 2 k99 At4_3 ct4_3 t4_3 5 true, .sl 1 k68 At6_0 ct6_0 t22_1 12 true, .sl 1 k99 At6_3 ct6_3 t23_1 14 false]) (by kernel_rfl) (sv (EV.as rfl) rfl (re (pr [1, 2, 6, 7, 8, 9, 11, 12, 16] [0, 1, 2] [0, 1, 2, 3, 4] rfl rfl rfl rfl (gs (rg (sv (EV.as rfl) rfl (re (gs (rg (sv (EV.ld (v := .agg #[.slice At6_0 t22_1.length ct6_0, .int .i64 t6_1, .int .i64 t6_2]) 2 (some 3) rfl rfl rfl) rfl (sv (EV.mv rfl) rfl ?_)))))))))))))
          revert H; refine bdI ?_; rintro t24 A24 H
          refine so rfl (op_call (laws_heldJoiner.ok k t22_1 At6_0 ct6_0 t6_1 t6_2 1 _ A24) [⟨3, 0, 0, false⟩] 15 rfl rfl rfl rfl rfl ?_)
          rintro _ _ _ ⟨rfl, rfl, rfl⟩
          refine sv (EV.as rfl) rfl (re (gs (gs (rg (sv (EV.mv rfl) rfl (sv (EV.lss rfl rfl) rfl (re ?_)))))))
          revert H; refine ifsI ?_ ?_ <;> intro c25 H
          ·
           refine gt rfl (dT c25) (gs (rg (sv (EV.as rfl) rfl (re (pr [4] [] [] rfl rfl rfl rfl ?_)))))
           cases H
           exact rt Try.func9 rfl (.tmp rfl .nil) rfl [] [] rfl rfl rfl rfl rfl ⟨rfl, rfl, rfl⟩
          ·
           refine gf rfl (dF c25) (gk (gs (rg (sv (EV.mv rfl) rfl (sv (EV.mv rfl) rfl ?_)))))
           revert H; refine bdI ?_; rintro t26 A26 H
           refine so rfl (op_call (laws_heldPairS.ok k t23_1 At6_3 ct6_3 t24 _ A26) [⟨4, 0, 0, false⟩] 15 rfl rfl rfl rfl rfl ?_)
           rintro _ _ _ ⟨rfl, rfl, rfl⟩
           refine sv (EV.as rfl) rfl (re (pr [1, 2, 6, 7, 8, 9, 11, 12, 16, 17] [0, 1, 2] [0, 1, 2, 3, 4] rfl rfl rfl rfl (gs (gs (rg (sv (EV.mv rfl) rfl (sv (EV.lss rfl rfl) rfl (re ?_))))))))
           revert H; refine ifsI ?_ ?_ <;> intro c27 H
           ·
            refine gt rfl (dT c27) (gs (rg (sv (EV.as rfl) rfl (re (pr [4] [] [] rfl rfl rfl rfl ?_)))))
            cases H
            exact rt Try.func9 rfl (.tmp rfl .nil) rfl [] [] rfl rfl rfl rfl rfl ⟨rfl, rfl, rfl⟩
           ·
            refine gf rfl (dF c27) (gk (gs (gs (rg (sv (EV.mv rfl) rfl (sv (EV.mv rfl) rfl (sv (EV.neq rfl rfl) rfl (re ?_))))))))
            revert H; refine ifsI ?_ ?_ <;> intro c28 H
            ·
             refine gf rfl (nF c28) (gk (gs (rg (sv (EV.ld (v := .agg #[.slice Al0_0 l0_0.length cl0_0, .int .i64 a0_1, .int .i64 a0_2]) 0 (some 3) rfl rfl rfl) rfl ?_))))
             revert H; refine bdI ?_; rintro ⟨t29_0, t29_1, t29_2⟩ A29 H
             refine so rfl (op_call (laws_toJoiner.ok k l0_0 Al0_0 cl0_0 a0_1 a0_2 _ _ _ A29) [⟨0, 0, 0, false⟩] 15 rfl rfl rfl rfl rfl ?_)
             rintro _ _ _ ⟨At29_0, ct29_0, rfl, rfl, rfl⟩
             refine sv (EV.mv rfl) rfl ?_
             revert H; refine bdI ?_; rintro ⟨t30_0, t30_1, t30_2, t30_3, t30_4, t30_5⟩ A30 H
             refine so rfl (op_call (impl_StepJoiner.ok k t29_0 At29_0 ct29_0 t29_1 t29_2 a1 _ _ _ _ _ _ A30) [⟨5, 0, 0, false⟩] 17 rfl rfl rfl rfl rfl ?_)
             rintro _ _ _ ⟨At30_0, ct30_0, At30_3, ct30_3, rfl, rfl, rfl⟩
             refine sv (EV.mv rfl) rfl (sv (EV.ex rfl rfl) rfl (sv (EV.ex rfl rfl) rfl (sv (EV.ex rfl rfl) rfl (sv (EV.ex rfl rfl) rfl (so rfl (op_alloc (cs := [.slice none 0 0, .int .i64 0, .int .i64 0]) (by kernel_rfl) rfl fun b18 => (so rfl (op_st (cs' := [.slice At30_0 t30_0.length ct30_0, .int .i64 t30_1, .int .i64 t30_2]) 3 rfl rfl rfl rfl rfl rfl (sv (EV.as rfl) rfl (sv (EV.as rfl) rfl (sv (EV.as rfl) rfl (re (pr [6, 7, 8, 9, 11, 12, 16, 18, 19, 20, 21] [1, 2, 3] [1, 2, 3, 4, 6, 7] rfl rfl rfl rfl (gs (gs (rg (sv (EV.ld (v := .agg #[.slice At30_0 t30_0.length ct30_0, .int .i64 t30_1, .int .i64 t30_2]) 2 (some 3) rfl rfl rfl) rfl (sv (EV.ld (v := .agg #[.slice At4_0 t4_0.length ct4_0, .int .i64 t4_1, .int .i64 t4_2]) 0 (some 3) rfl rfl rfl) rfl ?_))))))))))))))))))
             revert H; refine bdI ?_; rintro t31 A31 H
             refine so rfl (op_call (laws_eqJoiner.ok k t30_0 At30_0 ct30_0 t30_1 t30_2 t4_0 At4_0 ct4_0 t4_1 t4_2 _ A31) [⟨4, 0, 0, false⟩, ⟨0, 0, 0, false⟩] 20 rfl rfl rfl rfl rfl ?_)
             rintro _ _ _ ⟨rfl, rfl, rfl⟩
             refine sv (EV.nt rfl) rfl (sv (EV.mv rfl) rfl ?_)
             revert H; refine ifsI ?_ ?_ <;> intro c32 H
             ·
              subst c32
              refine ts 130 rfl rfl (sv (EV.mv rfl) rfl (sv (EV.mv rfl) rfl ?_))
              revert H; refine bdI ?_; rintro t33 A33 H
              refine so rfl (op_call (laws_eqPairS.ok k t30_3 At30_3 ct30_3 t4_3 At4_3 ct4_3 _ A33) [⟨5, 0, 0, false⟩, ⟨1, 0, 0, false⟩] 20 rfl rfl rfl rfl rfl ?_)
              rintro _ _ _ ⟨rfl, rfl, rfl⟩
              refine sv (EV.nt rfl) rfl (sv (EV.pf rfl rfl rfl) rfl (sv (EV.mv rfl) rfl ?_))
              revert H; refine ifsI ?_ ?_ <;> intro c34 H
              ·
               subst c34
               refine ts 136 rfl rfl (sv (EV.mv rfl) rfl (sv (EV.mv rfl) rfl (sv (EV.neq rfl rfl) rfl (sv (EV.pf rfl rfl rfl) rfl (sv (EV.mv rfl) rfl ?_)))))
               revert H; refine ifsI ?_ ?_ <;> intro c35 H
               ·
                refine ts 141 rfl (nF c35) (sv (EV.mv rfl) rfl (sv (EV.mv rfl) rfl (sv (EV.neb rfl rfl) rfl (sv (EV.pf rfl rfl rfl) rfl (re (pr [11, 12, 16, 145] [1] [2, 3] rfl rfl rfl rfl ?_))))))
                revert H; refine ifsI ?_ ?_ <;> intro c36 H
                ·
                 refine gf rfl (bN c36) (gk (gs (rg (sv (EV.as rfl) rfl (re (gs (rg (sv (EV.ld (v := .agg #[.slice At6_0 t22_1.length ct6_0, .int .i64 t6_1, .int .i64 t6_2]) 0 (some 3) rfl rfl rfl) rfl (sv (EV.mv rfl) rfl ?_)))))))))
                 revert H; refine bdI ?_; rintro t37 A37 H
                 refine so rfl (op_call (laws_heldJoiner.ok k t22_1 At6_0 ct6_0 t6_1 t6_2 1 _ A37) [⟨0, 0, 0, false⟩] 15 rfl rfl rfl rfl rfl ?_)
                 rintro _ _ _ ⟨rfl, rfl, rfl⟩
                 refine sv (EV.as rfl) rfl (re (gs (gs (rg (sv (EV.mv rfl) rfl (sv (EV.lss rfl rfl) rfl (re (pr [12, 16, 17, 150] [] [1] rfl rfl rfl rfl ?_))))))))
                 revert H; refine ifsI ?_ ?_ <;> intro c38 H
                 ·
                  refine gt rfl (dT c38) (gs (rg (sv (EV.as rfl) rfl (re ?_))))
                  cases H
                  exact rt Try.func9 rfl (.tmp rfl .nil) rfl [] [] rfl rfl rfl rfl rfl ⟨rfl, rfl, rfl⟩
                 ·
                  refine gf rfl (dF c38) (gk (gs (rg (sv (EV.mv rfl) rfl (sv (EV.mv rfl) rfl ?_)))))
                  revert H; refine bdI ?_; rintro t39 A39 H
                  refine so rfl (op_call (laws_heldPairS.ok k t23_1 At6_3 ct6_3 t37 _ A39) [⟨0, 0, 0, false⟩] 15 rfl rfl rfl rfl rfl ?_)
                  rintro _ _ _ ⟨rfl, rfl, rfl⟩
                  refine sv (EV.as rfl) rfl (re (gs (gs (rg (sv (EV.mv rfl) rfl (sv (EV.lss rfl rfl) rfl (re (pr [16, 17, 155] [] [] rfl rfl rfl rfl ?_))))))))
                  revert H; refine ifsI ?_ ?_ <;> intro c40 H
                  ·
                   refine gt rfl (dT c40) (gs (rg (sv (EV.as rfl) rfl (re ?_))))
                   cases H
                   exact rt Try.func9 rfl (.tmp rfl .nil) rfl [] [] rfl rfl rfl rfl rfl ⟨rfl, rfl, rfl⟩
                  ·
                   refine gf rfl (dF c40) (gk (gs (gs (rg (sv (EV.mv rfl) rfl (sv (EV.mv rfl) rfl (sv (EV.neq rfl rfl) rfl (re ?_))))))))
                   revert H; refine ifsI ?_ ?_ <;> intro c41 H
                   ·
                    refine gf rfl (nF c41) (gk (gs (rg (sv (EV.as rfl) rfl (re (pr [4] [] [] rfl rfl rfl rfl ?_))))))
                    cases H
                    exact rt Try.func9 rfl (.tmp rfl .nil) rfl [] [] rfl rfl rfl rfl rfl ⟨rfl, rfl, rfl⟩
                   ·
                    refine gt rfl (nT c41) (gs (rg (sv (EV.as rfl) rfl (re (pr [4] [] [] rfl rfl rfl rfl ?_)))))
                    cases H
                    exact rt Try.func9 rfl (.tmp rfl .nil) rfl [] [] rfl rfl rfl rfl rfl ⟨rfl, rfl, rfl⟩
                ·
                 refine gt rfl (bM c36) (gs (rg (sv (EV.as rfl) rfl (re ?_))))
                 cases H
                 exact rt Try.func9 rfl (.tmp rfl .nil) rfl [] [] rfl rfl rfl rfl rfl ⟨rfl, rfl, rfl⟩
               ·
                refine ts 141 rfl (nT c35) (sk rfl (sk rfl (sk rfl (sv (EV.pt rfl rfl rfl) rfl (re (pr [11, 12, 16, 145] [1] [2, 3] rfl rfl rfl rfl (gt rfl rfl (gs (rg (sv (EV.as rfl) rfl (re ?_)))))))))))
                cases H
                exact rt Try.func9 rfl (.tmp rfl .nil) rfl [] [] rfl rfl rfl rfl rfl ⟨rfl, rfl, rfl⟩
              ·
               obtain rfl := bF c34
               refine ts 136 rfl rfl (sk rfl (sk rfl (sk rfl (sv (EV.pt rfl rfl rfl) rfl (sv (EV.mv rfl) rfl (sk rfl (sk rfl (sk rfl (sv (EV.pt rfl rfl rfl) rfl (re (pr [11, 12, 16, 145] [1] [2, 3] rfl rfl rfl rfl (gt rfl rfl (gs (rg (sv (EV.as rfl) rfl (re ?_))))))))))))))))
               cases H
               exact rt Try.func9 rfl (.tmp rfl .nil) rfl [] [] rfl rfl rfl rfl rfl ⟨rfl, rfl, rfl⟩
             ·
              obtain rfl := bF c32
              refine ts 130 rfl rfl (sk rfl (sk rfl (sk rfl (sk rfl (sv (EV.pt rfl rfl rfl) rfl (sv (EV.mv rfl) rfl (sk rfl (sk rfl (sk rfl (sv (EV.pt rfl rfl rfl) rfl (sv (EV.mv rfl) rfl (sk rfl (sk rfl (sk rfl (sv (EV.pt rfl rfl rfl) rfl (re (pr [11, 12, 16, 145] [1] [2, 3] rfl rfl rfl rfl (gt rfl rfl (gs (rg (sv (EV.as rfl) rfl (re ?_))))))))))))))))))))))
              cases H
              exact rt Try.func9 rfl (.tmp rfl .nil) rfl [] [] rfl rfl rfl rfl rfl ⟨rfl, rfl, rfl⟩
            ·
             refine gt rfl (nT c28) (gs (rg (sv (EV.as rfl) rfl (re (pr [4] [] [] rfl rfl rfl rfl ?_)))))
             cases H
             exact rt Try.func9 rfl (.tmp rfl .nil) rfl [] [] rfl rfl rfl rfl rfl ⟨rfl, rfl, rfl⟩
         ·
          obtain rfl := bF c21
          refine ts 88 rfl rfl (sk rfl (sk rfl (sk rfl (sv (EV.pt rfl rfl rfl) rfl (sv (EV.mv rfl) rfl (sk rfl (sk rfl (sk rfl (sv (EV.pt rfl rfl rfl) rfl (re (pr [1, 2, 6, 7, 8, 9, 11, 12, 97] [0, 1, 3] [0, 1, 2, 3, 4] rfl rfl rfl rfl (gt rfl rfl (gs (rg (sv (EV.as rfl) rfl (re (pr [4] [] [] rfl rfl rfl rfl ?_)))))))))))))))))
          cases H
          exact rt Try.func9 rfl (.tmp rfl .nil) rfl [] [] rfl rfl rfl rfl rfl ⟨rfl, rfl, rfl⟩
        ·
         obtain rfl := bF c19
         refine ts 82 rfl rfl (sk rfl (sk rfl (sk rfl (sk rfl (sv (EV.pt rfl rfl rfl) rfl (sv (EV.mv rfl) rfl (sk rfl (sk rfl (sk rfl (sv (EV.pt rfl rfl rfl) rfl (sv (EV.mv rfl) rfl (sk rfl (sk rfl (sk rfl (sv (EV.pt rfl rfl rfl) rfl (re (pr [1, 2, 6, 7, 8, 9, 11, 12, 97] [0, 1, 3] [0, 1, 2, 3, 4] rfl rfl rfl rfl (gt rfl rfl (gs (rg (sv (EV.as rfl) rfl (re (pr [4] [] [] rfl rfl rfl rfl ?_)))))))))))))))))))))))
         cases H
         exact rt Try.func9 rfl (.tmp rfl .nil) rfl [] [] rfl rfl rfl rfl rfl ⟨rfl, rfl, rfl⟩
      ·
       obtain rfl := bF c15
       refine gt rfl rfl (gs (rg (sv (EV.as rfl) rfl (re (pr [4] [] [] rfl rfl rfl rfl ?_)))))
       cases H
       exact rt Try.func9 rfl (.tmp rfl .nil) rfl [] [] rfl rfl rfl rfl rfl ⟨rfl, rfl, rfl⟩
     ·
      refine gt rfl (bM c12) (gs (rg (sv (EV.as rfl) rfl (re (pr [4] [] [] rfl rfl rfl rfl ?_)))))
      cases H
      exact rt Try.func9 rfl (.tmp rfl .nil) rfl [] [] rfl rfl rfl rfl rfl ⟨rfl, rfl, rfl⟩
    ·
     refine ts 61 rfl (nT c11) (sk rfl (sk rfl (sk rfl (sv (EV.pt rfl rfl rfl) rfl (re (pr [1, 2, 6, 7, 8, 9, 10, 11, 12, 13, 14, 65] [0, 1, 2, 3] [0, 1, 2, 3, 4, 5] rfl rfl rfl rfl (gt rfl rfl (gs (rg (sv (EV.as rfl) rfl (re (pr [4] [] [] rfl rfl rfl rfl ?_))))))))))))
     cases H
     exact rt Try.func9 rfl (.tmp rfl .nil) rfl [] [] rfl rfl rfl rfl rfl ⟨rfl, rfl, rfl⟩
   ·
    obtain rfl := bF c10
    refine ts 56 rfl rfl (sk rfl (sk rfl (sk rfl (sv (EV.pt rfl rfl rfl) rfl (sv (EV.mv rfl) rfl (sk rfl (sk rfl (sk rfl (sv (EV.pt rfl rfl rfl) rfl (re (pr [1, 2, 6, 7, 8, 9, 10, 11, 12, 13, 14, 65] [0, 1, 2, 3] [0, 1, 2, 3, 4, 5] rfl rfl rfl rfl (gt rfl rfl (gs (rg (sv (EV.as rfl) rfl (re (pr [4] [] [] rfl rfl rfl rfl ?_)))))))))))))))))
    cases H
    exact rt Try.func9 rfl (.tmp rfl .nil) rfl [] [] rfl rfl rfl rfl rfl ⟨rfl, rfl, rfl⟩
  ·
   obtain rfl := bF c8
   refine ts 50 rfl rfl (sk rfl (sk rfl (sk rfl (sk rfl (sv (EV.pt rfl rfl rfl) rfl (sv (EV.mv rfl) rfl (sk rfl (sk rfl (sk rfl (sv (EV.pt rfl rfl rfl) rfl (sv (EV.mv rfl) rfl (sk rfl (sk rfl (sk rfl (sv (EV.pt rfl rfl rfl) rfl (re (pr [1, 2, 6, 7, 8, 9, 10, 11, 12, 13, 14, 65] [0, 1, 2, 3] [0, 1, 2, 3, 4, 5] rfl rfl rfl rfl (gt rfl rfl (gs (rg (sv (EV.as rfl) rfl (re (pr [4] [] [] rfl rfl rfl rfl ?_)))))))))))))))))))))))
   cases H
   exact rt Try.func9 rfl (.tmp rfl .nil) rfl [] [] rfl rfl rfl rfl rfl ⟨rfl, rfl, rfl⟩
end Go.Proofs.Ytfcebaplphpajaa.K
