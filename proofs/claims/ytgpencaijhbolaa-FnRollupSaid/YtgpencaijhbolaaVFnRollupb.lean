/- Walks: what the functions compute. Printed by gen.py; no condition. -/
import Derived.Test.YtgpencaijhbolaaVFnRollupa
namespace Go.Proofs.Ytgpencaijhbolaa.K
open Go Go.RowKit
set_option linter.unusedVariables false
set_option linter.unusedSimpArgs false
mutual
def spec_FormatGroups.j0 : Nat → ByteArray → Int → (List S49) → Option (ByteArray)
 | 0, _, _, _ => none
 | k + 1, x10_3, x10_4, l0 => if 0 ≤ x10_4 then (if x10_4 < (l0.length : Int) then ((spec_FormatInt.f k ((rd_T49 l0 x10_4).f0)).bind fun t5 => (if x10_3.size + t5.size ≤ 9223372036854775807 then (if (x10_3 ++ t5).size + (⟨#[58]⟩ : ByteArray).size ≤ 9223372036854775807 then ((spec_FormatInt.f k ((rd_T49 l0 x10_4).f1)).bind fun t8 => (if ((x10_3 ++ t5) ++ (⟨#[58]⟩ : ByteArray)).size + t8.size ≤ 9223372036854775807 then (if (((x10_3 ++ t5) ++ (⟨#[58]⟩ : ByteArray)) ++ t8).size + (⟨#[44]⟩ : ByteArray).size ≤ 9223372036854775807 then ((spec_FormatInt.f k ((rd_T49 l0 x10_4).f2)).bind fun t11 => (if ((((x10_3 ++ t5) ++ (⟨#[58]⟩ : ByteArray)) ++ t8) ++ (⟨#[44]⟩ : ByteArray)).size + t11.size ≤ 9223372036854775807 then (if (((((x10_3 ++ t5) ++ (⟨#[58]⟩ : ByteArray)) ++ t8) ++ (⟨#[44]⟩ : ByteArray)) ++ t11).size + (⟨#[44]⟩ : ByteArray).size ≤ 9223372036854775807 then ((spec_FormatInt.f k ((rd_T49 l0 x10_4).f3)).bind fun t14 => (if ((((((x10_3 ++ t5) ++ (⟨#[58]⟩ : ByteArray)) ++ t8) ++ (⟨#[44]⟩ : ByteArray)) ++ t11) ++ (⟨#[44]⟩ : ByteArray)).size + t14.size ≤ 9223372036854775807 then (if (((((((x10_3 ++ t5) ++ (⟨#[58]⟩ : ByteArray)) ++ t8) ++ (⟨#[44]⟩ : ByteArray)) ++ t11) ++ (⟨#[44]⟩ : ByteArray)) ++ t14).size + (⟨#[44]⟩ : ByteArray).size ≤ 9223372036854775807 then ((spec_FormatInt.f k ((rd_T49 l0 x10_4).f4)).bind fun t17 => (if ((((((((x10_3 ++ t5) ++ (⟨#[58]⟩ : ByteArray)) ++ t8) ++ (⟨#[44]⟩ : ByteArray)) ++ t11) ++ (⟨#[44]⟩ : ByteArray)) ++ t14) ++ (⟨#[44]⟩ : ByteArray)).size + t17.size ≤ 9223372036854775807 then (spec_FormatGroups.l0 k (((((((((x10_3 ++ t5) ++ (⟨#[58]⟩ : ByteArray)) ++ t8) ++ (⟨#[44]⟩ : ByteArray)) ++ t11) ++ (⟨#[44]⟩ : ByteArray)) ++ t14) ++ (⟨#[44]⟩ : ByteArray)) ++ t17) (wrap64 (x10_4 + 1)) l0) else none)) else none) else none)) else none) else none)) else none) else none)) else none) else none)) else none) else none
def spec_FormatGroups.l0 : Nat → ByteArray → Int → (List S49) → Option (ByteArray)
 | 0, _, _, _ => none
 | k + 1, x6_3, x6_4, l0 => if x6_4 < (l0.length : Int) then (if x6_4 > 0 then (if x6_3.size + (⟨#[32]⟩ : ByteArray).size ≤ 9223372036854775807 then (spec_FormatGroups.j0 k (x6_3 ++ (⟨#[32]⟩ : ByteArray)) x6_4 l0) else none) else (spec_FormatGroups.j0 k x6_3 x6_4 l0)) else (some x6_3)
end
def spec_FormatGroups.f (k : Nat) (l0 : List S49) : Option (ByteArray) := spec_FormatGroups.l0 k (⟨#[]⟩ : ByteArray) 0 l0
set_option maxHeartbeats 4000000 in
set_option maxRecDepth 100000 in
theorem spec_FormatGroups.ok (k : Nat) (l0 : List S49) (Al0 : Option Addr) (cl0 : Nat) (r0 : ByteArray) (H : spec_FormatGroups.f k l0 = some r0) : Fn Try.prog 64 [.slice Al0 l0.length cl0] [] [.sl 0 k49 Al0 cl0 l0 0 false] (fun v bx en => v = .string r0 ∧ bx = [] ∧ en = []) := by
 refine fn_ 56 Try.func64 rfl rfl rfl (fun base T w0 => ?_)
 rw [spec_FormatGroups.f] at H
 refine gs (rg (sv (EV.as rfl) rfl (re (gs (rg (sv (EV.as rfl) rfl (re (gs (gs (rg (sv (EV.as rfl) rfl (re (gb ?_)))))))))))))
 refine lo (fun kk S => ∃ (x6_3 : ByteArray) (x6_4 : Int), spec_FormatGroups.l0 kk x6_3 x6_4 l0 = some r0 ∧ S = ⟨[(0, .slice Al0 l0.length cl0), (3, .string x6_3), (4, .int .i64 x6_4)], [], [.sl 0 k49 Al0 cl0 l0 0 false]⟩) (fun S hS => ?_) (fun n0 ih0 S hS => ?_) ⟨(⟨#[]⟩ : ByteArray), 0, H, rfl⟩ (fun h => wk [0, 3, 4] [] [⟨0, 0, 0, false⟩] h)
 · clear H; obtain ⟨_, _, H, _⟩ := hS; rw [spec_FormatGroups.l0] at H; cases H
 clear H
 obtain ⟨x6_3, x6_4, H, rfl⟩ := hS
 rw [spec_FormatGroups.l0] at H
 refine gs (gs (rg (sv (EV.mv rfl) rfl (sv (EV.mv rfl) rfl (sv (EV.ln rfl) rfl (sv (EV.lss rfl rfl) rfl (re ?_)))))))
 revert H; refine ifsI ?_ ?_ <;> intro c1 H
 ·
  refine gt rfl (dT c1) (gk (gs (gb ?_)))
  refine jo (fun S => ∃ (m : Nat) (x10_3 : ByteArray) (x10_4 : Int), m ≤ n0 ∧ spec_FormatGroups.j0 m x10_3 x10_4 l0 = some r0 ∧ S = ⟨[(0, .slice Al0 l0.length cl0), (3, .string x10_3), (4, .int .i64 x10_4)], [], [.sl 0 k49 Al0 cl0 l0 0 false]⟩) (fun S hS => ?_) (fun jh0 => ?_)
  ·
   clear H
   obtain ⟨m2, x10_3, x10_4, lm2, H, rfl⟩ := hS
   rcases m2 with _ | m2
   · rw [spec_FormatGroups.j0] at H; cases H
   rw [spec_FormatGroups.j0] at H
   revert H; refine ggI ?_; intro g3 H
   revert H; refine ggI ?_; intro g4 H
   refine dr [] [0] [] 41 rfl rfl rfl rfl (xv 0 [] [0] rfl (EV.mv rfl) rfl rfl rfl rfl (xv 1 [] [0] rfl (EV.mv rfl) rfl rfl rfl rfl (xv 2 [] [0] rfl (EV.mv rfl) rfl rfl rfl rfl (xv 3 [] [0] rfl (EV.ix 0 rfl rfl rfl g3 g4 rfl) rfl rfl rfl rfl (xv 4 [] [0] rfl (EV.fa 0 rfl) rfl rfl rfl rfl (xv 5 [] [0] rfl (EV.le (v := .int .i64 ((rd_T49 l0 x10_4).f0)) x10_4 0 none 0 z49 rfl rfl rfl g3 g4 rfl rfl rfl) rfl rfl rfl rfl (xv 9 [] [0] rfl (EV.mv rfl) rfl rfl rfl rfl (xv 10 [] [0] rfl (EV.mv rfl) rfl rfl rfl rfl (xv 11 [] [0] rfl (EV.ix 0 rfl rfl rfl g3 g4 rfl) rfl rfl rfl rfl (xv 12 [] [0] rfl (EV.fa 1 rfl) rfl rfl rfl rfl (xv 13 [] [0] rfl (EV.le (v := .int .i64 ((rd_T49 l0 x10_4).f1)) x10_4 1 none 0 z49 rfl rfl rfl g3 g4 rfl rfl rfl) rfl rfl rfl rfl (xv 17 [] [0] rfl (EV.mv rfl) rfl rfl rfl rfl (xv 18 [] [0] rfl (EV.mv rfl) rfl rfl rfl rfl (xv 19 [] [0] rfl (EV.ix 0 rfl rfl rfl g3 g4 rfl) rfl rfl rfl rfl (xv 20 [] [0] rfl (EV.fa 2 rfl) rfl rfl rfl rfl (xv 21 [] [0] rfl (EV.le (v := .int .i64 ((rd_T49 l0 x10_4).f2)) x10_4 2 none 0 z49 rfl rfl rfl g3 g4 rfl rfl rfl) rfl rfl rfl rfl (xv 25 [] [0] rfl (EV.mv rfl) rfl rfl rfl rfl (xv 26 [] [0] rfl (EV.mv rfl) rfl rfl rfl rfl (xv 27 [] [0] rfl (EV.ix 0 rfl rfl rfl g3 g4 rfl) rfl rfl rfl rfl (xv 28 [] [0] rfl (EV.fa 3 rfl) rfl rfl rfl rfl (xv 29 [] [0] rfl (EV.le (v := .int .i64 ((rd_T49 l0 x10_4).f3)) x10_4 3 none 0 z49 rfl rfl rfl g3 g4 rfl rfl rfl) rfl rfl rfl rfl (xv 33 [] [0] rfl (EV.mv rfl) rfl rfl rfl rfl (xv 34 [] [0] rfl (EV.mv rfl) rfl rfl rfl rfl (xv 35 [] [0] rfl (EV.ix 0 rfl rfl rfl g3 g4 rfl) rfl rfl rfl rfl (xv 36 [] [0] rfl (EV.fa 4 rfl) rfl rfl rfl rfl (xv 37 [] [0] rfl (EV.le (v := .int .i64 ((rd_T49 l0 x10_4).f4)) x10_4 4 none 0 z49 rfl rfl rfl g3 g4 rfl rfl rfl) rfl rfl rfl rfl (one1 6 rfl rfl ?_)))))))))))))))))))))))))))
   revert H; refine bdI ?_; rintro t5 A5 H
   refine op_call (spec_FormatInt.ok m2 ((rd_T49 l0 x10_4).f0) _ A5) [] 1 rfl rfl rfl rfl rfl ?_
   rintro _ _ _ ⟨rfl, rfl, rfl⟩
   refine xs [] [0] rfl rfl rfl ?_
   revert H; refine ggI ?_; intro g6 H
   refine xv 7 [] [0] rfl (EV.ads rfl rfl g6) rfl rfl rfl rfl ?_
   revert H; refine ggI ?_; intro g7 H
   refine xv 8 [] [0] rfl (EV.ads rfl rfl g7) rfl rfl rfl rfl (one1 14 rfl rfl ?_)
   revert H; refine bdI ?_; rintro t8 A8 H
   refine op_call (spec_FormatInt.ok m2 ((rd_T49 l0 x10_4).f1) _ A8) [] 1 rfl rfl rfl rfl rfl ?_
   rintro _ _ _ ⟨rfl, rfl, rfl⟩
   refine xs [] [0] rfl rfl rfl ?_
   revert H; refine ggI ?_; intro g9 H
   refine xv 15 [] [0] rfl (EV.ads rfl rfl g9) rfl rfl rfl rfl ?_
   revert H; refine ggI ?_; intro g10 H
   refine xv 16 [] [0] rfl (EV.ads rfl rfl g10) rfl rfl rfl rfl (one1 22 rfl rfl ?_)
   revert H; refine bdI ?_; rintro t11 A11 H
   refine op_call (spec_FormatInt.ok m2 ((rd_T49 l0 x10_4).f2) _ A11) [] 1 rfl rfl rfl rfl rfl ?_
   rintro _ _ _ ⟨rfl, rfl, rfl⟩
   refine xs [] [0] rfl rfl rfl ?_
   revert H; refine ggI ?_; intro g12 H
   refine xv 23 [] [0] rfl (EV.ads rfl rfl g12) rfl rfl rfl rfl ?_
   revert H; refine ggI ?_; intro g13 H
   refine xv 24 [] [0] rfl (EV.ads rfl rfl g13) rfl rfl rfl rfl (one1 30 rfl rfl ?_)
   revert H; refine bdI ?_; rintro t14 A14 H
   refine op_call (spec_FormatInt.ok m2 ((rd_T49 l0 x10_4).f3) _ A14) [] 1 rfl rfl rfl rfl rfl ?_
   rintro _ _ _ ⟨rfl, rfl, rfl⟩
   refine xs [] [0] rfl rfl rfl ?_
   revert H; refine ggI ?_; intro g15 H
   refine xv 31 [] [0] rfl (EV.ads rfl rfl g15) rfl rfl rfl rfl ?_
   revert H; refine ggI ?_; intro g16 H
   refine xv 32 [] [0] rfl (EV.ads rfl rfl g16) rfl rfl rfl rfl (one1 38 rfl rfl ?_)
   revert H; refine bdI ?_; rintro t17 A17 H
   refine op_call (spec_FormatInt.ok m2 ((rd_T49 l0 x10_4).f4) _ A17) [] 1 rfl rfl rfl rfl rfl ?_
   rintro _ _ _ ⟨rfl, rfl, rfl⟩
   refine xs [] [0] rfl rfl rfl ?_
   revert H; refine ggI ?_; intro g18 H
   exact xv 39 [] [0] rfl (EV.ads rfl rfl g18) rfl rfl rfl rfl (xv 40 [] [0] rfl (EV.as rfl) rfl rfl rfl rfl (xd (pr [0, 3, 4] [] [0] rfl rfl rfl rfl (ge (rg (sv (EV.mv rfl) rfl (sv (EV.add rfl rfl) rfl (sv (EV.as rfl) rfl (re (wk [0, 3, 4] [] [⟨0, 0, 0, false⟩] (ih0 _ (by omega) _ ⟨((((((((x10_3 ++ t5) ++ (⟨#[58]⟩ : ByteArray)) ++ t8) ++ (⟨#[44]⟩ : ByteArray)) ++ t11) ++ (⟨#[44]⟩ : ByteArray)) ++ t14) ++ (⟨#[44]⟩ : ByteArray)) ++ t17, wrap64 (x10_4 + 1), H, rfl⟩)))))))))))
  ·
   refine gs (rg (sv (EV.mv rfl) rfl (sv (EV.gtr rfl rfl) rfl (re ?_))))
   revert H; refine ifsI ?_ ?_ <;> intro c19 H
   ·
    refine gt rfl (dT c19) (rg (sv (EV.mv rfl) rfl ?_))
    revert H; refine ggI ?_; intro g20 H
    exact sv (EV.ads rfl rfl g20) rfl (sv (EV.as rfl) rfl (re (pr [0, 3, 4] [] [0] rfl rfl rfl rfl (wk [0, 3, 4] [] [⟨0, 0, 0, false⟩] (jh0 _ ⟨_, x6_3 ++ (⟨#[32]⟩ : ByteArray), x6_4, by omega, H, rfl⟩)))))
   ·
    exact gf rfl (dF c19) (gk (wk [0, 3, 4] [] [⟨0, 0, 0, false⟩] (jh0 _ ⟨_, x6_3, x6_4, by omega, H, rfl⟩)))
 ·
  refine gf rfl (dF c1) (gx rfl (gs (rg (sv (EV.mv rfl) rfl (sv (EV.as rfl) rfl (re (pr [2] [] [] rfl rfl rfl rfl ?_)))))))
  cases H
  exact rt Try.func64 rfl (.tmp rfl .nil) rfl [] [] rfl rfl rfl rfl rfl ⟨rfl, rfl, rfl⟩
mutual
def spec_FormatRollup.j0 : Nat → ByteArray → Int → (List S51) → Option (ByteArray)
 | 0, _, _, _ => none
 | k + 1, x10_3, x10_4, l0 => if 0 ≤ x10_4 then (if x10_4 < (l0.length : Int) then ((spec_FormatInt.f k ((rd_T51 l0 x10_4).f0)).bind fun t5 => (if x10_3.size + t5.size ≤ 9223372036854775807 then (if (x10_3 ++ t5).size + (⟨#[47]⟩ : ByteArray).size ≤ 9223372036854775807 then ((spec_FormatGroups.f k ([(⟨(rd_T51 l0 x10_4).f1.f0, (rd_T51 l0 x10_4).f1.f1, (rd_T51 l0 x10_4).f1.f2, (rd_T51 l0 x10_4).f1.f3, (rd_T51 l0 x10_4).f1.f4⟩ : S49)] : List S49)).bind fun t9 => (if ((x10_3 ++ t5) ++ (⟨#[47]⟩ : ByteArray)).size + t9.size ≤ 9223372036854775807 then (spec_FormatRollup.l0 k (((x10_3 ++ t5) ++ (⟨#[47]⟩ : ByteArray)) ++ t9) (wrap64 (x10_4 + 1)) l0) else none)) else none) else none)) else none) else none
def spec_FormatRollup.l0 : Nat → ByteArray → Int → (List S51) → Option (ByteArray)
 | 0, _, _, _ => none
 | k + 1, x6_3, x6_4, l0 => if x6_4 < (l0.length : Int) then (if x6_4 > 0 then (if x6_3.size + (⟨#[32]⟩ : ByteArray).size ≤ 9223372036854775807 then (spec_FormatRollup.j0 k (x6_3 ++ (⟨#[32]⟩ : ByteArray)) x6_4 l0) else none) else (spec_FormatRollup.j0 k x6_3 x6_4 l0)) else (some x6_3)
end
def spec_FormatRollup.f (k : Nat) (l0 : List S51) : Option (ByteArray) := spec_FormatRollup.l0 k (⟨#[]⟩ : ByteArray) 0 l0
set_option maxHeartbeats 4000000 in
set_option maxRecDepth 100000 in
theorem spec_FormatRollup.ok (k : Nat) (l0 : List S51) (Al0 : Option Addr) (cl0 : Nat) (r0 : ByteArray) (H : spec_FormatRollup.f k l0 = some r0) : Fn Try.prog 31 [.slice Al0 l0.length cl0] [] [.sl 0 k51 Al0 cl0 l0 0 false] (fun v bx en => v = .string r0 ∧ bx = [] ∧ en = []) := by
 refine fn_ 33 Try.func31 rfl rfl rfl (fun base T w0 => ?_)
 rw [spec_FormatRollup.f] at H
 refine gs (rg (sv (EV.as rfl) rfl (re (gs (rg (sv (EV.as rfl) rfl (re (gs (gs (rg (sv (EV.as rfl) rfl (re (gb ?_)))))))))))))
 refine lo (fun kk S => ∃ (x6_3 : ByteArray) (x6_4 : Int), spec_FormatRollup.l0 kk x6_3 x6_4 l0 = some r0 ∧ S = ⟨[(0, .slice Al0 l0.length cl0), (3, .string x6_3), (4, .int .i64 x6_4)], [], [.sl 0 k51 Al0 cl0 l0 0 false]⟩) (fun S hS => ?_) (fun n0 ih0 S hS => ?_) ⟨(⟨#[]⟩ : ByteArray), 0, H, rfl⟩ (fun h => wk [0, 3, 4] [] [⟨0, 0, 0, false⟩] h)
 · clear H; obtain ⟨_, _, H, _⟩ := hS; rw [spec_FormatRollup.l0] at H; cases H
 clear H
 obtain ⟨x6_3, x6_4, H, rfl⟩ := hS
 rw [spec_FormatRollup.l0] at H
 refine gs (gs (rg (sv (EV.mv rfl) rfl (sv (EV.mv rfl) rfl (sv (EV.ln rfl) rfl (sv (EV.lss rfl rfl) rfl (re ?_)))))))
 revert H; refine ifsI ?_ ?_ <;> intro c1 H
 ·
  refine gt rfl (dT c1) (gk (gs (gb ?_)))
  refine jo (fun S => ∃ (m : Nat) (x10_3 : ByteArray) (x10_4 : Int), m ≤ n0 ∧ spec_FormatRollup.j0 m x10_3 x10_4 l0 = some r0 ∧ S = ⟨[(0, .slice Al0 l0.length cl0), (3, .string x10_3), (4, .int .i64 x10_4)], [], [.sl 0 k51 Al0 cl0 l0 0 false]⟩) (fun S hS => ?_) (fun jh0 => ?_)
  ·
   clear H
   obtain ⟨m2, x10_3, x10_4, lm2, H, rfl⟩ := hS
   rcases m2 with _ | m2
   · rw [spec_FormatRollup.j0] at H; cases H
   rw [spec_FormatRollup.j0] at H
   revert H; refine ggI ?_; intro g3 H
   revert H; refine ggI ?_; intro g4 H
   refine dr [] [0] [] 18 rfl rfl rfl rfl (xv 0 [] [0] rfl (EV.mv rfl) rfl rfl rfl rfl (xv 1 [] [0] rfl (EV.mv rfl) rfl rfl rfl rfl (xv 2 [] [0] rfl (EV.mv rfl) rfl rfl rfl rfl (xv 3 [] [0] rfl (EV.ix 0 rfl rfl rfl g3 g4 rfl) rfl rfl rfl rfl (xv 4 [] [0] rfl (EV.fa 0 rfl) rfl rfl rfl rfl (xv 5 [] [0] rfl (EV.le (v := .int .i64 ((rd_T51 l0 x10_4).f0)) x10_4 0 none 0 z51 rfl rfl rfl g3 g4 rfl rfl rfl) rfl rfl rfl rfl (xv 9 [] [0] rfl (EV.mv rfl) rfl rfl rfl rfl (xv 10 [] [0] rfl (EV.mv rfl) rfl rfl rfl rfl (xv 11 [] [0] rfl (EV.ix 0 rfl rfl rfl g3 g4 rfl) rfl rfl rfl rfl (xv 12 [] [0] rfl (EV.fa 1 rfl) rfl rfl rfl rfl (xv 13 [] [0] rfl (EV.le (v := .agg #[.int .i64 ((rd_T51 l0 x10_4).f1.f0), .int .i64 ((rd_T51 l0 x10_4).f1.f1), .int .i64 ((rd_T51 l0 x10_4).f1.f2), .int .i64 ((rd_T51 l0 x10_4).f1.f3), .int .i64 ((rd_T51 l0 x10_4).f1.f4)]) x10_4 1 (some 5) 0 z51 rfl rfl rfl g3 g4 rfl rfl rfl) rfl rfl rfl rfl ?_)))))))))))
   refine one2 6 14 rfl rfl rfl rfl ?_ ?_
   ·
    revert H; refine bdI ?_; rintro t5 A5 H
    refine op_call (spec_FormatInt.ok m2 ((rd_T51 l0 x10_4).f0) _ A5) [] 1 rfl rfl rfl rfl rfl ?_
    rintro _ _ _ ⟨rfl, rfl, rfl⟩
    refine xs [] [0] rfl rfl rfl ?_
    revert H; refine ggI ?_; intro g6 H
    refine xv 7 [] [0] rfl (EV.ads rfl rfl g6) rfl rfl rfl rfl ?_
    revert H; refine ggI ?_; intro g7 H
    refine xv 8 [] [0] rfl (EV.ads rfl rfl g7) rfl rfl rfl rfl (one1 14 rfl rfl (op_lit (s := 5) (by_ := 40) k49 ([(⟨(rd_T51 l0 x10_4).f1.f0, (rd_T51 l0 x10_4).f1.f1, (rd_T51 l0 x10_4).f1.f2, (rd_T51 l0 x10_4).f1.f3, (rd_T51 l0 x10_4).f1.f4⟩ : S49)] : List S49) [[]] [] 1 [.tmp 28] rfl rfl rfl rfl rfl rfl rfl rfl rfl rfl rfl rfl rfl dq rfl fun A29_8 c29_8 => (xs [] [0] rfl rfl rfl (one1 15 rfl rfl ?_))))
    revert H; refine bdI ?_; rintro t9 A9 H
    refine op_call (spec_FormatGroups.ok m2 ([(⟨(rd_T51 l0 x10_4).f1.f0, (rd_T51 l0 x10_4).f1.f1, (rd_T51 l0 x10_4).f1.f2, (rd_T51 l0 x10_4).f1.f3, (rd_T51 l0 x10_4).f1.f4⟩ : S49)] : List S49) A29_8 c29_8 _ A9) [⟨1, 0, 0, false⟩] 2 rfl rfl rfl rfl rfl ?_
    rintro _ _ _ ⟨rfl, rfl, rfl⟩
    refine xs [] [0] rfl rfl rfl ?_
    revert H; refine ggI ?_; intro g10 H
    exact xv 16 [] [0] rfl (EV.ads rfl rfl g10) rfl rfl rfl rfl (xv 17 [] [0] rfl (EV.as rfl) rfl rfl rfl rfl (xd (pr [0, 3, 4] [] [0] rfl rfl rfl rfl (ge (rg (sv (EV.mv rfl) rfl (sv (EV.add rfl rfl) rfl (sv (EV.as rfl) rfl (re (wk [0, 3, 4] [] [⟨0, 0, 0, false⟩] (ih0 _ (by omega) _ ⟨((x10_3 ++ t5) ++ (⟨#[47]⟩ : ByteArray)) ++ t9, wrap64 (x10_4 + 1), H, rfl⟩)))))))))))
   ·
    refine op_lit (s := 5) (by_ := 40) k49 ([(⟨(rd_T51 l0 x10_4).f1.f0, (rd_T51 l0 x10_4).f1.f1, (rd_T51 l0 x10_4).f1.f2, (rd_T51 l0 x10_4).f1.f3, (rd_T51 l0 x10_4).f1.f4⟩ : S49)] : List S49) [[]] [] 1 [.tmp 28] rfl rfl rfl rfl rfl rfl rfl rfl rfl rfl rfl rfl rfl dq rfl fun A29_11 c29_11 => (xs [] [0] rfl rfl rfl (one1 6 rfl rfl ?_))
    revert H; refine bdI ?_; rintro t12 A12 H
    refine op_call (spec_FormatInt.ok m2 ((rd_T51 l0 x10_4).f0) _ A12) [] 2 rfl rfl rfl rfl rfl ?_
    rintro _ _ _ ⟨rfl, rfl, rfl⟩
    refine xs [] [0] rfl rfl rfl ?_
    revert H; refine ggI ?_; intro g13 H
    refine xv 7 [] [0] rfl (EV.ads rfl rfl g13) rfl rfl rfl rfl ?_
    revert H; refine ggI ?_; intro g14 H
    refine xv 8 [] [0] rfl (EV.ads rfl rfl g14) rfl rfl rfl rfl (one1 15 rfl rfl ?_)
    revert H; refine bdI ?_; rintro t15 A15 H
    refine op_call (spec_FormatGroups.ok m2 ([(⟨(rd_T51 l0 x10_4).f1.f0, (rd_T51 l0 x10_4).f1.f1, (rd_T51 l0 x10_4).f1.f2, (rd_T51 l0 x10_4).f1.f3, (rd_T51 l0 x10_4).f1.f4⟩ : S49)] : List S49) A29_11 c29_11 _ A15) [⟨1, 0, 0, false⟩] 2 rfl rfl rfl rfl rfl ?_
    rintro _ _ _ ⟨rfl, rfl, rfl⟩
    refine xs [] [0] rfl rfl rfl ?_
    revert H; refine ggI ?_; intro g16 H
    exact xv 16 [] [0] rfl (EV.ads rfl rfl g16) rfl rfl rfl rfl (xv 17 [] [0] rfl (EV.as rfl) rfl rfl rfl rfl (xd (pr [0, 3, 4] [] [0] rfl rfl rfl rfl (ge (rg (sv (EV.mv rfl) rfl (sv (EV.add rfl rfl) rfl (sv (EV.as rfl) rfl (re (wk [0, 3, 4] [] [⟨0, 0, 0, false⟩] (ih0 _ (by omega) _ ⟨((x10_3 ++ t12) ++ (⟨#[47]⟩ : ByteArray)) ++ t15, wrap64 (x10_4 + 1), H, rfl⟩)))))))))))
  ·
   refine gs (rg (sv (EV.mv rfl) rfl (sv (EV.gtr rfl rfl) rfl (re ?_))))
   revert H; refine ifsI ?_ ?_ <;> intro c17 H
   ·
    refine gt rfl (dT c17) (rg (sv (EV.mv rfl) rfl ?_))
    revert H; refine ggI ?_; intro g18 H
    exact sv (EV.ads rfl rfl g18) rfl (sv (EV.as rfl) rfl (re (pr [0, 3, 4] [] [0] rfl rfl rfl rfl (wk [0, 3, 4] [] [⟨0, 0, 0, false⟩] (jh0 _ ⟨_, x6_3 ++ (⟨#[32]⟩ : ByteArray), x6_4, by omega, H, rfl⟩)))))
   ·
    exact gf rfl (dF c17) (gk (wk [0, 3, 4] [] [⟨0, 0, 0, false⟩] (jh0 _ ⟨_, x6_3, x6_4, by omega, H, rfl⟩)))
 ·
  refine gf rfl (dF c1) (gx rfl (gs (rg (sv (EV.mv rfl) rfl (sv (EV.as rfl) rfl (re (pr [2] [] [] rfl rfl rfl rfl ?_)))))))
  cases H
  exact rt Try.func31 rfl (.tmp rfl .nil) rfl [] [] rfl rfl rfl rfl rfl ⟨rfl, rfl, rfl⟩
def laws_big.f (l0 : List Int) : Option (Bool) := some (decide ((l0.length : Int) > 1048576))
set_option maxHeartbeats 4000000 in
set_option maxRecDepth 100000 in
theorem laws_big.ok (l0 : List Int) (Al0 : Option Addr) (cl0 : Nat) (r0 : Bool) (H : laws_big.f l0 = some r0) : Fn Try.prog 6 [.slice Al0 l0.length cl0] [] [.sl 0 (.int .u8) Al0 cl0 l0 0 false] (fun v bx en => v = .bool r0 ∧ bx = [] ∧ en = []) := by
 refine fn_ 6 Try.func6 rfl rfl rfl (fun base T w0 => ?_)
 rw [laws_big.f] at H
 refine gs (rg (sv (EV.as rfl) rfl (re (gs (rg (sv (EV.mv rfl) rfl (sv (EV.ln rfl) rfl (sv (EV.gtr rfl rfl) rfl (sv (EV.as rfl) rfl (re ?_))))))))))
 cases H
 exact rt Try.func6 rfl (.tmp rfl .nil) rfl [] [] rfl rfl rfl rfl rfl ⟨rfl, rfl, rfl⟩
def laws_FnRollup.l0 : Nat → (List S75) → (List S51) → (List S51) → (List S51) → (List Int) → Int → Option (Bool)
 | 0, _, _, _, _, _, _ => none
 | k + 1, x2_3, x2_4, x2_5, x2_6, x2_10, x2_11 => if x2_11 < (x2_4.length : Int) then (if 0 ≤ x2_11 then (if x2_11 < (x2_5.length : Int) then (if (((rd_T51 x2_4 x2_11).f0) == ((rd_T51 x2_5 x2_11).f0) && ((((rd_T51 x2_4 x2_11).f1.f0) == ((rd_T51 x2_5 x2_11).f1.f0) && (((rd_T51 x2_4 x2_11).f1.f1) == ((rd_T51 x2_5 x2_11).f1.f1) && (((rd_T51 x2_4 x2_11).f1.f2) == ((rd_T51 x2_5 x2_11).f1.f2) && (((rd_T51 x2_4 x2_11).f1.f3) == ((rd_T51 x2_5 x2_11).f1.f3) && (((rd_T51 x2_4 x2_11).f1.f4) == ((rd_T51 x2_5 x2_11).f1.f4)))))))) = true then (if x2_11 < (x2_6.length : Int) then (if (((rd_T51 x2_6 x2_11).f0) == ((rd_T51 x2_4 x2_11).f0) && ((((rd_T51 x2_6 x2_11).f1.f0) == ((rd_T51 x2_4 x2_11).f1.f0) && (((rd_T51 x2_6 x2_11).f1.f1) == ((rd_T51 x2_4 x2_11).f1.f1) && (((rd_T51 x2_6 x2_11).f1.f2) == ((rd_T51 x2_4 x2_11).f1.f2) && (((rd_T51 x2_6 x2_11).f1.f3) == ((rd_T51 x2_4 x2_11).f1.f3) && (((rd_T51 x2_6 x2_11).f1.f4) == ((rd_T51 x2_4 x2_11).f1.f4)))))))) = true then (if ((rd_T51 x2_4 x2_11).f0) < 0 then (some false) else (if ((rd_T51 x2_4 x2_11).f0) > 2 then (some false) else (if 0 ≤ ((rd_T51 x2_4 x2_11).f0) then (if ((rd_T51 x2_4 x2_11).f0) < (x2_10.length : Int) then (laws_FnRollup.l0 k x2_3 x2_4 x2_5 x2_6 (x2_10.set ((rd_T51 x2_4 x2_11).f0).toNat (wrap64 ((rdOf 0 x2_10 ((rd_T51 x2_4 x2_11).f0)) + ((rd_T51 x2_4 x2_11).f1.f1)))) (wrap64 (x2_11 + 1))) else none) else none))) else (some false)) else none) else (some false)) else none) else none) else (if 0 < (x2_10.length : Int) then (if (rdOf 0 x2_10 0) = (x2_3.length : Int) then (if 1 < (x2_10.length : Int) then (if (rdOf 0 x2_10 1) = (x2_3.length : Int) then (if 2 < (x2_10.length : Int) then (some (decide ((rdOf 0 x2_10 2) = (x2_3.length : Int)))) else none) else (some false)) else none) else (some false)) else none)
def laws_FnRollup.f (k : Nat) (l0 : List Int) : Option (Bool) := (laws_big.f l0).bind fun t1 => (if t1 = true then (some true) else ((spec_DrawRollupRows.f k l0).bind fun t3 => ((impl_RollupRows.f k t3).bind fun t4 => ((spec_RollupRows.f k t3).bind fun t5 => ((impl_ReferenceGroups.f k t3).bind fun t6 => ((impl_RollupGroups.f k t6).bind fun t7 => ((spec_DrawRollupKey.f k l0).bind fun bt8 => ((spec_DrawRollupGroups.f k l0).bind fun t9 => (if (t4.length : Int) = (t5.length : Int) then (if (t7.length : Int) = (t4.length : Int) then ((impl_RollupKey.f bt8.1 bt8.2).bind fun t12 => ((spec_RollupKey.f bt8.1 bt8.2).bind fun t13 => (if t12 = t13 then ((impl_FormatRollup.f k t4).bind fun t15 => ((spec_FormatRollup.f k t5).bind fun t16 => (if t15.toList = t16.toList then ((impl_RollupGroups.f k t9).bind fun t18 => ((impl_FormatRollup.f k t18).bind fun t19 => ((spec_RollupGroups.f k t9).bind fun t20 => ((spec_FormatRollup.f k t20).bind fun t21 => (if t19.toList = t21.toList then (laws_FnRollup.l0 k t3 t4 t5 t7 ([0, 0, 0] : List Int) 0) else (some false)))))) else (some false)))) else (some false)))) else (some false)) else (some false))))))))))
set_option maxHeartbeats 4000000 in
set_option maxRecDepth 100000 in
theorem laws_FnRollup.ok (k : Nat) (l0 : List Int) (Al0 : Option Addr) (cl0 : Nat) (r0 : Bool) (H : laws_FnRollup.f k l0 = some r0) : Fn Try.prog 4 [.slice Al0 l0.length cl0] [] [.sl 0 (.int .u8) Al0 cl0 l0 0 false] (fun v bx en => v = .bool r0 ∧ bx = [] ∧ en = []) := by
 refine fn_ 154 Try.func4 rfl rfl rfl (fun base T w0 => ?_)
 rw [laws_FnRollup.f] at H
 refine gs (rg (sv (EV.as rfl) rfl (re (gs (gs (rg (sv (EV.mv rfl) rfl ?_)))))))
 revert H; refine bdI ?_; rintro t1 A1 H
 refine so rfl (op_call (laws_big.ok l0 Al0 cl0 _ A1) [⟨0, 0, 0, false⟩] 1 rfl rfl rfl rfl rfl ?_)
 rintro _ _ _ ⟨rfl, rfl, rfl⟩
 refine re ?_
 revert H; refine ifsI ?_ ?_ <;> intro c2 H
 ·
  subst c2
  refine gt rfl rfl (gs (rg (sv (EV.as rfl) rfl (re ?_))))
  cases H
  exact rt Try.func4 rfl (.tmp rfl .nil) rfl [] [] rfl rfl rfl rfl rfl ⟨rfl, rfl, rfl⟩
 ·
  obtain rfl := bF c2
  refine gf rfl rfl (gk (gs (rg (sv (EV.mv rfl) rfl ?_))))
  revert H; refine bdI ?_; rintro t3 A3 H
  refine so rfl (op_call (spec_DrawRollupRows.ok k l0 Al0 cl0 _ A3) [⟨0, 0, 0, false⟩] 1 rfl rfl rfl rfl rfl ?_)
  rintro _ _ _ ⟨At3, ct3, rfl, rfl, rfl⟩
  refine sv (EV.as rfl) rfl (re (gs (rg (sv (EV.mv rfl) rfl ?_))))
  revert H; refine bdI ?_; rintro t4 A4 H
  refine so rfl (op_call (impl_RollupRows.ok k t3 At3 ct3 _ A4) [⟨1, 0, 0, false⟩] 3 rfl rfl rfl rfl rfl ?_)
  rintro _ _ _ ⟨At4, ct4, rfl, rfl, rfl⟩
  refine sv (EV.as rfl) rfl (re (pr [0, 3, 4] [] [0, 1, 2] rfl rfl rfl rfl (gs (rg (sv (EV.mv rfl) rfl ?_)))))
  revert H; refine bdI ?_; rintro t5 A5 H
  refine so rfl (op_call (spec_RollupRows.ok k t3 At3 ct3 _ A5) [⟨1, 0, 0, false⟩] 5 rfl rfl rfl rfl rfl ?_)
  rintro _ _ _ ⟨At5, ct5, rfl, rfl, rfl⟩
  refine sv (EV.as rfl) rfl (re (gs (rg (sv (EV.mv rfl) rfl ?_))))
  revert H; refine bdI ?_; rintro t6 A6 H
  refine so rfl (op_call (impl_ReferenceGroups.ok k t3 At3 ct3 _ A6) [⟨1, 0, 0, false⟩] 7 rfl rfl rfl rfl rfl ?_)
  rintro _ _ _ ⟨At6, ct6, rfl, rfl, rfl⟩
  revert H; refine bdI ?_; rintro t7 A7 H
  refine so rfl (op_call (impl_RollupGroups.ok k t6 At6 ct6 _ A7) [⟨4, 0, 0, false⟩] 9 rfl rfl rfl rfl rfl ?_)
  rintro _ _ _ ⟨At7, ct7, rfl, rfl, rfl⟩
  refine sv (EV.as rfl) rfl (re (gs (rg (sv (EV.mv rfl) rfl ?_))))
  revert H; refine bdI ?_; rintro ⟨t8_0, t8_1⟩ A8 H
  refine so rfl (op_call (spec_DrawRollupKey.ok k l0 Al0 cl0 _ _ A8) [⟨0, 0, 0, false⟩] 11 rfl rfl rfl rfl rfl ?_)
  rintro _ _ _ ⟨rfl, rfl, rfl⟩
  refine sv (EV.mv rfl) rfl (sv (EV.ex rfl rfl) rfl (sv (EV.ex rfl rfl) rfl (sv (EV.as rfl) rfl (sv (EV.as rfl) rfl (re (pr [0, 3, 4, 5, 6, 7, 8] [] [0, 1, 2, 3, 5] rfl rfl rfl rfl (gs (rg (sv (EV.mv rfl) rfl ?_)))))))))
  revert H; refine bdI ?_; rintro t9 A9 H
  refine so rfl (op_call (spec_DrawRollupGroups.ok k l0 Al0 cl0 _ A9) [⟨0, 0, 0, false⟩] 11 rfl rfl rfl rfl rfl ?_)
  rintro _ _ _ ⟨At9, ct9, rfl, rfl, rfl⟩
  refine sv (EV.as rfl) rfl (re (gs (gs (rg (sv (EV.mv rfl) rfl (sv (EV.ln rfl) rfl (sv (EV.mv rfl) rfl (sv (EV.ln rfl) rfl (sv (EV.neq rfl rfl) rfl (sv (EV.mv rfl) rfl ?_))))))))))
  revert H; refine ifsI ?_ ?_ <;> intro c10 H
  ·
   refine ts 35 rfl (nF c10) (sv (EV.mv rfl) rfl (sv (EV.ln rfl) rfl (sv (EV.mv rfl) rfl (sv (EV.ln rfl) rfl (sv (EV.neq rfl rfl) rfl (sv (EV.pf rfl rfl rfl) rfl (sv (EV.mv rfl) rfl ?_)))))))
   revert H; refine ifsI ?_ ?_ <;> intro c11 H
   ·
    refine ts 42 rfl (nF c11) (sv (EV.mv rfl) rfl (sv (EV.mv rfl) rfl ?_))
    revert H; refine bdI ?_; rintro t12 A12 H
    refine so rfl (op_call (impl_RollupKey.ok t8_0 t8_1 _ A12) [] 13 rfl rfl rfl rfl rfl ?_)
    rintro _ _ _ ⟨rfl, rfl, rfl⟩
    refine sv (EV.mv rfl) rfl (sv (EV.mv rfl) rfl ?_)
    revert H; refine bdI ?_; rintro t13 A13 H
    refine so rfl (op_call (spec_RollupKey.ok t8_0 t8_1 _ A13) [] 13 rfl rfl rfl rfl rfl ?_)
    rintro _ _ _ ⟨rfl, rfl, rfl⟩
    refine sv (EV.neq rfl rfl) rfl (sv (EV.pf rfl rfl rfl) rfl (sv (EV.mv rfl) rfl ?_))
    revert H; refine ifsI ?_ ?_ <;> intro c14 H
    ·
     refine ts 51 rfl (nF c14) (sv (EV.mv rfl) rfl ?_)
     revert H; refine bdI ?_; rintro t15 A15 H
     refine so rfl (op_call (impl_FormatRollup.ok k t4 At4 ct4 _ A15) [⟨2, 0, 0, false⟩] 13 rfl rfl rfl rfl rfl ?_)
     rintro _ _ _ ⟨rfl, rfl, rfl⟩
     refine sv (EV.mv rfl) rfl ?_
     revert H; refine bdI ?_; rintro t16 A16 H
     refine so rfl (op_call (spec_FormatRollup.ok k t5 At5 ct5 _ A16) [⟨3, 0, 0, false⟩] 13 rfl rfl rfl rfl rfl ?_)
     rintro _ _ _ ⟨rfl, rfl, rfl⟩
     refine sv (EV.nes rfl rfl) rfl (sv (EV.pf rfl rfl rfl) rfl (sv (EV.mv rfl) rfl ?_))
     revert H; refine ifsI ?_ ?_ <;> intro c17 H
     ·
      refine ts 58 rfl (nF c17) (sv (EV.mv rfl) rfl ?_)
      revert H; refine bdI ?_; rintro t18 A18 H
      refine so rfl (op_call (impl_RollupGroups.ok k t9 At9 ct9 _ A18) [⟨5, 0, 0, false⟩] 13 rfl rfl rfl rfl rfl ?_)
      rintro _ _ _ ⟨At18, ct18, rfl, rfl, rfl⟩
      revert H; refine bdI ?_; rintro t19 A19 H
      refine so rfl (op_call (impl_FormatRollup.ok k t18 At18 ct18 _ A19) [⟨6, 0, 0, false⟩] 15 rfl rfl rfl rfl rfl ?_)
      rintro _ _ _ ⟨rfl, rfl, rfl⟩
      refine sv (EV.mv rfl) rfl ?_
      revert H; refine bdI ?_; rintro t20 A20 H
      refine so rfl (op_call (spec_RollupGroups.ok k t9 At9 ct9 _ A20) [⟨5, 0, 0, false⟩] 15 rfl rfl rfl rfl rfl ?_)
      rintro _ _ _ ⟨At20, ct20, rfl, rfl, rfl⟩
      revert H; refine bdI ?_; rintro t21 A21 H
      refine so rfl (op_call (spec_FormatRollup.ok k t20 At20 ct20 _ A21) [⟨7, 0, 0, false⟩] 17 rfl rfl rfl rfl rfl ?_)
      rintro _ _ _ ⟨rfl, rfl, rfl⟩
      refine sv (EV.nes rfl rfl) rfl (sv (EV.pf rfl rfl rfl) rfl (re (pr [3, 4, 5, 6, 66] [] [1, 2, 3, 4] rfl rfl rfl rfl ?_)))
      revert H; refine ifsI ?_ ?_ <;> intro c22 H
      ·
       refine gf rfl (nF c22) (gk (gs (rg (so rfl (op_lit (s := 1) (by_ := 8) (.int .i64) ([0, 0, 0] : List Int) [[], [], []] [] 11 [.const (.int .i64 0), .const (.int .i64 0), .const (.int .i64 0)] rfl rfl rfl rfl rfl rfl rfl rfl rfl rfl rfl rfl rfl dq rfl fun A67_23 c67_23 => (sv (EV.as rfl) rfl (re (gs (gs (rg (sv (EV.as rfl) rfl (re (gb ?_)))))))))))))
       refine lo (fun kk S => ∃ (x2_3 : List S75) (Ax2_3 : Option Addr) (cx2_3 : Nat) (x2_4 : List S51) (Ax2_4 : Option Addr) (cx2_4 : Nat) (x2_5 : List S51) (Ax2_5 : Option Addr) (cx2_5 : Nat) (x2_6 : List S51) (Ax2_6 : Option Addr) (cx2_6 : Nat) (x2_10 : List Int) (Ax2_10 : Option Addr) (cx2_10 : Nat) (x2_11 : Int), laws_FnRollup.l0 kk x2_3 x2_4 x2_5 x2_6 x2_10 x2_11 = some r0 ∧ S = ⟨[(3, .slice Ax2_3 x2_3.length cx2_3), (4, .slice Ax2_4 x2_4.length cx2_4), (5, .slice Ax2_5 x2_5.length cx2_5), (6, .slice Ax2_6 x2_6.length cx2_6), (10, .slice Ax2_10 x2_10.length cx2_10), (11, .int .i64 x2_11)], [], [.sl 2 k75 Ax2_3 cx2_3 x2_3 1 true, .sl 2 k51 Ax2_4 cx2_4 x2_4 2 true, .sl 2 k51 Ax2_5 cx2_5 x2_5 3 true, .sl 2 k51 Ax2_6 cx2_6 x2_6 4 true, .sl 2 (.int .i64) Ax2_10 cx2_10 x2_10 5 true]⟩) (fun S hS => ?_) (fun n0 ih0 S hS => ?_) ⟨t3, At3, ct3, t4, At4, ct4, t5, At5, ct5, t7, At7, ct7, ([0, 0, 0] : List Int), A67_23, c67_23, 0, H, rfl⟩ (fun h => wk [3, 4, 5, 6, 10, 11] [] [⟨0, 2, 1, true⟩, ⟨1, 2, 2, true⟩, ⟨2, 2, 3, true⟩, ⟨3, 2, 4, true⟩, ⟨4, 2, 5, true⟩] h)
       · clear H; obtain ⟨_, _, _, _, _, _, _, _, _, _, _, _, _, _, _, _, H, _⟩ := hS; rw [laws_FnRollup.l0] at H; cases H
       clear H
       obtain ⟨x2_3, Ax2_3, cx2_3, x2_4, Ax2_4, cx2_4, x2_5, Ax2_5, cx2_5, x2_6, Ax2_6, cx2_6, x2_10, Ax2_10, cx2_10, x2_11, H, rfl⟩ := hS
       rw [laws_FnRollup.l0] at H
       refine gs (gs (rg (sv (EV.mv rfl) rfl (sv (EV.mv rfl) rfl (sv (EV.ln rfl) rfl (sv (EV.lss rfl rfl) rfl (re ?_)))))))
       revert H; refine ifsI ?_ ?_ <;> intro c24 H
       ·
        refine gt rfl (dT c24) (gk (gs (gb (gs (gs ?_)))))
        revert H; refine ggI ?_; intro g25 H
        revert H; refine ggI ?_; intro g26 H
        refine dr [] [0, 1, 2, 3, 4] [] 36 rfl rfl rfl rfl (xv 0 [] [0, 1, 2, 3, 4] rfl (EV.mv rfl) rfl rfl rfl rfl (xv 1 [] [0, 1, 2, 3, 4] rfl (EV.mv rfl) rfl rfl rfl rfl (xv 2 [] [0, 1, 2, 3, 4] rfl (EV.ix 1 rfl rfl rfl g25 c24 rfl) rfl rfl rfl rfl (xv 3 [] [0, 1, 2, 3, 4] rfl (EV.le (v := .agg #[.int .i64 ((rd_T51 x2_4 x2_11).f0), .int .i64 ((rd_T51 x2_4 x2_11).f1.f0), .int .i64 ((rd_T51 x2_4 x2_11).f1.f1), .int .i64 ((rd_T51 x2_4 x2_11).f1.f2), .int .i64 ((rd_T51 x2_4 x2_11).f1.f3), .int .i64 ((rd_T51 x2_4 x2_11).f1.f4)]) x2_11 0 (some 6) 1 z51 rfl rfl rfl g25 c24 rfl rfl rfl) rfl rfl rfl rfl (xv 4 [] [0, 1, 2, 3, 4] rfl (EV.mv rfl) rfl rfl rfl rfl (xv 5 [] [0, 1, 2, 3, 4] rfl (EV.mv rfl) rfl rfl rfl rfl (xv 6 [] [0, 1, 2, 3, 4] rfl (EV.ix 2 rfl rfl rfl g25 g26 rfl) rfl rfl rfl rfl (xv 7 [] [0, 1, 2, 3, 4] rfl (EV.le (v := .agg #[.int .i64 ((rd_T51 x2_5 x2_11).f0), .int .i64 ((rd_T51 x2_5 x2_11).f1.f0), .int .i64 ((rd_T51 x2_5 x2_11).f1.f1), .int .i64 ((rd_T51 x2_5 x2_11).f1.f2), .int .i64 ((rd_T51 x2_5 x2_11).f1.f3), .int .i64 ((rd_T51 x2_5 x2_11).f1.f4)]) x2_11 0 (some 6) 2 z51 rfl rfl rfl g25 g26 rfl rfl rfl) rfl rfl rfl rfl (xv 8 [] [0, 1, 2, 3, 4] rfl (EV.neS rfl rfl (fun d w => eq51 d w ((rd_T51 x2_4 x2_11).f0) ((rd_T51 x2_5 x2_11).f0) ((rd_T51 x2_4 x2_11).f1.f0) ((rd_T51 x2_5 x2_11).f1.f0) ((rd_T51 x2_4 x2_11).f1.f1) ((rd_T51 x2_5 x2_11).f1.f1) ((rd_T51 x2_4 x2_11).f1.f2) ((rd_T51 x2_5 x2_11).f1.f2) ((rd_T51 x2_4 x2_11).f1.f3) ((rd_T51 x2_5 x2_11).f1.f3) ((rd_T51 x2_4 x2_11).f1.f4) ((rd_T51 x2_5 x2_11).f1.f4))) rfl rfl rfl rfl (xv 9 [] [0, 1, 2, 3, 4] rfl (EV.mv rfl) rfl rfl rfl rfl ?_))))))))))
        revert H; refine ifsI ?_ ?_ <;> intro c27 H
        ·
         refine ts 83 rfl (bN c27) (xv 10 [] [0, 1, 2, 3, 4] rfl (EV.mv rfl) rfl rfl rfl rfl (xv 11 [] [0, 1, 2, 3, 4] rfl (EV.mv rfl) rfl rfl rfl rfl ?_))
         revert H; refine ggI ?_; intro g28 H
         refine xv 12 [] [0, 1, 2, 3, 4] rfl (EV.ix 3 rfl rfl rfl g25 g28 rfl) rfl rfl rfl rfl (xv 13 [] [0, 1, 2, 3, 4] rfl (EV.le (v := .agg #[.int .i64 ((rd_T51 x2_6 x2_11).f0), .int .i64 ((rd_T51 x2_6 x2_11).f1.f0), .int .i64 ((rd_T51 x2_6 x2_11).f1.f1), .int .i64 ((rd_T51 x2_6 x2_11).f1.f2), .int .i64 ((rd_T51 x2_6 x2_11).f1.f3), .int .i64 ((rd_T51 x2_6 x2_11).f1.f4)]) x2_11 0 (some 6) 3 z51 rfl rfl rfl g25 g28 rfl rfl rfl) rfl rfl rfl rfl (xv 14 [] [0, 1, 2, 3, 4] rfl (EV.mv rfl) rfl rfl rfl rfl (xv 15 [] [0, 1, 2, 3, 4] rfl (EV.mv rfl) rfl rfl rfl rfl (xv 16 [] [0, 1, 2, 3, 4] rfl (EV.ix 1 rfl rfl rfl g25 c24 rfl) rfl rfl rfl rfl (xv 17 [] [0, 1, 2, 3, 4] rfl (EV.le (v := .agg #[.int .i64 ((rd_T51 x2_4 x2_11).f0), .int .i64 ((rd_T51 x2_4 x2_11).f1.f0), .int .i64 ((rd_T51 x2_4 x2_11).f1.f1), .int .i64 ((rd_T51 x2_4 x2_11).f1.f2), .int .i64 ((rd_T51 x2_4 x2_11).f1.f3), .int .i64 ((rd_T51 x2_4 x2_11).f1.f4)]) x2_11 0 (some 6) 1 z51 rfl rfl rfl g25 c24 rfl rfl rfl) rfl rfl rfl rfl (xv 18 [] [0, 1, 2, 3, 4] rfl (EV.neS rfl rfl (fun d w => eq51 d w ((rd_T51 x2_6 x2_11).f0) ((rd_T51 x2_4 x2_11).f0) ((rd_T51 x2_6 x2_11).f1.f0) ((rd_T51 x2_4 x2_11).f1.f0) ((rd_T51 x2_6 x2_11).f1.f1) ((rd_T51 x2_4 x2_11).f1.f1) ((rd_T51 x2_6 x2_11).f1.f2) ((rd_T51 x2_4 x2_11).f1.f2) ((rd_T51 x2_6 x2_11).f1.f3) ((rd_T51 x2_4 x2_11).f1.f3) ((rd_T51 x2_6 x2_11).f1.f4) ((rd_T51 x2_4 x2_11).f1.f4))) rfl rfl rfl rfl (xv 19 [] [0, 1, 2, 3, 4] rfl (EV.pf rfl rfl rfl) rfl rfl rfl rfl (xv 20 [] [0, 1, 2, 3, 4] rfl (EV.mv rfl) rfl rfl rfl rfl ?_))))))))
         revert H; refine ifsI ?_ ?_ <;> intro c29 H
         ·
          refine ts 94 rfl (bN c29) (xv 21 [] [0, 1, 2, 3, 4] rfl (EV.mv rfl) rfl rfl rfl rfl (xv 22 [] [0, 1, 2, 3, 4] rfl (EV.mv rfl) rfl rfl rfl rfl (xv 23 [] [0, 1, 2, 3, 4] rfl (EV.ix 1 rfl rfl rfl g25 c24 rfl) rfl rfl rfl rfl (xv 24 [] [0, 1, 2, 3, 4] rfl (EV.fa 0 rfl) rfl rfl rfl rfl (xv 25 [] [0, 1, 2, 3, 4] rfl (EV.le (v := .int .i64 ((rd_T51 x2_4 x2_11).f0)) x2_11 0 none 1 z51 rfl rfl rfl g25 c24 rfl rfl rfl) rfl rfl rfl rfl (xv 26 [] [0, 1, 2, 3, 4] rfl (EV.lss rfl rfl) rfl rfl rfl rfl (xv 27 [] [0, 1, 2, 3, 4] rfl (EV.pf rfl rfl rfl) rfl rfl rfl rfl (xv 28 [] [0, 1, 2, 3, 4] rfl (EV.mv rfl) rfl rfl rfl rfl ?_))))))))
          revert H; refine ifsI ?_ ?_ <;> intro c30 H
          ·
           refine ts 102 rfl (dT c30) (xk 29 [] [0, 1, 2, 3, 4] rfl rfl rfl rfl rfl (xk 30 [] [0, 1, 2, 3, 4] rfl rfl rfl rfl rfl (xk 31 [] [0, 1, 2, 3, 4] rfl rfl rfl rfl rfl (xk 32 [] [0, 1, 2, 3, 4] rfl rfl rfl rfl rfl (xk 33 [] [0, 1, 2, 3, 4] rfl rfl rfl rfl rfl (xk 34 [] [0, 1, 2, 3, 4] rfl rfl rfl rfl rfl (xv 35 [] [0, 1, 2, 3, 4] rfl (EV.pt rfl rfl rfl) rfl rfl rfl rfl (xd (pr [3, 4, 5, 6, 10, 11, 84, 85, 86, 87, 88, 89, 90, 91, 92, 95, 96, 97, 98, 99, 100, 109] [] [0, 1, 2, 3, 4] rfl rfl rfl rfl (gt rfl rfl (gs (rg (sv (EV.as rfl) rfl (re (pr [2] [] [] rfl rfl rfl rfl ?_)))))))))))))))
           cases H
           exact rt Try.func4 rfl (.tmp rfl .nil) rfl [] [] rfl rfl rfl rfl rfl ⟨rfl, rfl, rfl⟩
          ·
           refine ts 102 rfl (dF c30) (xv 29 [] [0, 1, 2, 3, 4] rfl (EV.mv rfl) rfl rfl rfl rfl (xv 30 [] [0, 1, 2, 3, 4] rfl (EV.mv rfl) rfl rfl rfl rfl (xv 31 [] [0, 1, 2, 3, 4] rfl (EV.ix 1 rfl rfl rfl g25 c24 rfl) rfl rfl rfl rfl (xv 32 [] [0, 1, 2, 3, 4] rfl (EV.fa 0 rfl) rfl rfl rfl rfl (xv 33 [] [0, 1, 2, 3, 4] rfl (EV.le (v := .int .i64 ((rd_T51 x2_4 x2_11).f0)) x2_11 0 none 1 z51 rfl rfl rfl g25 c24 rfl rfl rfl) rfl rfl rfl rfl (xv 34 [] [0, 1, 2, 3, 4] rfl (EV.gtr rfl rfl) rfl rfl rfl rfl (xv 35 [] [0, 1, 2, 3, 4] rfl (EV.pf rfl rfl rfl) rfl rfl rfl rfl (xd (pr [3, 4, 5, 6, 10, 11, 84, 85, 86, 87, 88, 89, 90, 91, 92, 95, 96, 97, 98, 99, 100, 103, 104, 105, 106, 107, 108, 109] [] [0, 1, 2, 3, 4] rfl rfl rfl rfl ?_)))))))))
           revert H; refine ifsI ?_ ?_ <;> intro c31 H
           ·
            refine gt rfl (dT c31) (gs (rg (sv (EV.as rfl) rfl (re (pr [2] [] [] rfl rfl rfl rfl ?_)))))
            cases H
            exact rt Try.func4 rfl (.tmp rfl .nil) rfl [] [] rfl rfl rfl rfl rfl ⟨rfl, rfl, rfl⟩
           ·
            refine gf rfl (dF c31) (gk ?_)
            revert H; refine ggI ?_; intro g32 H
            revert H; refine ggI ?_; intro g33 H
            refine dr [] [0, 1, 2, 3, 4] [22] 23 rfl rfl rfl rfl (xv 0 [] [0, 1, 2, 3, 4] rfl (EV.mv rfl) rfl rfl rfl rfl (xv 1 [] [0, 1, 2, 3, 4] rfl (EV.mv rfl) rfl rfl rfl rfl (xv 2 [] [0, 1, 2, 3, 4] rfl (EV.mv rfl) rfl rfl rfl rfl (xv 3 [] [0, 1, 2, 3, 4] rfl (EV.ix 1 rfl rfl rfl g25 c24 rfl) rfl rfl rfl rfl (xv 4 [] [0, 1, 2, 3, 4] rfl (EV.fa 0 rfl) rfl rfl rfl rfl (xv 5 [] [0, 1, 2, 3, 4] rfl (EV.le (v := .int .i64 ((rd_T51 x2_4 x2_11).f0)) x2_11 0 none 1 z51 rfl rfl rfl g25 c24 rfl rfl rfl) rfl rfl rfl rfl (xv 6 [] [0, 1, 2, 3, 4] rfl (EV.mv rfl) rfl rfl rfl rfl (xv 7 [] [0, 1, 2, 3, 4] rfl (EV.mv rfl) rfl rfl rfl rfl (xv 8 [] [0, 1, 2, 3, 4] rfl (EV.mv rfl) rfl rfl rfl rfl (xv 9 [] [0, 1, 2, 3, 4] rfl (EV.ix 1 rfl rfl rfl g25 c24 rfl) rfl rfl rfl rfl (xv 10 [] [0, 1, 2, 3, 4] rfl (EV.fa 0 rfl) rfl rfl rfl rfl (xv 11 [] [0, 1, 2, 3, 4] rfl (EV.le (v := .int .i64 ((rd_T51 x2_4 x2_11).f0)) x2_11 0 none 1 z51 rfl rfl rfl g25 c24 rfl rfl rfl) rfl rfl rfl rfl (xv 12 [] [0, 1, 2, 3, 4] rfl (EV.ix 4 rfl rfl rfl g32 g33 rfl) rfl rfl rfl rfl (xv 13 [] [0, 1, 2, 3, 4] rfl (EV.le (v := .int .i64 (rdOf 0 x2_10 ((rd_T51 x2_4 x2_11).f0))) ((rd_T51 x2_4 x2_11).f0) 0 none 4 0 rfl rfl rfl g32 g33 rfl rfl rfl) rfl rfl rfl rfl (xv 14 [] [0, 1, 2, 3, 4] rfl (EV.mv rfl) rfl rfl rfl rfl (xv 15 [] [0, 1, 2, 3, 4] rfl (EV.mv rfl) rfl rfl rfl rfl (xv 16 [] [0, 1, 2, 3, 4] rfl (EV.ix 1 rfl rfl rfl g25 c24 rfl) rfl rfl rfl rfl (xv 17 [] [0, 1, 2, 3, 4] rfl (EV.fa 1 rfl) rfl rfl rfl rfl (xv 18 [] [0, 1, 2, 3, 4] rfl (EV.fa 1 rfl) rfl rfl rfl rfl (xv 19 [] [0, 1, 2, 3, 4] rfl (EV.le (v := .int .i64 ((rd_T51 x2_4 x2_11).f1.f1)) x2_11 2 none 1 z51 rfl rfl rfl g25 c24 rfl rfl rfl) rfl rfl rfl rfl (xv 20 [] [0, 1, 2, 3, 4] rfl (EV.add rfl rfl) rfl rfl rfl rfl (xv 21 [] [0, 1, 2, 3, 4] rfl (EV.ix 4 rfl rfl rfl g32 g33 rfl) rfl rfl rfl rfl (one1 22 rfl rfl (op_stf ((rd_T51 x2_4 x2_11).f0) 0 4 0 (wrap64 ((rdOf 0 x2_10 ((rd_T51 x2_4 x2_11).f0)) + ((rd_T51 x2_4 x2_11).f1.f1))) rfl rfl rfl rfl g32 g33 rfl rfl rfl rfl dq rfl (rlT 10 (v' := .slice Ax2_10 (x2_10.set ((rd_T51 x2_4 x2_11).f0).toNat (wrap64 ((rdOf 0 x2_10 ((rd_T51 x2_4 x2_11).f0)) + ((rd_T51 x2_4 x2_11).f1.f1)))).length cx2_10) rfl (sle _ _ _ _ _) (rlT 110 (v' := .slice Ax2_10 (x2_10.set ((rd_T51 x2_4 x2_11).f0).toNat (wrap64 ((rdOf 0 x2_10 ((rd_T51 x2_4 x2_11).f0)) + ((rd_T51 x2_4 x2_11).f1.f1)))).length cx2_10) rfl (sle _ _ _ _ _) (rlT 116 (v' := .slice Ax2_10 (x2_10.set ((rd_T51 x2_4 x2_11).f0).toNat (wrap64 ((rdOf 0 x2_10 ((rd_T51 x2_4 x2_11).f0)) + ((rd_T51 x2_4 x2_11).f1.f1)))).length cx2_10) rfl (sle _ _ _ _ _) (nmE (en := [.sl 2 k75 Ax2_3 cx2_3 x2_3 1 true, .sl 2 k51 Ax2_4 cx2_4 x2_4 2 true, .sl 2 k51 Ax2_5 cx2_5 x2_5 3 true, .sl 2 k51 Ax2_6 cx2_6 x2_6 4 true, .sl 2 (.int .i64) Ax2_10 cx2_10 (x2_10.set ((rd_T51 x2_4 x2_11).f0).toNat (wrap64 ((rdOf 0 x2_10 ((rd_T51 x2_4 x2_11).f0)) + ((rd_T51 x2_4 x2_11).f1.f1)))) 5 true]) (by kernel_rfl) (xn rfl ?_)))))))))))))))))))))))))))))
            exact xd (pr [3, 4, 5, 6, 10, 11, 84, 85, 86, 87, 88, 89, 90, 91, 92, 95, 96, 97, 98, 99, 100, 103, 104, 105, 106, 107, 108] [] [0, 1, 2, 3, 4] rfl rfl rfl rfl (ge (rg (sv (EV.mv rfl) rfl (sv (EV.add rfl rfl) rfl (sv (EV.as rfl) rfl (re (wk [3, 4, 5, 6, 10, 11] [] [⟨0, 2, 1, true⟩, ⟨1, 2, 2, true⟩, ⟨2, 2, 3, true⟩, ⟨3, 2, 4, true⟩, ⟨4, 2, 5, true⟩] (ih0 _ (by omega) _ ⟨x2_3, Ax2_3, cx2_3, x2_4, Ax2_4, cx2_4, x2_5, Ax2_5, cx2_5, x2_6, Ax2_6, cx2_6, x2_10.set ((rd_T51 x2_4 x2_11).f0).toNat (wrap64 ((rdOf 0 x2_10 ((rd_T51 x2_4 x2_11).f0)) + ((rd_T51 x2_4 x2_11).f1.f1))), Ax2_10, cx2_10, wrap64 (x2_11 + 1), H, rfl⟩)))))))))
         ·
          refine ts 94 rfl (bM c29) (xk 21 [] [0, 1, 2, 3, 4] rfl rfl rfl rfl rfl (xk 22 [] [0, 1, 2, 3, 4] rfl rfl rfl rfl rfl (xk 23 [] [0, 1, 2, 3, 4] rfl rfl rfl rfl rfl (xk 24 [] [0, 1, 2, 3, 4] rfl rfl rfl rfl rfl (xk 25 [] [0, 1, 2, 3, 4] rfl rfl rfl rfl rfl (xk 26 [] [0, 1, 2, 3, 4] rfl rfl rfl rfl rfl (xv 27 [] [0, 1, 2, 3, 4] rfl (EV.pt rfl rfl rfl) rfl rfl rfl rfl (xv 28 [] [0, 1, 2, 3, 4] rfl (EV.mv rfl) rfl rfl rfl rfl (xk 29 [] [0, 1, 2, 3, 4] rfl rfl rfl rfl rfl (xk 30 [] [0, 1, 2, 3, 4] rfl rfl rfl rfl rfl (xk 31 [] [0, 1, 2, 3, 4] rfl rfl rfl rfl rfl (xk 32 [] [0, 1, 2, 3, 4] rfl rfl rfl rfl rfl (xk 33 [] [0, 1, 2, 3, 4] rfl rfl rfl rfl rfl (xk 34 [] [0, 1, 2, 3, 4] rfl rfl rfl rfl rfl (xv 35 [] [0, 1, 2, 3, 4] rfl (EV.pt rfl rfl rfl) rfl rfl rfl rfl (xd (pr [3, 4, 5, 6, 10, 11, 84, 85, 86, 87, 88, 89, 90, 91, 92, 109] [] [0, 1, 2, 3, 4] rfl rfl rfl rfl (gt rfl rfl (gs (rg (sv (EV.as rfl) rfl (re (pr [2] [] [] rfl rfl rfl rfl ?_)))))))))))))))))))))))
          cases H
          exact rt Try.func4 rfl (.tmp rfl .nil) rfl [] [] rfl rfl rfl rfl rfl ⟨rfl, rfl, rfl⟩
        ·
         refine ts 83 rfl (bM c27) (xk 10 [] [0, 1, 2, 3, 4] rfl rfl rfl rfl rfl (xk 11 [] [0, 1, 2, 3, 4] rfl rfl rfl rfl rfl (xk 12 [] [0, 1, 2, 3, 4] rfl rfl rfl rfl rfl (xk 13 [] [0, 1, 2, 3, 4] rfl rfl rfl rfl rfl (xk 14 [] [0, 1, 2, 3, 4] rfl rfl rfl rfl rfl (xk 15 [] [0, 1, 2, 3, 4] rfl rfl rfl rfl rfl (xk 16 [] [0, 1, 2, 3, 4] rfl rfl rfl rfl rfl (xk 17 [] [0, 1, 2, 3, 4] rfl rfl rfl rfl rfl (xk 18 [] [0, 1, 2, 3, 4] rfl rfl rfl rfl rfl (xv 19 [] [0, 1, 2, 3, 4] rfl (EV.pt rfl rfl rfl) rfl rfl rfl rfl (xv 20 [] [0, 1, 2, 3, 4] rfl (EV.mv rfl) rfl rfl rfl rfl (xk 21 [] [0, 1, 2, 3, 4] rfl rfl rfl rfl rfl (xk 22 [] [0, 1, 2, 3, 4] rfl rfl rfl rfl rfl (xk 23 [] [0, 1, 2, 3, 4] rfl rfl rfl rfl rfl (xk 24 [] [0, 1, 2, 3, 4] rfl rfl rfl rfl rfl (xk 25 [] [0, 1, 2, 3, 4] rfl rfl rfl rfl rfl (xk 26 [] [0, 1, 2, 3, 4] rfl rfl rfl rfl rfl (xv 27 [] [0, 1, 2, 3, 4] rfl (EV.pt rfl rfl rfl) rfl rfl rfl rfl (xv 28 [] [0, 1, 2, 3, 4] rfl (EV.mv rfl) rfl rfl rfl rfl (xk 29 [] [0, 1, 2, 3, 4] rfl rfl rfl rfl rfl (xk 30 [] [0, 1, 2, 3, 4] rfl rfl rfl rfl rfl (xk 31 [] [0, 1, 2, 3, 4] rfl rfl rfl rfl rfl (xk 32 [] [0, 1, 2, 3, 4] rfl rfl rfl rfl rfl (xk 33 [] [0, 1, 2, 3, 4] rfl rfl rfl rfl rfl (xk 34 [] [0, 1, 2, 3, 4] rfl rfl rfl rfl rfl (xv 35 [] [0, 1, 2, 3, 4] rfl (EV.pt rfl rfl rfl) rfl rfl rfl rfl (xd (pr [3, 4, 5, 6, 10, 11, 109] [] [0, 1, 2, 3, 4] rfl rfl rfl rfl (gt rfl rfl ?_)))))))))))))))))))))))))))))
         refine gs (rg (sv (EV.as rfl) rfl (re (pr [2] [] [] rfl rfl rfl rfl ?_))))
         cases H
         exact rt Try.func4 rfl (.tmp rfl .nil) rfl [] [] rfl rfl rfl rfl rfl ⟨rfl, rfl, rfl⟩
       ·
        refine gf rfl (dF c24) (gx rfl (gs (rg (sv (EV.mv rfl) rfl ?_))))
        revert H; refine ggI ?_; intro g34 H
        refine sv (EV.ix 4 rfl rfl rfl dq g34 rfl) rfl (sv (EV.le (v := .int .i64 (rdOf 0 x2_10 0)) 0 0 none 4 0 rfl rfl rfl dq g34 rfl rfl rfl) rfl (sv (EV.mv rfl) rfl (sv (EV.ln rfl) rfl (sv (EV.eql rfl rfl) rfl (sv (EV.mv rfl) rfl ?_)))))
        revert H; refine ifsI ?_ ?_ <;> intro c35 H
        ·
         refine ts 138 rfl (dT c35) (sv (EV.mv rfl) rfl ?_)
         revert H; refine ggI ?_; intro g36 H
         refine sv (EV.ix 4 rfl rfl rfl dq g36 rfl) rfl (sv (EV.le (v := .int .i64 (rdOf 0 x2_10 1)) 1 0 none 4 0 rfl rfl rfl dq g36 rfl rfl rfl) rfl (sv (EV.mv rfl) rfl (sv (EV.ln rfl) rfl (sv (EV.eql rfl rfl) rfl (sv (EV.pt rfl rfl rfl) rfl (sv (EV.mv rfl) rfl ?_))))))
         revert H; refine ifsI ?_ ?_ <;> intro c37 H
         ·
          refine ts 146 rfl (dT c37) (sv (EV.mv rfl) rfl ?_)
          revert H; refine ggI ?_; intro g38 H
          refine sv (EV.ix 4 rfl rfl rfl dq g38 rfl) rfl (sv (EV.le (v := .int .i64 (rdOf 0 x2_10 2)) 2 0 none 4 0 rfl rfl rfl dq g38 rfl rfl rfl) rfl (sv (EV.mv rfl) rfl (sv (EV.ln rfl) rfl (sv (EV.eql rfl rfl) rfl (sv (EV.pt rfl rfl rfl) rfl (sv (EV.as rfl) rfl (re (pr [2] [] [] rfl rfl rfl rfl ?_))))))))
          cases H
          exact rt Try.func4 rfl (.tmp rfl .nil) rfl [] [] rfl rfl rfl rfl rfl ⟨rfl, rfl, rfl⟩
         ·
          refine ts 146 rfl (dF c37) (sk rfl (sk rfl (sk rfl (sk rfl (sk rfl (sk rfl (sv (EV.pf rfl rfl rfl) rfl (sv (EV.as rfl) rfl (re (pr [2] [] [] rfl rfl rfl rfl ?_))))))))))
          cases H
          exact rt Try.func4 rfl (.tmp rfl .nil) rfl [] [] rfl rfl rfl rfl rfl ⟨rfl, rfl, rfl⟩
        ·
         refine ts 138 rfl (dF c35) (sk rfl (sk rfl (sk rfl (sk rfl (sk rfl (sk rfl (sv (EV.pf rfl rfl rfl) rfl (sv (EV.mv rfl) rfl (sk rfl (sk rfl (sk rfl (sk rfl (sk rfl (sk rfl (sv (EV.pf rfl rfl rfl) rfl (sv (EV.as rfl) rfl (re (pr [2] [] [] rfl rfl rfl rfl ?_))))))))))))))))))
         cases H
         exact rt Try.func4 rfl (.tmp rfl .nil) rfl [] [] rfl rfl rfl rfl rfl ⟨rfl, rfl, rfl⟩
      ·
       refine gt rfl (nT c22) (gs (rg (sv (EV.as rfl) rfl (re ?_))))
       cases H
       exact rt Try.func4 rfl (.tmp rfl .nil) rfl [] [] rfl rfl rfl rfl rfl ⟨rfl, rfl, rfl⟩
     ·
      refine ts 58 rfl (nT c17) (sk rfl (sk rfl (sk rfl (sk rfl (sk rfl (sk rfl (sk rfl (sv (EV.pt rfl rfl rfl) rfl (re (pr [3, 4, 5, 6, 66] [] [1, 2, 3, 4] rfl rfl rfl rfl (gt rfl rfl (gs (rg (sv (EV.as rfl) rfl (re ?_)))))))))))))))
      cases H
      exact rt Try.func4 rfl (.tmp rfl .nil) rfl [] [] rfl rfl rfl rfl rfl ⟨rfl, rfl, rfl⟩
    ·
     refine ts 51 rfl (nT c14) (sk rfl (sk rfl (sk rfl (sk rfl (sk rfl (sv (EV.pt rfl rfl rfl) rfl (sv (EV.mv rfl) rfl (sk rfl (sk rfl (sk rfl (sk rfl (sk rfl (sk rfl (sk rfl (sv (EV.pt rfl rfl rfl) rfl (re (pr [3, 4, 5, 6, 66] [] [1, 2, 3, 4] rfl rfl rfl rfl (gt rfl rfl (gs (rg (sv (EV.as rfl) rfl (re ?_))))))))))))))))))))))
     cases H
     exact rt Try.func4 rfl (.tmp rfl .nil) rfl [] [] rfl rfl rfl rfl rfl ⟨rfl, rfl, rfl⟩
   ·
    refine ts 42 rfl (nT c11) (sk rfl (sk rfl (sk rfl (sk rfl (sk rfl (sk rfl (sk rfl (sv (EV.pt rfl rfl rfl) rfl (sv (EV.mv rfl) rfl (sk rfl (sk rfl (sk rfl (sk rfl (sk rfl (sv (EV.pt rfl rfl rfl) rfl (sv (EV.mv rfl) rfl (sk rfl (sk rfl (sk rfl (sk rfl (sk rfl (sk rfl (sk rfl (sv (EV.pt rfl rfl rfl) rfl (re (pr [3, 4, 5, 6, 66] [] [1, 2, 3, 4] rfl rfl rfl rfl (gt rfl rfl (gs (rg ?_)))))))))))))))))))))))))))))
    refine sv (EV.as rfl) rfl (re ?_)
    cases H
    exact rt Try.func4 rfl (.tmp rfl .nil) rfl [] [] rfl rfl rfl rfl rfl ⟨rfl, rfl, rfl⟩
  ·
   refine ts 35 rfl (nT c10) (sk rfl (sk rfl (sk rfl (sk rfl (sk rfl (sv (EV.pt rfl rfl rfl) rfl (sv (EV.mv rfl) rfl (sk rfl (sk rfl (sk rfl (sk rfl (sk rfl (sk rfl (sk rfl (sv (EV.pt rfl rfl rfl) rfl (sv (EV.mv rfl) rfl (sk rfl (sk rfl (sk rfl (sk rfl (sk rfl (sv (EV.pt rfl rfl rfl) rfl (sv (EV.mv rfl) rfl (sk rfl (sk rfl (sk rfl (sk rfl (sk rfl (sk rfl ?_)))))))))))))))))))))))))))))
   refine sk rfl (sv (EV.pt rfl rfl rfl) rfl (re (pr [3, 4, 5, 6, 66] [] [1, 2, 3, 4] rfl rfl rfl rfl (gt rfl rfl (gs (rg (sv (EV.as rfl) rfl (re ?_))))))))
   cases H
   exact rt Try.func4 rfl (.tmp rfl .nil) rfl [] [] rfl rfl rfl rfl rfl ⟨rfl, rfl, rfl⟩
end Go.Proofs.Ytgpencaijhbolaa.K
