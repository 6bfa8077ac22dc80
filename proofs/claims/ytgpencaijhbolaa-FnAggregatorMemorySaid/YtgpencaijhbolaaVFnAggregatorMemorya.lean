/- Walks: what the functions compute. Printed by gen.py; no condition. -/
import Derived.Test.YtgpencaijhbolaaProg
import Derived.Test.YtgpencaijhbolaaSB
namespace Go.Proofs.Ytgpencaijhbolaa.K
open Go Go.RowKit
set_option linter.unusedVariables false
set_option linter.unusedSimpArgs false
structure S49 where
  f0 : Int
  f1 : Int
  f2 : Int
  f3 : Int
  f4 : Int
def z49 : S49 := ⟨0, 0, 0, 0, 0⟩
def k49 : Kd S49 := .iso (fun p => ⟨p.1, p.2.1, p.2.2.1, p.2.2.2.1, p.2.2.2.2⟩) (fun x => (x.f0, x.f1, x.f2, x.f3, x.f4)) (fun _ => rfl) (.pair (.int .i64) (.pair (.int .i64) (.pair (.int .i64) (.pair (.int .i64) (.int .i64)))))
def rd_T49 (xs : List S49) (i : Int) : S49 := xs.getD i.toNat z49
structure S30 where
  f0 : List S49
  f1 : Int
  f2 : Int
  f3 : Int
def z30 : S30 := ⟨[], 0, 0, 0⟩
def k30 : Kd S30 := .iso (fun p => ⟨p.1, p.2.1, p.2.2.1, p.2.2.2⟩) (fun x => (x.f0, x.f1, x.f2, x.f3)) (fun _ => rfl) (.pair (.slice k49) (.pair (.int .i64) (.pair (.int .i64) (.int .i64))))
def rd_T30 (xs : List S30) (i : Int) : S30 := xs.getD i.toNat z30
structure S51 where
  f0 : Int
  f1 : S49
def z51 : S51 := ⟨0, z49⟩
def k51 : Kd S51 := .iso (fun p => ⟨p.1, p.2⟩) (fun x => (x.f0, x.f1)) (fun _ => rfl) (.pair (.int .i64) k49)
def rd_T51 (xs : List S51) (i : Int) : S51 := xs.getD i.toNat z51
structure S75 where
  f0 : Int
  f1 : Int
  f2 : Int
def z75 : S75 := ⟨0, 0, 0⟩
def k75 : Kd S75 := .iso (fun p => ⟨p.1, p.2.1, p.2.2⟩) (fun x => (x.f0, x.f1, x.f2)) (fun _ => rfl) (.pair (.int .i64) (.pair (.int .i64) (.int .i64)))
def rd_T75 (xs : List S75) (i : Int) : S75 := xs.getD i.toNat z75
structure S64 where
  f0 : List S75
  f1 : Int
def z64 : S64 := ⟨[], 0⟩
def k64 : Kd S64 := .iso (fun p => ⟨p.1, p.2⟩) (fun x => (x.f0, x.f1)) (fun _ => rfl) (.pair (.slice k75) (.int .i64))
def rd_T64 (xs : List S64) (i : Int) : S64 := xs.getD i.toNat z64
structure S54 where
  f0 : List S64
  f1 : Int
  f2 : Bool
def z54 : S54 := ⟨[], 0, false⟩
def k54 : Kd S54 := .iso (fun p => ⟨p.1, p.2.1, p.2.2⟩) (fun x => (x.f0, x.f1, x.f2)) (fun _ => rfl) (.pair (.slice k64) (.pair (.int .i64) .bool))
def rd_T54 (xs : List S54) (i : Int) : S54 := xs.getD i.toNat z54
structure S95 where
  f0 : List Int
  f1 : Int
  f2 : Int
def z95 : S95 := ⟨[], 0, 0⟩
def k95 : Kd S95 := .iso (fun p => ⟨p.1, p.2.1, p.2.2⟩) (fun x => (x.f0, x.f1, x.f2)) (fun _ => rfl) (.pair (.slice (.int .u8)) (.pair (.int .i64) (.int .i64)))
def rd_T95 (xs : List S95) (i : Int) : S95 := xs.getD i.toNat z95
theorem eqD49 (d : Nat) (w : World) (x0 y0 : Int) (x1 y1 : Int) (x2 y2 : Int) (x3 y3 : Int) (x4 y4 : Int) : (Op.equalIn (d + 2) 49 (.agg #[.int .i64 x0, .int .i64 x1, .int .i64 x2, .int .i64 x3, .int .i64 x4]) (.agg #[.int .i64 y0, .int .i64 y1, .int .i64 y2, .int .i64 y3, .int .i64 y4])).run Try.prog w = .ok (x0 == y0 && (x1 == y1 && (x2 == y2 && (x3 == y3 && (x4 == y4))))) w := by
  refine eq_of (d := d + 1) Try.underlying49 (by kernel_rfl) ?_
  refine eq_cons (by rfl) (by first | (go_simp; done) | (go_simp; rfl)) (by first | (go_simp; done) | (go_simp; rfl)) (by go_simp) ?_
  refine eq_cons (by rfl) (by first | (go_simp; done) | (go_simp; rfl)) (by first | (go_simp; done) | (go_simp; rfl)) (by go_simp) ?_
  refine eq_cons (by rfl) (by first | (go_simp; done) | (go_simp; rfl)) (by first | (go_simp; done) | (go_simp; rfl)) (by go_simp) ?_
  refine eq_cons (by rfl) (by first | (go_simp; done) | (go_simp; rfl)) (by first | (go_simp; done) | (go_simp; rfl)) (by go_simp) ?_
  exact eq_last (by rfl) (by first | (go_simp; done) | (go_simp; rfl)) (by first | (go_simp; done) | (go_simp; rfl)) (by go_simp)
theorem eq49 (d : Nat) (w : World) (x0 y0 : Int) (x1 y1 : Int) (x2 y2 : Int) (x3 y3 : Int) (x4 y4 : Int) : (Op.equalIn (d + 20) 49 (.agg #[.int .i64 x0, .int .i64 x1, .int .i64 x2, .int .i64 x3, .int .i64 x4]) (.agg #[.int .i64 y0, .int .i64 y1, .int .i64 y2, .int .i64 y3, .int .i64 y4])).run Try.prog w = .ok (x0 == y0 && (x1 == y1 && (x2 == y2 && (x3 == y3 && (x4 == y4))))) w := eqD49 (d + 18) w x0 y0 x1 y1 x2 y2 x3 y3 x4 y4
theorem eqD51 (d : Nat) (w : World) (x0 y0 : Int) (x1 y1 : Int) (x2 y2 : Int) (x3 y3 : Int) (x4 y4 : Int) (x5 y5 : Int) : (Op.equalIn (d + 3) 51 (.agg #[.int .i64 x0, .int .i64 x1, .int .i64 x2, .int .i64 x3, .int .i64 x4, .int .i64 x5]) (.agg #[.int .i64 y0, .int .i64 y1, .int .i64 y2, .int .i64 y3, .int .i64 y4, .int .i64 y5])).run Try.prog w = .ok (x0 == y0 && ((x1 == y1 && (x2 == y2 && (x3 == y3 && (x4 == y4 && (x5 == y5))))))) w := by
  refine eq_of (d := d + 2) Try.underlying51 (by kernel_rfl) ?_
  refine eq_cons (by rfl) (by first | (go_simp; done) | (go_simp; rfl)) (by first | (go_simp; done) | (go_simp; rfl)) (by go_simp) ?_
  exact eq_last (by rfl) (by first | (go_simp; done) | (go_simp; rfl)) (by first | (go_simp; done) | (go_simp; rfl)) (eqD49 _ w x1 y1 x2 y2 x3 y3 x4 y4 x5 y5)
theorem eq51 (d : Nat) (w : World) (x0 y0 : Int) (x1 y1 : Int) (x2 y2 : Int) (x3 y3 : Int) (x4 y4 : Int) (x5 y5 : Int) : (Op.equalIn (d + 20) 51 (.agg #[.int .i64 x0, .int .i64 x1, .int .i64 x2, .int .i64 x3, .int .i64 x4, .int .i64 x5]) (.agg #[.int .i64 y0, .int .i64 y1, .int .i64 y2, .int .i64 y3, .int .i64 y4, .int .i64 y5])).run Try.prog w = .ok (x0 == y0 && ((x1 == y1 && (x2 == y2 && (x3 == y3 && (x4 == y4 && (x5 == y5))))))) w := eqD51 (d + 17) w x0 y0 x1 y1 x2 y2 x3 y3 x4 y4 x5 y5
theorem eqD75 (d : Nat) (w : World) (x0 y0 : Int) (x1 y1 : Int) (x2 y2 : Int) : (Op.equalIn (d + 2) 75 (.agg #[.int .i64 x0, .int .i64 x1, .int .i64 x2]) (.agg #[.int .i64 y0, .int .i64 y1, .int .i64 y2])).run Try.prog w = .ok (x0 == y0 && (x1 == y1 && (x2 == y2))) w := by
  refine eq_of (d := d + 1) Try.underlying75 (by kernel_rfl) ?_
  refine eq_cons (by rfl) (by first | (go_simp; done) | (go_simp; rfl)) (by first | (go_simp; done) | (go_simp; rfl)) (by go_simp) ?_
  refine eq_cons (by rfl) (by first | (go_simp; done) | (go_simp; rfl)) (by first | (go_simp; done) | (go_simp; rfl)) (by go_simp) ?_
  exact eq_last (by rfl) (by first | (go_simp; done) | (go_simp; rfl)) (by first | (go_simp; done) | (go_simp; rfl)) (by go_simp)
theorem eq75 (d : Nat) (w : World) (x0 y0 : Int) (x1 y1 : Int) (x2 y2 : Int) : (Op.equalIn (d + 20) 75 (.agg #[.int .i64 x0, .int .i64 x1, .int .i64 x2]) (.agg #[.int .i64 y0, .int .i64 y1, .int .i64 y2])).run Try.prog w = .ok (x0 == y0 && (x1 == y1 && (x2 == y2))) w := eqD75 (d + 18) w x0 y0 x1 y1 x2 y2

def laws_sameGroups.l0 : Nat → Int → (List S49) → (List S49) → Option (Bool)
 | 0, _, _, _ => none
 | k + 1, x2_5, l0, l1 => if x2_5 < (l0.length : Int) then (if 0 ≤ x2_5 then (if x2_5 < (l1.length : Int) then (if (((rd_T49 l0 x2_5).f0) == ((rd_T49 l1 x2_5).f0) && (((rd_T49 l0 x2_5).f1) == ((rd_T49 l1 x2_5).f1) && (((rd_T49 l0 x2_5).f2) == ((rd_T49 l1 x2_5).f2) && (((rd_T49 l0 x2_5).f3) == ((rd_T49 l1 x2_5).f3) && (((rd_T49 l0 x2_5).f4) == ((rd_T49 l1 x2_5).f4)))))) = true then (laws_sameGroups.l0 k (wrap64 (x2_5 + 1)) l0 l1) else (some false)) else none) else none) else (some true)
def laws_sameGroups.f (k : Nat) (l0 : List S49) (l1 : List S49) : Option (Bool) := if (l0.length : Int) = (l1.length : Int) then (laws_sameGroups.l0 k 0 l0 l1) else (some false)
set_option maxHeartbeats 4000000 in
set_option maxRecDepth 100000 in
theorem laws_sameGroups.ok (k : Nat) (l0 : List S49) (Al0 : Option Addr) (cl0 : Nat) (l1 : List S49) (Al1 : Option Addr) (cl1 : Nat) (r0 : Bool) (H : laws_sameGroups.f k l0 l1 = some r0) : Fn Try.prog 10 [.slice Al0 l0.length cl0, .slice Al1 l1.length cl1] [] [.sl 0 k49 Al0 cl0 l0 0 false, .sl 0 k49 Al1 cl1 l1 0 false] (fun v bx en => v = .bool r0 ∧ bx = [] ∧ en = []) := by
 refine fn_ 26 Try.func10 rfl rfl rfl (fun base T w0 => ?_)
 rw [laws_sameGroups.f] at H
 refine gs (rg (sv (EV.as rfl) rfl (re (gs (gs (rg (sv (EV.mv rfl) rfl (sv (EV.ln rfl) rfl (sv (EV.mv rfl) rfl (sv (EV.ln rfl) rfl (sv (EV.neq rfl rfl) rfl (re ?_))))))))))))
 revert H; refine ifsI ?_ ?_ <;> intro c1 H
 ·
  refine gf rfl (nF c1) (gk (gs (gs (rg (sv (EV.as rfl) rfl (re (pr [0, 1, 5] [] [0, 1] rfl rfl rfl rfl (gb ?_))))))))
  refine lo (fun kk S => ∃ (x2_5 : Int), laws_sameGroups.l0 kk x2_5 l0 l1 = some r0 ∧ S = ⟨[(0, .slice Al0 l0.length cl0), (1, .slice Al1 l1.length cl1), (5, .int .i64 x2_5)], [], [.sl 0 k49 Al0 cl0 l0 0 false, .sl 0 k49 Al1 cl1 l1 0 false]⟩) (fun S hS => ?_) (fun n0 ih0 S hS => ?_) ⟨0, H, rfl⟩ (fun h => wk [0, 1, 5] [] [⟨0, 0, 0, false⟩, ⟨1, 0, 0, false⟩] h)
  · clear H; obtain ⟨_, H, _⟩ := hS; rw [laws_sameGroups.l0] at H; cases H
  clear H
  obtain ⟨x2_5, H, rfl⟩ := hS
  rw [laws_sameGroups.l0] at H
  refine gs (gs (rg (sv (EV.mv rfl) rfl (sv (EV.mv rfl) rfl (sv (EV.ln rfl) rfl (sv (EV.lss rfl rfl) rfl (re ?_)))))))
  revert H; refine ifsI ?_ ?_ <;> intro c2 H
  ·
   refine gt rfl (dT c2) (gk (gs (gb (gs ?_))))
   revert H; refine ggI ?_; intro g3 H
   revert H; refine ggI ?_; intro g4 H
   refine dr [] [0, 1] [] 9 rfl rfl rfl rfl (xv 0 [] [0, 1] rfl (EV.mv rfl) rfl rfl rfl rfl (xv 1 [] [0, 1] rfl (EV.mv rfl) rfl rfl rfl rfl (xv 2 [] [0, 1] rfl (EV.ix 0 rfl rfl rfl g3 c2 rfl) rfl rfl rfl rfl (xv 3 [] [0, 1] rfl (EV.le (v := .agg #[.int .i64 ((rd_T49 l0 x2_5).f0), .int .i64 ((rd_T49 l0 x2_5).f1), .int .i64 ((rd_T49 l0 x2_5).f2), .int .i64 ((rd_T49 l0 x2_5).f3), .int .i64 ((rd_T49 l0 x2_5).f4)]) x2_5 0 (some 5) 0 z49 rfl rfl rfl g3 c2 rfl rfl rfl) rfl rfl rfl rfl (xv 4 [] [0, 1] rfl (EV.mv rfl) rfl rfl rfl rfl (xv 5 [] [0, 1] rfl (EV.mv rfl) rfl rfl rfl rfl (xv 6 [] [0, 1] rfl (EV.ix 1 rfl rfl rfl g3 g4 rfl) rfl rfl rfl rfl (xv 7 [] [0, 1] rfl (EV.le (v := .agg #[.int .i64 ((rd_T49 l1 x2_5).f0), .int .i64 ((rd_T49 l1 x2_5).f1), .int .i64 ((rd_T49 l1 x2_5).f2), .int .i64 ((rd_T49 l1 x2_5).f3), .int .i64 ((rd_T49 l1 x2_5).f4)]) x2_5 0 (some 5) 1 z49 rfl rfl rfl g3 g4 rfl rfl rfl) rfl rfl rfl rfl (xv 8 [] [0, 1] rfl (EV.neS rfl rfl (fun d w => eq49 d w ((rd_T49 l0 x2_5).f0) ((rd_T49 l1 x2_5).f0) ((rd_T49 l0 x2_5).f1) ((rd_T49 l1 x2_5).f1) ((rd_T49 l0 x2_5).f2) ((rd_T49 l1 x2_5).f2) ((rd_T49 l0 x2_5).f3) ((rd_T49 l1 x2_5).f3) ((rd_T49 l0 x2_5).f4) ((rd_T49 l1 x2_5).f4))) rfl rfl rfl rfl (xd (pr [0, 1, 5, 25] [] [0, 1] rfl rfl rfl rfl ?_)))))))))))
   revert H; refine ifsI ?_ ?_ <;> intro c5 H
   ·
    exact gf rfl (bN c5) (gk (ge (rg (sv (EV.mv rfl) rfl (sv (EV.add rfl rfl) rfl (sv (EV.as rfl) rfl (re (wk [0, 1, 5] [] [⟨0, 0, 0, false⟩, ⟨1, 0, 0, false⟩] (ih0 _ (by omega) _ ⟨wrap64 (x2_5 + 1), H, rfl⟩)))))))))
   ·
    refine gt rfl (bM c5) (gs (rg (sv (EV.as rfl) rfl (re ?_))))
    cases H
    exact rt Try.func10 rfl (.tmp rfl .nil) rfl [] [] rfl rfl rfl rfl rfl ⟨rfl, rfl, rfl⟩
  ·
   refine gf rfl (dF c2) (gx rfl (gs (rg (sv (EV.as rfl) rfl (re (pr [4] [] [] rfl rfl rfl rfl ?_))))))
   cases H
   exact rt Try.func10 rfl (.tmp rfl .nil) rfl [] [] rfl rfl rfl rfl rfl ⟨rfl, rfl, rfl⟩
 ·
  refine gt rfl (nT c1) (gs (rg (sv (EV.as rfl) rfl (re (pr [4] [] [] rfl rfl rfl rfl ?_)))))
  cases H
  exact rt Try.func10 rfl (.tmp rfl .nil) rfl [] [] rfl rfl rfl rfl rfl ⟨rfl, rfl, rfl⟩
mutual
def spec_l1New.j0 : Nat → Int → (List Int) → Option (Int × Int)
 | 0, _, _ => none
 | k + 1, x2_3, l0 => some (0, x2_3)
def spec_l1New.l0 : Nat → Int → Int → (List Int) → Option (Int × Int)
 | 0, _, _, _ => none
 | k + 1, x3_3, x3_4, l0 => if x3_4 < (l0.length : Int) then (if x3_4 < 4000 then (if 0 ≤ x3_4 then (spec_l1New.l0 k (andI (wrap64 ((wrap64 ((wrap64 (x3_3 * 131)) + (IntKind.i64.wrap (rdOf 0 l0 x3_4)))) + 7)) 1073741823) (wrap64 (x3_4 + 1)) l0) else none) else (spec_l1New.j0 k x3_3 l0)) else (spec_l1New.j0 k x3_3 l0)
end
def spec_l1New.f (k : Nat) (l0 : List Int) : Option (Int × Int) := spec_l1New.l0 k (wrap64 (10101 + (l0.length : Int))) 0 l0
set_option maxHeartbeats 4000000 in
set_option maxRecDepth 100000 in
theorem spec_l1New.ok (k : Nat) (l0 : List Int) (Al0 : Option Addr) (cl0 : Nat) (r0 : Int) (r1 : Int) (H : spec_l1New.f k l0 = some (r0, r1)) : Fn Try.prog 43 [.slice Al0 l0.length cl0] [] [.sl 0 (.int .u8) Al0 cl0 l0 0 false] (fun v bx en => ∃ rb0, v = .pointer (some ⟨rb0, 0, none⟩) ∧ bx = [⟨rb0, 95, [.slice Al0 l0.length cl0, .int .i64 r0, .int .i64 r1]⟩] ∧ en = []) := by
 refine fn_ 32 Try.func43 rfl rfl rfl (fun base T w0 => ?_)
 rw [spec_l1New.f] at H
 refine gs (rg (sv (EV.as rfl) rfl (re (gs (rg (sv (EV.mv rfl) rfl (sv (EV.ln rfl) rfl (sv (EV.add rfl rfl) rfl (sv (EV.as rfl) rfl (re ?_))))))))))
 refine jo (fun S => ∃ (m : Nat) (x2_3 : Int), spec_l1New.j0 m x2_3 l0 = some (r0, r1) ∧ S = ⟨[(0, .slice Al0 l0.length cl0), (3, .int .i64 x2_3)], [], [.sl 0 (.int .u8) Al0 cl0 l0 0 false]⟩) (fun S hS => ?_) (fun jh0 => ?_)
 ·
  clear H
  obtain ⟨m1, x2_3, H, rfl⟩ := hS
  rcases m1 with _ | m1
  · rw [spec_l1New.j0] at H; cases H
  rw [spec_l1New.j0] at H
  refine gs (rg (sv (EV.mv rfl) rfl (sv (EV.mv rfl) rfl (sv (EV.bd (v := .agg #[.slice Al0 l0.length cl0, .int .i64 0, .int .i64 x2_3]) rfl (by kernel_rfl)) rfl (so rfl (op_box (cs := [.slice Al0 l0.length cl0, .int .i64 0, .int .i64 x2_3]) rfl rfl rfl fun b31 => (sv (EV.as rfl) rfl (re (pr [2] [0] [0] rfl rfl rfl rfl ?_)))))))))
  cases H
  exact rt Try.func43 rfl (.tmp rfl .nil) rfl [0] [] rfl rfl rfl rfl rfl ⟨_, rfl, rfl, rfl⟩
 ·
  refine gs (rg (sv (EV.as rfl) rfl (re (gb ?_))))
  refine lo (fun kk S => ∃ (x3_3 : Int) (x3_4 : Int), spec_l1New.l0 kk x3_3 x3_4 l0 = some (r0, r1) ∧ S = ⟨[(0, .slice Al0 l0.length cl0), (3, .int .i64 x3_3), (4, .int .i64 x3_4)], [], [.sl 0 (.int .u8) Al0 cl0 l0 0 false]⟩) (fun S hS => ?_) (fun n0 ih0 S hS => ?_) ⟨wrap64 (10101 + (l0.length : Int)), 0, H, rfl⟩ (fun h => wk [0, 3, 4] [] [⟨0, 0, 0, false⟩] h)
  · clear H; obtain ⟨_, _, H, _⟩ := hS; rw [spec_l1New.l0] at H; cases H
  clear H
  obtain ⟨x3_3, x3_4, H, rfl⟩ := hS
  rw [spec_l1New.l0] at H
  refine gs (gs (rg (sv (EV.mv rfl) rfl (sv (EV.mv rfl) rfl (sv (EV.ln rfl) rfl (sv (EV.lss rfl rfl) rfl (sv (EV.mv rfl) rfl ?_)))))))
  revert H; refine ifsI ?_ ?_ <;> intro c2 H
  ·
   refine ts 12 rfl (dT c2) (sv (EV.mv rfl) rfl (sv (EV.lss rfl rfl) rfl (sv (EV.pt rfl rfl rfl) rfl (re ?_))))
   revert H; refine ifsI ?_ ?_ <;> intro c3 H
   ·
    refine gt rfl (dT c3) (gk (gs (gb (rg (sv (EV.mv rfl) rfl (sv (EV.mul rfl rfl) rfl (sv (EV.mv rfl) rfl (sv (EV.mv rfl) rfl ?_))))))))
    revert H; refine ggI ?_; intro g4 H
    exact sv (EV.ix 0 rfl rfl rfl g4 c2 rfl) rfl (sv (EV.le (v := .int .u8 (rdOf 0 l0 x3_4)) x3_4 0 none 0 0 rfl rfl rfl g4 c2 rfl rfl rfl) rfl (sv (EV.cv (k' := .i64) rfl) rfl (sv (EV.add rfl rfl) rfl (sv (EV.add rfl rfl) rfl (sv (EV.andI rfl rfl) rfl (sv (EV.as rfl) rfl (re (pr [0, 3, 4, 13, 14] [] [0] rfl rfl rfl rfl (ge (rg (sv (EV.mv rfl) rfl (sv (EV.add rfl rfl) rfl (sv (EV.as rfl) rfl (re (wk [0, 3, 4] [] [⟨0, 0, 0, false⟩] (ih0 _ (by omega) _ ⟨andI (wrap64 ((wrap64 ((wrap64 (x3_3 * 131)) + (IntKind.i64.wrap (rdOf 0 l0 x3_4)))) + 7)) 1073741823, wrap64 (x3_4 + 1), H, rfl⟩))))))))))))))))
   ·
    exact gf rfl (dF c3) (gx rfl (wk [0, 3] [] [⟨0, 0, 0, false⟩] (jh0 _ ⟨_, x3_3, H, rfl⟩)))
  ·
   exact ts 12 rfl (dF c2) (sk rfl (sk rfl (sv (EV.pf rfl rfl rfl) rfl (re (pr [0, 3, 4, 15] [] [0] rfl rfl rfl rfl (gf rfl rfl (gx rfl (wk [0, 3] [] [⟨0, 0, 0, false⟩] (jh0 _ ⟨_, x3_3, H, rfl⟩)))))))))
def spec_CombineGroups.f (a0_0 : Int) (a0_1 : Int) (a0_2 : Int) (a0_3 : Int) (a0_4 : Int) (a1_0 : Int) (a1_1 : Int) (a1_2 : Int) (a1_3 : Int) (a1_4 : Int) : Option (Int × Int × Int × Int × Int) := if a0_0 = a1_0 then (some (a0_0, wrap64 (a0_1 + a1_1), wrap64 (a0_2 + a1_2), mn a0_3 a1_3, mx a0_4 a1_4)) else (some (a0_0, a0_1, a0_2, a0_3, a0_4))
set_option maxHeartbeats 4000000 in
set_option maxRecDepth 100000 in
theorem spec_CombineGroups.ok (a0_0 : Int) (a0_1 : Int) (a0_2 : Int) (a0_3 : Int) (a0_4 : Int) (a1_0 : Int) (a1_1 : Int) (a1_2 : Int) (a1_3 : Int) (a1_4 : Int) (r0 : Int) (r1 : Int) (r2 : Int) (r3 : Int) (r4 : Int) (H : spec_CombineGroups.f a0_0 a0_1 a0_2 a0_3 a0_4 a1_0 a1_1 a1_2 a1_3 a1_4 = some (r0, r1, r2, r3, r4)) : Fn Try.prog 85 [.agg #[.int .i64 a0_0, .int .i64 a0_1, .int .i64 a0_2, .int .i64 a0_3, .int .i64 a0_4], .agg #[.int .i64 a1_0, .int .i64 a1_1, .int .i64 a1_2, .int .i64 a1_3, .int .i64 a1_4]] [] [] (fun v bx en => v = .agg #[.int .i64 r0, .int .i64 r1, .int .i64 r2, .int .i64 r3, .int .i64 r4] ∧ bx = [] ∧ en = []) := by
 refine fn_ 34 Try.func85 rfl rfl rfl (fun base T w0 => ?_)
 rw [spec_CombineGroups.f] at H
 refine gs (rg (so rfl (op_box (cs := [.int .i64 a0_0, .int .i64 a0_1, .int .i64 a0_2, .int .i64 a0_3, .int .i64 a0_4]) rfl rfl rfl fun b2 => (so rfl (op_box (cs := [.int .i64 a1_0, .int .i64 a1_1, .int .i64 a1_2, .int .i64 a1_3, .int .i64 a1_4]) rfl rfl rfl fun b3 => (so rfl (op_alloc (cs := [.int .i64 0, .int .i64 0, .int .i64 0, .int .i64 0, .int .i64 0]) (by kernel_rfl) rfl fun b4 => (re (gs (gs (rg (sv (EV.fa 0 rfl) rfl (sv (EV.ld 0 none rfl rfl rfl) rfl (sv (EV.fa 0 rfl) rfl (sv (EV.ld 1 none rfl rfl rfl) rfl (sv (EV.neq rfl rfl) rfl (re (pr [2, 3, 4, 9] [0, 1, 2] [] rfl rfl rfl rfl ?_))))))))))))))))))
 revert H; refine ifsI ?_ ?_ <;> intro c1 H
 ·
  refine gf rfl (nF c1) (gk (gs (rg (sv (EV.fa 0 rfl) rfl (sv (EV.ld 0 none rfl rfl rfl) rfl (sv (EV.fa 1 rfl) rfl (sv (EV.ld 0 none rfl rfl rfl) rfl (sv (EV.fa 1 rfl) rfl (sv (EV.ld 1 none rfl rfl rfl) rfl (sv (EV.add rfl rfl) rfl (sv (EV.fa 2 rfl) rfl (sv (EV.ld 0 none rfl rfl rfl) rfl (sv (EV.fa 2 rfl) rfl (sv (EV.ld 1 none rfl rfl rfl) rfl (sv (EV.add rfl rfl) rfl (sv (EV.fa 3 rfl) rfl (sv (EV.ld 0 none rfl rfl rfl) rfl (sv (EV.fa 3 rfl) rfl (sv (EV.ld 1 none rfl rfl rfl) rfl (sv (EV.mn rfl rfl) rfl (sv (EV.fa 4 rfl) rfl (sv (EV.ld 0 none rfl rfl rfl) rfl (sv (EV.fa 4 rfl) rfl (sv (EV.ld 1 none rfl rfl rfl) rfl (sv (EV.mx rfl rfl) rfl (sv (EV.bd (v := .agg #[.int .i64 a0_0, .int .i64 (wrap64 (a0_1 + a1_1)), .int .i64 (wrap64 (a0_2 + a1_2)), .int .i64 (mn a0_3 a1_3), .int .i64 (mx a0_4 a1_4)]) rfl (by kernel_rfl)) rfl (so rfl (op_st (cs' := [.int .i64 a0_0, .int .i64 (wrap64 (a0_1 + a1_1)), .int .i64 (wrap64 (a0_2 + a1_2)), .int .i64 (mn a0_3 a1_3), .int .i64 (mx a0_4 a1_4)]) 2 rfl rfl rfl rfl rfl rfl (re ?_)))))))))))))))))))))))))))))
  refine pr [4] [2] [] rfl rfl rfl rfl ?_
  cases H
  exact rt Try.func85 rfl (.cell 0 (some 5) rfl rfl rfl .nil) rfl [] [] rfl rfl rfl rfl rfl ⟨rfl, rfl, rfl⟩
 ·
  refine gt rfl (nT c1) (gs (rg (sv (EV.ld (v := .agg #[.int .i64 a0_0, .int .i64 a0_1, .int .i64 a0_2, .int .i64 a0_3, .int .i64 a0_4]) 0 (some 5) rfl rfl rfl) rfl (so rfl (op_st (cs' := [.int .i64 a0_0, .int .i64 a0_1, .int .i64 a0_2, .int .i64 a0_3, .int .i64 a0_4]) 2 rfl rfl rfl rfl rfl rfl (re ?_))))))
  cases H
  exact rt Try.func85 rfl (.cell 2 (some 5) rfl rfl rfl .nil) rfl [] [] rfl rfl rfl rfl rfl ⟨rfl, rfl, rfl⟩
mutual
def spec_MergeGroups.j1 : Nat → (List S49) → Int → Int → (List S49) → Option ((List S49))
 | 0, _, _, _, _ => none
 | k + 1, x33_3, x33_4, x33_5, l0 => if 0 ≤ x33_4 then (if x33_4 < (l0.length : Int) then (if 0 ≤ x33_5 then (if x33_5 ≤ (x33_3.length : Int) then (if ([(⟨(rd_T49 l0 x33_4).f0, (rd_T49 l0 x33_4).f1, (rd_T49 l0 x33_4).f2, (rd_T49 l0 x33_4).f3, (rd_T49 l0 x33_4).f4⟩ : S49)] : List S49).length + (x33_3.drop x33_5.toNat).length ≤ 3518437208883 then (if (x33_3.take x33_5.toNat).length ≤ 3518437208883 then (if (x33_3.take x33_5.toNat).length + (([(⟨(rd_T49 l0 x33_4).f0, (rd_T49 l0 x33_4).f1, (rd_T49 l0 x33_4).f2, (rd_T49 l0 x33_4).f3, (rd_T49 l0 x33_4).f4⟩ : S49)] : List S49) ++ (x33_3.drop x33_5.toNat)).length ≤ 3518437208883 then (spec_MergeGroups.l0 k ((x33_3.take x33_5.toNat) ++ (([(⟨(rd_T49 l0 x33_4).f0, (rd_T49 l0 x33_4).f1, (rd_T49 l0 x33_4).f2, (rd_T49 l0 x33_4).f3, (rd_T49 l0 x33_4).f4⟩ : S49)] : List S49) ++ (x33_3.drop x33_5.toNat))) (wrap64 (x33_4 + 1)) l0) else none) else none) else none) else none) else none) else none) else none
def spec_MergeGroups.j0 : Nat → (List S49) → Int → Int → (List S49) → Option ((List S49))
 | 0, _, _, _, _ => none
 | k + 1, x32_3, x32_4, x32_5, l0 => if x32_5 < (x32_3.length : Int) then (if 0 ≤ x32_5 then (if 0 ≤ x32_4 then (if x32_4 < (l0.length : Int) then (if ((rd_T49 x32_3 x32_5).f0) = ((rd_T49 l0 x32_4).f0) then ((spec_CombineGroups.f ((rd_T49 x32_3 x32_5).f0) ((rd_T49 x32_3 x32_5).f1) ((rd_T49 x32_3 x32_5).f2) ((rd_T49 x32_3 x32_5).f3) ((rd_T49 x32_3 x32_5).f4) ((rd_T49 l0 x32_4).f0) ((rd_T49 l0 x32_4).f1) ((rd_T49 l0 x32_4).f2) ((rd_T49 l0 x32_4).f3) ((rd_T49 l0 x32_4).f4)).bind fun bt22 => ((some (x32_3.set x32_5.toNat (⟨bt22.1, bt22.2.1, bt22.2.2.1, bt22.2.2.2.1, bt22.2.2.2.2⟩ : S49))).bind fun s23 => (spec_MergeGroups.l0 k s23 (wrap64 (x32_4 + 1)) l0))) else (spec_MergeGroups.j1 k x32_3 x32_4 x32_5 l0)) else none) else none) else none) else (spec_MergeGroups.j1 k x32_3 x32_4 x32_5 l0)
def spec_MergeGroups.l1 : Nat → (List S49) → Int → Int → (List S49) → Option ((List S49))
 | 0, _, _, _, _ => none
 | k + 1, x34_3, x34_4, x34_5, l0 => if x34_5 < (x34_3.length : Int) then (if 0 ≤ x34_5 then (if 0 ≤ x34_4 then (if x34_4 < (l0.length : Int) then (if ((rd_T49 x34_3 x34_5).f0) < ((rd_T49 l0 x34_4).f0) then (spec_MergeGroups.l1 k x34_3 x34_4 (wrap64 (x34_5 + 1)) l0) else (spec_MergeGroups.j0 k x34_3 x34_4 x34_5 l0)) else none) else none) else none) else (spec_MergeGroups.j0 k x34_3 x34_4 x34_5 l0)
def spec_MergeGroups.l0 : Nat → (List S49) → Int → (List S49) → Option ((List S49))
 | 0, _, _, _ => none
 | k + 1, x18_3, x18_4, l0 => if x18_4 < (l0.length : Int) then (spec_MergeGroups.l1 k x18_3 x18_4 0 l0) else (some x18_3)
end
def spec_MergeGroups.f (k : Nat) (l0 : List S49) : Option ((List S49)) := spec_MergeGroups.l0 k [] 0 l0
set_option maxHeartbeats 4000000 in
set_option maxRecDepth 100000 in
theorem spec_MergeGroups.ok (k : Nat) (l0 : List S49) (Al0 : Option Addr) (cl0 : Nat) (r0 : List S49) (H : spec_MergeGroups.f k l0 = some r0) : Fn Try.prog 52 [.slice Al0 l0.length cl0] [] [.sl 0 k49 Al0 cl0 l0 0 false] (fun v bx en => ∃ A0 c0, v = .slice A0 r0.length c0 ∧ bx = [] ∧ en = [.sl 2 k49 A0 c0 r0 1 true]) := by
 refine fn_ 79 Try.func52 rfl rfl rfl (fun base T w0 => ?_)
 rw [spec_MergeGroups.f] at H
 refine gs (rg (sv (EV.as rfl) rfl (re (gs (rg (so rfl (op_lit (s := 5) (by_ := 40) k49 ([] : List S49) [] [] 1 [] rfl rfl rfl rfl rfl rfl rfl rfl rfl rfl rfl rfl rfl dq rfl fun A7_1 c7_1 => (sv (EV.as rfl) rfl (re (gs (gs (rg (sv (EV.as rfl) rfl (re (gb ?_)))))))))))))))
 refine lo (fun kk S => ∃ (x18_3 : List S49) (Ax18_3 : Option Addr) (cx18_3 : Nat) (x18_4 : Int), spec_MergeGroups.l0 kk x18_3 x18_4 l0 = some r0 ∧ S = ⟨[(0, .slice Al0 l0.length cl0), (3, .slice Ax18_3 x18_3.length cx18_3), (4, .int .i64 x18_4)], [], [.sl 2 k49 Ax18_3 cx18_3 x18_3 1 true, .sl 0 k49 Al0 cl0 l0 0 false]⟩) (fun S hS => ?_) (fun n0 ih0 S hS => ?_) ⟨[], A7_1, c7_1, 0, H, rfl⟩ (fun h => wk [0, 3, 4] [] [⟨1, 2, 1, true⟩, ⟨0, 0, 0, false⟩] h)
 · clear H; obtain ⟨_, _, _, _, H, _⟩ := hS; rw [spec_MergeGroups.l0] at H; cases H
 clear H
 obtain ⟨x18_3, Ax18_3, cx18_3, x18_4, H, rfl⟩ := hS
 rw [spec_MergeGroups.l0] at H
 refine gs (gs (rg (sv (EV.mv rfl) rfl (sv (EV.mv rfl) rfl (sv (EV.ln rfl) rfl (sv (EV.lss rfl rfl) rfl (re ?_)))))))
 revert H; refine ifsI ?_ ?_ <;> intro c2 H
 ·
  refine gt rfl (dT c2) (gk (gs (gb (gs (rg (sv (EV.as rfl) rfl (re ?_)))))))
  refine jo (fun S => ∃ (m : Nat) (x32_3 : List S49) (Ax32_3 : Option Addr) (cx32_3 : Nat) (x32_4 : Int) (x32_5 : Int), m ≤ n0 ∧ spec_MergeGroups.j0 m x32_3 x32_4 x32_5 l0 = some r0 ∧ S = ⟨[(0, .slice Al0 l0.length cl0), (3, .slice Ax32_3 x32_3.length cx32_3), (4, .int .i64 x32_4), (5, .int .i64 x32_5)], [], [.sl 2 k49 Ax32_3 cx32_3 x32_3 1 true, .sl 0 k49 Al0 cl0 l0 0 false]⟩) (fun S hS => ?_) (fun jh0 => ?_)
  ·
   clear H
   obtain ⟨m3, x32_3, Ax32_3, cx32_3, x32_4, x32_5, lm3, H, rfl⟩ := hS
   rcases m3 with _ | m3
   · rw [spec_MergeGroups.j0] at H; cases H
   rw [spec_MergeGroups.j0] at H
   refine jo (fun S => ∃ (m : Nat) (x33_3 : List S49) (Ax33_3 : Option Addr) (cx33_3 : Nat) (x33_4 : Int) (x33_5 : Int), m ≤ m3 ∧ spec_MergeGroups.j1 m x33_3 x33_4 x33_5 l0 = some r0 ∧ S = ⟨[(0, .slice Al0 l0.length cl0), (3, .slice Ax33_3 x33_3.length cx33_3), (4, .int .i64 x33_4), (5, .int .i64 x33_5)], [], [.sl 2 k49 Ax33_3 cx33_3 x33_3 1 true, .sl 0 k49 Al0 cl0 l0 0 false]⟩) (fun S hS => ?_) (fun jh1 => ?_)
   ·
    clear H
    obtain ⟨m4, x33_3, Ax33_3, cx33_3, x33_4, x33_5, lm4, H, rfl⟩ := hS
    rcases m4 with _ | m4
    · rw [spec_MergeGroups.j1] at H; cases H
    rw [spec_MergeGroups.j1] at H
    refine gs ?_
    revert H; refine ggI ?_; intro g5 H
    revert H; refine ggI ?_; intro g6 H
    revert H; refine ggI ?_; intro g7 H
    revert H; refine ggI ?_; intro g8 H
    refine dr [] [0, 1] [9] 10 rfl rfl rfl rfl (xv 0 [] [0, 1] rfl (EV.mv rfl) rfl rfl rfl rfl (xv 1 [] [0, 1] rfl (EV.mv rfl) rfl rfl rfl rfl (xv 2 [] [0, 1] rfl (EV.ix 1 rfl rfl rfl g5 g6 rfl) rfl rfl rfl rfl (xv 3 [] [0, 1] rfl (EV.le (v := .agg #[.int .i64 ((rd_T49 l0 x33_4).f0), .int .i64 ((rd_T49 l0 x33_4).f1), .int .i64 ((rd_T49 l0 x33_4).f2), .int .i64 ((rd_T49 l0 x33_4).f3), .int .i64 ((rd_T49 l0 x33_4).f4)]) x33_4 0 (some 5) 1 z49 rfl rfl rfl g5 g6 rfl rfl rfl) rfl rfl rfl rfl (xv 5 [] [0, 1] rfl (EV.mv rfl) rfl rfl rfl rfl (xv 6 [] [0, 1] rfl (EV.mv rfl) rfl rfl rfl rfl (cutp (l' := x33_3.drop x33_5.toNat) x33_5 (x33_3.length : Int) 0 rfl g7 g8 (Int.le_refl _) rfl 1 dq (.inl dq) ctl (xv 7 [] [0, 1] rfl (EV.ct x33_5 (x33_3.length : Int) 0 rfl rfl rfl rfl g7 g8 (Int.le_refl _) rfl rfl ctnl) rfl rfl rfl rfl (one1 4 rfl rfl (op_lit (s := 5) (by_ := 40) k49 ([(⟨(rd_T49 l0 x33_4).f0, (rd_T49 l0 x33_4).f1, (rd_T49 l0 x33_4).f2, (rd_T49 l0 x33_4).f3, (rd_T49 l0 x33_4).f4⟩ : S49)] : List S49) [[]] [] 2 [.tmp 65] rfl rfl rfl rfl rfl rfl rfl rfl rfl rfl rfl rfl rfl dq rfl fun A66_9 c66_9 => (xs [] [0, 1] rfl rfl rfl (one1 8 rfl rfl ?_))))))))))))
    revert H; refine ggI ?_; intro g10 H
    refine op_app (k := k49) (s := 5) (by_ := 40) 3 2 rfl rfl rfl rfl (ap2 g10 dq) (ap2n g10 dq) (.inl rfl) true (fun _ => .inl rfl) rfl rfl fun A70_11 c70_11 => (nmE (en := [.sl 2 k49 Ax33_3 cx33_3 x33_3 1 true, .sl 0 k49 Al0 cl0 l0 0 false, .sl 1 k49 (cutA Ax33_3 cx33_3 x33_5.toNat 5) (cx33_3 - x33_5.toNat) (x33_3.drop x33_5.toNat) 1 true, .sl 2 k49 A70_11 c70_11 (([(⟨(rd_T49 l0 x33_4).f0, (rd_T49 l0 x33_4).f1, (rd_T49 l0 x33_4).f2, (rd_T49 l0 x33_4).f3, (rd_T49 l0 x33_4).f4⟩ : S49)] : List S49) ++ (x33_3.drop x33_5.toNat)) 2 true]) (by kernel_rfl) (xs [] [0, 1] rfl rfl rfl (one1 9 rfl rfl (ov (EV.as rfl) rfl (xn rfl (xd (pr [0, 3, 4, 5, 6] [] [0, 1, 3] rfl rfl rfl rfl (rg (so rfl (op_lit (s := 5) (by_ := 40) k49 ([] : List S49) [] [] 3 [] rfl rfl rfl rfl rfl rfl rfl rfl rfl rfl rfl rfl rfl dq rfl fun A71_12 c71_12 => (sv (EV.mv rfl) rfl (sv (EV.mv rfl) rfl (cutp (l' := x33_3.take x33_5.toNat) 0 x33_5 0 rfl (Int.le_refl 0) g7 g8 rfl 2 dq (.inr rfl) rfl (sv (EV.ct 0 x33_5 0 rfl rfl rfl rfl (Int.le_refl 0) g7 g8 rfl rfl ctnh) rfl ?_))))))))))))))
    revert H; refine ggI ?_; intro g13 H
    refine so rfl (op_app (k := k49) (s := 5) (by_ := 40) 3 4 rfl rfl rfl rfl (ap0 g13 dq) (ap0n g13 dq) (.inl rfl) true (fun _ => .inl rfl) rfl rfl fun A75_14 c75_14 => (nmE (en := [.sl 2 k49 Ax33_3 cx33_3 x33_3 1 true, .sl 0 k49 Al0 cl0 l0 0 false, .sl 2 k49 A70_11 c70_11 (([(⟨(rd_T49 l0 x33_4).f0, (rd_T49 l0 x33_4).f1, (rd_T49 l0 x33_4).f2, (rd_T49 l0 x33_4).f3, (rd_T49 l0 x33_4).f4⟩ : S49)] : List S49) ++ (x33_3.drop x33_5.toNat)) 2 true, .sl 2 k49 (cutA Ax33_3 cx33_3 (0 : Int).toNat 5) (cx33_3 - (0 : Int).toNat) (x33_3.take x33_5.toNat) 1 true, .sl 2 k49 A75_14 c75_14 (x33_3.take x33_5.toNat) 3 true]) (by kernel_rfl) (sv (EV.mv rfl) rfl ?_)))
    revert H; refine ggI ?_; intro g15 H
    exact so rfl (op_app (k := k49) (s := 5) (by_ := 40) 4 2 rfl rfl rfl rfl (ap2 g15 dq) (ap2n g15 dq) (.inl rfl) true (fun _ => .inl rfl) rfl rfl fun A77_16 c77_16 => (nmE (en := [.sl 2 k49 Ax33_3 cx33_3 x33_3 1 true, .sl 0 k49 Al0 cl0 l0 0 false, .sl 2 k49 A70_11 c70_11 (([(⟨(rd_T49 l0 x33_4).f0, (rd_T49 l0 x33_4).f1, (rd_T49 l0 x33_4).f2, (rd_T49 l0 x33_4).f3, (rd_T49 l0 x33_4).f4⟩ : S49)] : List S49) ++ (x33_3.drop x33_5.toNat)) 2 true, .sl 2 k49 (cutA Ax33_3 cx33_3 (0 : Int).toNat 5) (cx33_3 - (0 : Int).toNat) (x33_3.take x33_5.toNat) 1 true, .sl 2 k49 A77_16 c77_16 ((x33_3.take x33_5.toNat) ++ (([(⟨(rd_T49 l0 x33_4).f0, (rd_T49 l0 x33_4).f1, (rd_T49 l0 x33_4).f2, (rd_T49 l0 x33_4).f3, (rd_T49 l0 x33_4).f4⟩ : S49)] : List S49) ++ (x33_3.drop x33_5.toNat))) 3 true]) (by kernel_rfl) (sv (EV.as rfl) rfl (re (pr [0, 3, 4] [] [1, 4] rfl rfl rfl rfl (ge (rg (sv (EV.mv rfl) rfl (sv (EV.add rfl rfl) rfl (sv (EV.as rfl) rfl (re (wk [0, 3, 4] [] [⟨1, 2, 1, true⟩, ⟨0, 0, 0, false⟩] (ih0 _ (by omega) _ ⟨(x33_3.take x33_5.toNat) ++ (([(⟨(rd_T49 l0 x33_4).f0, (rd_T49 l0 x33_4).f1, (rd_T49 l0 x33_4).f2, (rd_T49 l0 x33_4).f3, (rd_T49 l0 x33_4).f4⟩ : S49)] : List S49) ++ (x33_3.drop x33_5.toNat)), A77_16, c77_16, wrap64 (x33_4 + 1), H, rfl⟩)))))))))))))
   ·
    refine gs (dr [] [0, 1] [] 17 rfl rfl rfl rfl (xv 0 [] [0, 1] rfl (EV.mv rfl) rfl rfl rfl rfl (xv 1 [] [0, 1] rfl (EV.mv rfl) rfl rfl rfl rfl (xv 2 [] [0, 1] rfl (EV.ln rfl) rfl rfl rfl rfl (xv 3 [] [0, 1] rfl (EV.lss rfl rfl) rfl rfl rfl rfl (xv 4 [] [0, 1] rfl (EV.mv rfl) rfl rfl rfl rfl ?_))))))
    revert H; refine ifsI ?_ ?_ <;> intro c17 H
    ·
     refine ts 37 rfl (dT c17) (xv 5 [] [0, 1] rfl (EV.mv rfl) rfl rfl rfl rfl (xv 6 [] [0, 1] rfl (EV.mv rfl) rfl rfl rfl rfl ?_))
     revert H; refine ggI ?_; intro g18 H
     refine xv 7 [] [0, 1] rfl (EV.ix 0 rfl rfl rfl g18 c17 rfl) rfl rfl rfl rfl (xv 8 [] [0, 1] rfl (EV.fa 0 rfl) rfl rfl rfl rfl (xv 9 [] [0, 1] rfl (EV.le (v := .int .i64 ((rd_T49 x32_3 x32_5).f0)) x32_5 0 none 0 z49 rfl rfl rfl g18 c17 rfl rfl rfl) rfl rfl rfl rfl (xv 10 [] [0, 1] rfl (EV.mv rfl) rfl rfl rfl rfl (xv 11 [] [0, 1] rfl (EV.mv rfl) rfl rfl rfl rfl ?_))))
     revert H; refine ggI ?_; intro g19 H
     revert H; refine ggI ?_; intro g20 H
     refine xv 12 [] [0, 1] rfl (EV.ix 1 rfl rfl rfl g19 g20 rfl) rfl rfl rfl rfl (xv 13 [] [0, 1] rfl (EV.fa 0 rfl) rfl rfl rfl rfl (xv 14 [] [0, 1] rfl (EV.le (v := .int .i64 ((rd_T49 l0 x32_4).f0)) x32_4 0 none 1 z49 rfl rfl rfl g19 g20 rfl rfl rfl) rfl rfl rfl rfl (xv 15 [] [0, 1] rfl (EV.eql rfl rfl) rfl rfl rfl rfl (xv 16 [] [0, 1] rfl (EV.pt rfl rfl rfl) rfl rfl rfl rfl (xd ?_)))))
     revert H; refine ifsI ?_ ?_ <;> intro c21 H
     ·
      refine gt rfl (dT c21) (gs (dr [] [0, 1] [12] 13 rfl rfl rfl rfl (xv 0 [] [0, 1] rfl (EV.mv rfl) rfl rfl rfl rfl (xv 1 [] [0, 1] rfl (EV.mv rfl) rfl rfl rfl rfl (xv 2 [] [0, 1] rfl (EV.mv rfl) rfl rfl rfl rfl (xv 3 [] [0, 1] rfl (EV.mv rfl) rfl rfl rfl rfl (xv 4 [] [0, 1] rfl (EV.ix 0 rfl rfl rfl g18 c17 rfl) rfl rfl rfl rfl (xv 5 [] [0, 1] rfl (EV.le (v := .agg #[.int .i64 ((rd_T49 x32_3 x32_5).f0), .int .i64 ((rd_T49 x32_3 x32_5).f1), .int .i64 ((rd_T49 x32_3 x32_5).f2), .int .i64 ((rd_T49 x32_3 x32_5).f3), .int .i64 ((rd_T49 x32_3 x32_5).f4)]) x32_5 0 (some 5) 0 z49 rfl rfl rfl g18 c17 rfl rfl rfl) rfl rfl rfl rfl (xv 6 [] [0, 1] rfl (EV.mv rfl) rfl rfl rfl rfl (xv 7 [] [0, 1] rfl (EV.mv rfl) rfl rfl rfl rfl (xv 8 [] [0, 1] rfl (EV.ix 1 rfl rfl rfl g19 g20 rfl) rfl rfl rfl rfl (xv 9 [] [0, 1] rfl (EV.le (v := .agg #[.int .i64 ((rd_T49 l0 x32_4).f0), .int .i64 ((rd_T49 l0 x32_4).f1), .int .i64 ((rd_T49 l0 x32_4).f2), .int .i64 ((rd_T49 l0 x32_4).f3), .int .i64 ((rd_T49 l0 x32_4).f4)]) x32_4 0 (some 5) 1 z49 rfl rfl rfl g19 g20 rfl rfl rfl) rfl rfl rfl rfl (one1 10 rfl rfl ?_)))))))))))))
      revert H; refine bdI ?_; rintro ⟨t22_0, t22_1, t22_2, t22_3, t22_4⟩ A22 H
      refine op_call (spec_CombineGroups.ok ((rd_T49 x32_3 x32_5).f0) ((rd_T49 x32_3 x32_5).f1) ((rd_T49 x32_3 x32_5).f2) ((rd_T49 x32_3 x32_5).f3) ((rd_T49 x32_3 x32_5).f4) ((rd_T49 l0 x32_4).f0) ((rd_T49 l0 x32_4).f1) ((rd_T49 l0 x32_4).f2) ((rd_T49 l0 x32_4).f3) ((rd_T49 l0 x32_4).f4) _ _ _ _ _ A22) [] 2 rfl rfl rfl rfl rfl ?_
      rintro _ _ _ ⟨rfl, rfl, rfl⟩
      refine xs [] [0, 1] rfl rfl rfl (xv 11 [] [0, 1] rfl (EV.ix 0 rfl rfl rfl g18 c17 rfl) rfl rfl rfl rfl (one1 12 rfl rfl ?_))
      revert H; refine bdI ?_; intro s23 A23 H; have q23 := stl (Option.some.inj A23)
      exact op_stg x32_5 0 0 z49 (⟨t22_0, t22_1, t22_2, t22_3, t22_4⟩ : S49) (Option.some.inj A23) rfl rfl rfl rfl g18 c17 rfl rfl rfl rfl dq rfl (rlT 3 (v' := .slice Ax32_3 s23.length cx32_3) rfl (slq _ _ q23) (rlT 34 (v' := .slice Ax32_3 s23.length cx32_3) rfl (slq _ _ q23) (rlT 38 (v' := .slice Ax32_3 s23.length cx32_3) rfl (slq _ _ q23) (rlT 50 (v' := .slice Ax32_3 s23.length cx32_3) rfl (slq _ _ q23) (rlT 52 (v' := .slice Ax32_3 s23.length cx32_3) rfl (slq _ _ q23) (nmE (en := [.sl 0 k49 Al0 cl0 l0 0 false, .sl 2 k49 Ax32_3 cx32_3 s23 1 true]) (by kernel_rfl) (xn rfl (xd (pr [0, 3, 4, 38, 39, 42, 43, 44, 45, 46, 47, 48] [] [0, 1] rfl rfl rfl rfl (gx rfl (rg (sv (EV.mv rfl) rfl (sv (EV.add rfl rfl) rfl (sv (EV.as rfl) rfl (re (wk [0, 3, 4] [] [⟨1, 2, 1, true⟩, ⟨0, 0, 0, false⟩] (ih0 _ (by omega) _ ⟨s23, Ax32_3, cx32_3, wrap64 (x32_4 + 1), H, rfl⟩)))))))))))))))))
     ·
      exact gf rfl (dF c21) (gk (wk [0, 3, 4, 5] [] [⟨0, 2, 1, true⟩, ⟨1, 0, 0, false⟩] (jh1 _ ⟨_, x32_3, Ax32_3, cx32_3, x32_4, x32_5, by omega, H, rfl⟩)))
    ·
     exact ts 37 rfl (dF c17) (xk 5 [] [0, 1] rfl rfl rfl rfl rfl (xk 6 [] [0, 1] rfl rfl rfl rfl rfl (xk 7 [] [0, 1] rfl rfl rfl rfl rfl (xk 8 [] [0, 1] rfl rfl rfl rfl rfl (xk 9 [] [0, 1] rfl rfl rfl rfl rfl (xk 10 [] [0, 1] rfl rfl rfl rfl rfl (xk 11 [] [0, 1] rfl rfl rfl rfl rfl (xk 12 [] [0, 1] rfl rfl rfl rfl rfl (xk 13 [] [0, 1] rfl rfl rfl rfl rfl (xk 14 [] [0, 1] rfl rfl rfl rfl rfl (xk 15 [] [0, 1] rfl rfl rfl rfl rfl (xv 16 [] [0, 1] rfl (EV.pf rfl rfl rfl) rfl rfl rfl rfl (xd (pr [0, 3, 4, 5, 49] [] [0, 1] rfl rfl rfl rfl (gf rfl rfl (gk (wk [0, 3, 4, 5] [] [⟨0, 2, 1, true⟩, ⟨1, 0, 0, false⟩] (jh1 _ ⟨_, x32_3, Ax32_3, cx32_3, x32_4, x32_5, by omega, H, rfl⟩))))))))))))))))))
  ·
   refine gb ?_
   refine lo (fun kk S => ∃ (x34_3 : List S49) (Ax34_3 : Option Addr) (cx34_3 : Nat) (x34_4 : Int) (x34_5 : Int), kk ≤ n0 ∧ spec_MergeGroups.l1 kk x34_3 x34_4 x34_5 l0 = some r0 ∧ S = ⟨[(0, .slice Al0 l0.length cl0), (3, .slice Ax34_3 x34_3.length cx34_3), (4, .int .i64 x34_4), (5, .int .i64 x34_5)], [], [.sl 2 k49 Ax34_3 cx34_3 x34_3 1 true, .sl 0 k49 Al0 cl0 l0 0 false]⟩) (fun S hS => ?_) (fun n1 ih1 S hS => ?_) ⟨x18_3, Ax18_3, cx18_3, x18_4, 0, by omega, H, rfl⟩ (fun h => wk [0, 3, 4, 5] [] [⟨0, 2, 1, true⟩, ⟨1, 0, 0, false⟩] h)
   · clear H; obtain ⟨_, _, _, _, _, _, H, _⟩ := hS; rw [spec_MergeGroups.l1] at H; cases H
   clear H
   obtain ⟨x34_3, Ax34_3, cx34_3, x34_4, x34_5, lk1, H, rfl⟩ := hS
   rw [spec_MergeGroups.l1] at H
   refine gs (gs (dr [] [0, 1] [] 17 rfl rfl rfl rfl (xv 0 [] [0, 1] rfl (EV.mv rfl) rfl rfl rfl rfl (xv 1 [] [0, 1] rfl (EV.mv rfl) rfl rfl rfl rfl (xv 2 [] [0, 1] rfl (EV.ln rfl) rfl rfl rfl rfl (xv 3 [] [0, 1] rfl (EV.lss rfl rfl) rfl rfl rfl rfl (xv 4 [] [0, 1] rfl (EV.mv rfl) rfl rfl rfl rfl ?_)))))))
   revert H; refine ifsI ?_ ?_ <;> intro c24 H
   ·
    refine ts 18 rfl (dT c24) (xv 5 [] [0, 1] rfl (EV.mv rfl) rfl rfl rfl rfl (xv 6 [] [0, 1] rfl (EV.mv rfl) rfl rfl rfl rfl ?_))
    revert H; refine ggI ?_; intro g25 H
    refine xv 7 [] [0, 1] rfl (EV.ix 0 rfl rfl rfl g25 c24 rfl) rfl rfl rfl rfl (xv 8 [] [0, 1] rfl (EV.fa 0 rfl) rfl rfl rfl rfl (xv 9 [] [0, 1] rfl (EV.le (v := .int .i64 ((rd_T49 x34_3 x34_5).f0)) x34_5 0 none 0 z49 rfl rfl rfl g25 c24 rfl rfl rfl) rfl rfl rfl rfl (xv 10 [] [0, 1] rfl (EV.mv rfl) rfl rfl rfl rfl (xv 11 [] [0, 1] rfl (EV.mv rfl) rfl rfl rfl rfl ?_))))
    revert H; refine ggI ?_; intro g26 H
    revert H; refine ggI ?_; intro g27 H
    refine xv 12 [] [0, 1] rfl (EV.ix 1 rfl rfl rfl g26 g27 rfl) rfl rfl rfl rfl (xv 13 [] [0, 1] rfl (EV.fa 0 rfl) rfl rfl rfl rfl (xv 14 [] [0, 1] rfl (EV.le (v := .int .i64 ((rd_T49 l0 x34_4).f0)) x34_4 0 none 1 z49 rfl rfl rfl g26 g27 rfl rfl rfl) rfl rfl rfl rfl (xv 15 [] [0, 1] rfl (EV.lss rfl rfl) rfl rfl rfl rfl (xv 16 [] [0, 1] rfl (EV.pt rfl rfl rfl) rfl rfl rfl rfl (xd ?_)))))
    revert H; refine ifsI ?_ ?_ <;> intro c28 H
    ·
     exact gt rfl (dT c28) (gk (gb (rg (sv (EV.mv rfl) rfl (sv (EV.add rfl rfl) rfl (sv (EV.as rfl) rfl (re (pr [0, 3, 4, 5, 19, 20, 21, 22, 23, 24, 25, 26, 27, 28, 29] [] [0, 1] rfl rfl rfl rfl (ge (wk [0, 3, 4, 5] [] [⟨0, 2, 1, true⟩, ⟨1, 0, 0, false⟩] (ih1 _ (by omega) _ ⟨x34_3, Ax34_3, cx34_3, x34_4, wrap64 (x34_5 + 1), by omega, H, rfl⟩)))))))))))
    ·
     exact gf rfl (dF c28) (gx rfl (wk [0, 3, 4, 5] [] [⟨0, 2, 1, true⟩, ⟨1, 0, 0, false⟩] (jh0 _ ⟨_, x34_3, Ax34_3, cx34_3, x34_4, x34_5, by omega, H, rfl⟩)))
   ·
    exact ts 18 rfl (dF c24) (xk 5 [] [0, 1] rfl rfl rfl rfl rfl (xk 6 [] [0, 1] rfl rfl rfl rfl rfl (xk 7 [] [0, 1] rfl rfl rfl rfl rfl (xk 8 [] [0, 1] rfl rfl rfl rfl rfl (xk 9 [] [0, 1] rfl rfl rfl rfl rfl (xk 10 [] [0, 1] rfl rfl rfl rfl rfl (xk 11 [] [0, 1] rfl rfl rfl rfl rfl (xk 12 [] [0, 1] rfl rfl rfl rfl rfl (xk 13 [] [0, 1] rfl rfl rfl rfl rfl (xk 14 [] [0, 1] rfl rfl rfl rfl rfl (xk 15 [] [0, 1] rfl rfl rfl rfl rfl (xv 16 [] [0, 1] rfl (EV.pf rfl rfl rfl) rfl rfl rfl rfl (xd (pr [0, 3, 4, 5, 30] [] [0, 1] rfl rfl rfl rfl (gf rfl rfl (gx rfl (wk [0, 3, 4, 5] [] [⟨0, 2, 1, true⟩, ⟨1, 0, 0, false⟩] (jh0 _ ⟨_, x34_3, Ax34_3, cx34_3, x34_4, x34_5, by omega, H, rfl⟩))))))))))))))))))
 ·
  refine gf rfl (dF c2) (gx rfl (gs (rg (sv (EV.mv rfl) rfl (sv (EV.as rfl) rfl (re (pr [2] [] [0] rfl rfl rfl rfl ?_)))))))
  cases H
  exact rt Try.func52 rfl (.tmp rfl .nil) rfl [] [⟨0, 2, 1, true⟩] rfl rfl rfl rfl rfl ⟨_, _, rfl, rfl, rfl⟩
def spec_GroupFromRow.f (a0_0 : Int) (a0_1 : Int) (a0_2 : Int) : Option (Int × Int × Int × Int × Int) := some (a0_0, 1, a0_1, a0_1, a0_1)
set_option maxHeartbeats 4000000 in
set_option maxRecDepth 100000 in
theorem spec_GroupFromRow.ok (a0_0 : Int) (a0_1 : Int) (a0_2 : Int) (r0 : Int) (r1 : Int) (r2 : Int) (r3 : Int) (r4 : Int) (H : spec_GroupFromRow.f a0_0 a0_1 a0_2 = some (r0, r1, r2, r3, r4)) : Fn Try.prog 54 [.agg #[.int .i64 a0_0, .int .i64 a0_1, .int .i64 a0_2]] [] [] (fun v bx en => v = .agg #[.int .i64 r0, .int .i64 r1, .int .i64 r2, .int .i64 r3, .int .i64 r4] ∧ bx = [] ∧ en = []) := by
 refine fn_ 12 Try.func54 rfl rfl rfl (fun base T w0 => ?_)
 rw [spec_GroupFromRow.f] at H
 refine gs (rg (so rfl (op_box (cs := [.int .i64 a0_0, .int .i64 a0_1, .int .i64 a0_2]) rfl rfl rfl fun b1 => (so rfl (op_alloc (cs := [.int .i64 0, .int .i64 0, .int .i64 0, .int .i64 0, .int .i64 0]) (by kernel_rfl) rfl fun b2 => (re (gs (rg (sv (EV.fa 0 rfl) rfl (sv (EV.ld 0 none rfl rfl rfl) rfl (sv (EV.fa 1 rfl) rfl (sv (EV.ld 0 none rfl rfl rfl) rfl (sv (EV.fa 1 rfl) rfl (sv (EV.ld 0 none rfl rfl rfl) rfl (sv (EV.fa 1 rfl) rfl (sv (EV.ld 0 none rfl rfl rfl) rfl (sv (EV.bd (v := .agg #[.int .i64 a0_0, .int .i64 1, .int .i64 a0_1, .int .i64 a0_1, .int .i64 a0_1]) rfl (by kernel_rfl)) rfl (so rfl (op_st (cs' := [.int .i64 a0_0, .int .i64 1, .int .i64 a0_1, .int .i64 a0_1, .int .i64 a0_1]) 1 rfl rfl rfl rfl rfl rfl (re (pr [2] [1] [] rfl rfl rfl rfl ?_)))))))))))))))))))))
 cases H
 exact rt Try.func54 rfl (.cell 0 (some 5) rfl rfl rfl .nil) rfl [] [] rfl rfl rfl rfl rfl ⟨rfl, rfl, rfl⟩
def spec_ReferenceGroups.l0 : Nat → (List S49) → Int → (List S75) → Option ((List S49))
 | 0, _, _, _ => none
 | k + 1, x2_3, x2_4, l0 => if x2_4 < (l0.length : Int) then (if 0 ≤ x2_4 then ((spec_GroupFromRow.f ((rd_T75 l0 x2_4).f0) ((rd_T75 l0 x2_4).f1) ((rd_T75 l0 x2_4).f2)).bind fun bt4 => (if x2_3.length < 3518437208883 then (spec_ReferenceGroups.l0 k (x2_3 ++ ([(⟨bt4.1, bt4.2.1, bt4.2.2.1, bt4.2.2.2.1, bt4.2.2.2.2⟩ : S49)] : List S49)) (wrap64 (x2_4 + 1)) l0) else none)) else none) else ((spec_MergeGroups.f k x2_3).bind fun t8 => (some t8))
def spec_ReferenceGroups.f (k : Nat) (l0 : List S75) : Option ((List S49)) := spec_ReferenceGroups.l0 k [] 0 l0
set_option maxHeartbeats 4000000 in
set_option maxRecDepth 100000 in
theorem spec_ReferenceGroups.ok (k : Nat) (l0 : List S75) (Al0 : Option Addr) (cl0 : Nat) (r0 : List S49) (H : spec_ReferenceGroups.f k l0 = some r0) : Fn Try.prog 15 [.slice Al0 l0.length cl0] [] [.sl 0 k75 Al0 cl0 l0 0 false] (fun v bx en => ∃ A0 c0, v = .slice A0 r0.length c0 ∧ bx = [] ∧ en = [.sl 2 k49 A0 c0 r0 1 true]) := by
 refine fn_ 22 Try.func15 rfl rfl rfl (fun base T w0 => ?_)
 rw [spec_ReferenceGroups.f] at H
 refine gs (rg (sv (EV.as rfl) rfl (re (gs (rg (so rfl (op_lit (s := 5) (by_ := 40) k49 ([] : List S49) [] [] 1 [] rfl rfl rfl rfl rfl rfl rfl rfl rfl rfl rfl rfl rfl dq rfl fun A5_1 c5_1 => (sv (EV.as rfl) rfl (re (gs (gs (rg (sv (EV.as rfl) rfl (re (gb ?_)))))))))))))))
 refine lo (fun kk S => ∃ (x2_3 : List S49) (Ax2_3 : Option Addr) (cx2_3 : Nat) (x2_4 : Int), spec_ReferenceGroups.l0 kk x2_3 x2_4 l0 = some r0 ∧ S = ⟨[(0, .slice Al0 l0.length cl0), (3, .slice Ax2_3 x2_3.length cx2_3), (4, .int .i64 x2_4)], [], [.sl 2 k49 Ax2_3 cx2_3 x2_3 1 true, .sl 0 k75 Al0 cl0 l0 0 false]⟩) (fun S hS => ?_) (fun n0 ih0 S hS => ?_) ⟨[], A5_1, c5_1, 0, H, rfl⟩ (fun h => wk [0, 3, 4] [] [⟨1, 2, 1, true⟩, ⟨0, 0, 0, false⟩] h)
 · clear H; obtain ⟨_, _, _, _, H, _⟩ := hS; rw [spec_ReferenceGroups.l0] at H; cases H
 clear H
 obtain ⟨x2_3, Ax2_3, cx2_3, x2_4, H, rfl⟩ := hS
 rw [spec_ReferenceGroups.l0] at H
 refine gs (gs (rg (sv (EV.mv rfl) rfl (sv (EV.mv rfl) rfl (sv (EV.ln rfl) rfl (sv (EV.lss rfl rfl) rfl (re ?_)))))))
 revert H; refine ifsI ?_ ?_ <;> intro c2 H
 ·
  refine gt rfl (dT c2) (gk (gs (gb (rg (sv (EV.mv rfl) rfl (sv (EV.mv rfl) rfl (sv (EV.mv rfl) rfl ?_)))))))
  revert H; refine ggI ?_; intro g3 H
  refine sv (EV.ix 1 rfl rfl rfl g3 c2 rfl) rfl (sv (EV.le (v := .agg #[.int .i64 ((rd_T75 l0 x2_4).f0), .int .i64 ((rd_T75 l0 x2_4).f1), .int .i64 ((rd_T75 l0 x2_4).f2)]) x2_4 0 (some 3) 1 z75 rfl rfl rfl g3 c2 rfl rfl rfl) rfl ?_)
  revert H; refine bdI ?_; rintro ⟨t4_0, t4_1, t4_2, t4_3, t4_4⟩ A4 H
  refine so rfl (op_call (spec_GroupFromRow.ok ((rd_T75 l0 x2_4).f0) ((rd_T75 l0 x2_4).f1) ((rd_T75 l0 x2_4).f2) _ _ _ _ _ A4) [] 2 rfl rfl rfl rfl rfl ?_)
  rintro _ _ _ ⟨rfl, rfl, rfl⟩
  refine so rfl (op_lit (s := 5) (by_ := 40) k49 ([(⟨t4_0, t4_1, t4_2, t4_3, t4_4⟩ : S49)] : List S49) [[]] [] 2 [.tmp 17] rfl rfl rfl rfl rfl rfl rfl rfl rfl rfl rfl rfl rfl dq rfl fun A18_5 c18_5 => ?_)
  revert H; refine ggI ?_; intro g6 H
  exact so rfl (op_app (k := k49) (s := 5) (by_ := 40) 0 2 rfl rfl rfl rfl (ap1 g6 dq) (ap1n g6 dq) (.inl rfl) true (fun _ => .inl rfl) rfl rfl fun A19_7 c19_7 => (nmE (en := [.sl 0 k75 Al0 cl0 l0 0 false, .sl 2 k49 A18_5 c18_5 ([(⟨t4_0, t4_1, t4_2, t4_3, t4_4⟩ : S49)] : List S49) 2 true, .sl 2 k49 A19_7 c19_7 (x2_3 ++ ([(⟨t4_0, t4_1, t4_2, t4_3, t4_4⟩ : S49)] : List S49)) 1 true]) (by kernel_rfl) (sv (EV.as rfl) rfl (re (pr [0, 3, 4] [] [0, 2] rfl rfl rfl rfl (ge (rg (sv (EV.mv rfl) rfl (sv (EV.add rfl rfl) rfl (sv (EV.as rfl) rfl (re (wk [0, 3, 4] [] [⟨1, 2, 1, true⟩, ⟨0, 0, 0, false⟩] (ih0 _ (by omega) _ ⟨x2_3 ++ ([(⟨t4_0, t4_1, t4_2, t4_3, t4_4⟩ : S49)] : List S49), A19_7, c19_7, wrap64 (x2_4 + 1), H, rfl⟩)))))))))))))
 ·
  refine gf rfl (dF c2) (gx rfl (gs (rg (sv (EV.mv rfl) rfl ?_))))
  revert H; refine bdI ?_; rintro t8 A8 H
  refine so rfl (op_call (spec_MergeGroups.ok n0 x2_3 Ax2_3 cx2_3 _ A8) [⟨0, 0, 0, false⟩] 2 rfl rfl rfl rfl rfl ?_)
  rintro _ _ _ ⟨At8, ct8, rfl, rfl, rfl⟩
  refine sv (EV.as rfl) rfl (re (pr [2] [] [2] rfl rfl rfl rfl ?_))
  cases H
  exact rt Try.func15 rfl (.tmp rfl .nil) rfl [] [⟨0, 2, 1, true⟩] rfl rfl rfl rfl rfl ⟨_, _, rfl, rfl, rfl⟩
def spec_l1In.f (a0 : Int) (a1 : Int) (a2 : Int) : Option (Bool) := if a0 ≥ a1 then (some (decide (a0 ≤ a2))) else (some false)
set_option maxHeartbeats 4000000 in
set_option maxRecDepth 100000 in
theorem spec_l1In.ok (a0 : Int) (a1 : Int) (a2 : Int) (r0 : Bool) (H : spec_l1In.f a0 a1 a2 = some r0) : Fn Try.prog 71 [.int .i64 a0, .int .i64 a1, .int .i64 a2] [] [] (fun v bx en => v = .bool r0 ∧ bx = [] ∧ en = []) := by
 refine fn_ 15 Try.func71 rfl rfl rfl (fun base T w0 => ?_)
 rw [spec_l1In.f] at H
 refine gs (rg (sv (EV.as rfl) rfl (re (gs (rg (sv (EV.mv rfl) rfl (sv (EV.mv rfl) rfl (sv (EV.geq rfl rfl) rfl (sv (EV.mv rfl) rfl ?_)))))))))
 revert H; refine ifsI ?_ ?_ <;> intro c1 H
 ·
  refine ts 10 rfl (dT c1) (sv (EV.mv rfl) rfl (sv (EV.mv rfl) rfl (sv (EV.leq rfl rfl) rfl (sv (EV.pt rfl rfl rfl) rfl (sv (EV.as rfl) rfl (re (pr [6] [] [] rfl rfl rfl rfl ?_)))))))
  cases H
  exact rt Try.func71 rfl (.tmp rfl .nil) rfl [] [] rfl rfl rfl rfl rfl ⟨rfl, rfl, rfl⟩
 ·
  refine ts 10 rfl (dF c1) (sk rfl (sk rfl (sk rfl (sv (EV.pf rfl rfl rfl) rfl (sv (EV.as rfl) rfl (re (pr [6] [] [] rfl rfl rfl rfl ?_)))))))
  cases H
  exact rt Try.func71 rfl (.tmp rfl .nil) rfl [] [] rfl rfl rfl rfl rfl ⟨rfl, rfl, rfl⟩
def spec_IsValidRow.f (a0_0 : Int) (a0_1 : Int) (a0_2 : Int) : Option (Bool) := (spec_l1In.f a0_0 0 9).bind fun t1 => (if t1 = true then ((spec_l1In.f a0_1 0 99).bind fun t3 => (if t3 = true then ((spec_l1In.f a0_2 0 3).bind fun t5 => (some t5)) else (some false))) else (some false))
set_option maxHeartbeats 4000000 in
set_option maxRecDepth 100000 in
theorem spec_IsValidRow.ok (a0_0 : Int) (a0_1 : Int) (a0_2 : Int) (r0 : Bool) (H : spec_IsValidRow.f a0_0 a0_1 a0_2 = some r0) : Fn Try.prog 53 [.agg #[.int .i64 a0_0, .int .i64 a0_1, .int .i64 a0_2]] [] [] (fun v bx en => v = .bool r0 ∧ bx = [] ∧ en = []) := by
 refine fn_ 16 Try.func53 rfl rfl rfl (fun base T w0 => ?_)
 rw [spec_IsValidRow.f] at H
 refine gs (rg (so rfl (op_box (cs := [.int .i64 a0_0, .int .i64 a0_1, .int .i64 a0_2]) rfl rfl rfl fun b1 => (sv (EV.as rfl) rfl (re (gs (rg (sv (EV.fa 0 rfl) rfl (sv (EV.ld 0 none rfl rfl rfl) rfl ?_)))))))))
 revert H; refine bdI ?_; rintro t1 A1 H
 refine so rfl (op_call (spec_l1In.ok a0_0 0 9 _ A1) [] 1 rfl rfl rfl rfl rfl ?_)
 rintro _ _ _ ⟨rfl, rfl, rfl⟩
 refine sv (EV.mv rfl) rfl ?_
 revert H; refine ifsI ?_ ?_ <;> intro c2 H
 ·
  subst c2
  refine ts 6 rfl rfl (sv (EV.fa 1 rfl) rfl (sv (EV.ld 0 none rfl rfl rfl) rfl ?_))
  revert H; refine bdI ?_; rintro t3 A3 H
  refine so rfl (op_call (spec_l1In.ok a0_1 0 99 _ A3) [] 1 rfl rfl rfl rfl rfl ?_)
  rintro _ _ _ ⟨rfl, rfl, rfl⟩
  refine sv (EV.pt rfl rfl rfl) rfl (sv (EV.mv rfl) rfl ?_)
  revert H; refine ifsI ?_ ?_ <;> intro c4 H
  ·
   subst c4
   refine ts 11 rfl rfl (sv (EV.fa 2 rfl) rfl (sv (EV.ld 0 none rfl rfl rfl) rfl ?_))
   revert H; refine bdI ?_; rintro t5 A5 H
   refine so rfl (op_call (spec_l1In.ok a0_2 0 3 _ A5) [] 1 rfl rfl rfl rfl rfl ?_)
   rintro _ _ _ ⟨rfl, rfl, rfl⟩
   refine sv (EV.pt rfl rfl rfl) rfl (sv (EV.as rfl) rfl (re (pr [2] [] [] rfl rfl rfl rfl ?_)))
   cases H
   exact rt Try.func53 rfl (.tmp rfl .nil) rfl [] [] rfl rfl rfl rfl rfl ⟨rfl, rfl, rfl⟩
  ·
   obtain rfl := bF c4
   refine ts 11 rfl rfl (sk rfl (sk rfl (sk rfl (sv (EV.pf rfl rfl rfl) rfl (sv (EV.as rfl) rfl (re (pr [2] [] [] rfl rfl rfl rfl ?_)))))))
   cases H
   exact rt Try.func53 rfl (.tmp rfl .nil) rfl [] [] rfl rfl rfl rfl rfl ⟨rfl, rfl, rfl⟩
 ·
  obtain rfl := bF c2
  refine ts 6 rfl rfl (sk rfl (sk rfl (sk rfl (sv (EV.pf rfl rfl rfl) rfl (sv (EV.mv rfl) rfl (sk rfl (sk rfl (sk rfl (sv (EV.pf rfl rfl rfl) rfl (sv (EV.as rfl) rfl (re (pr [2] [] [] rfl rfl rfl rfl ?_))))))))))))
  cases H
  exact rt Try.func53 rfl (.tmp rfl .nil) rfl [] [] rfl rfl rfl rfl rfl ⟨rfl, rfl, rfl⟩
def spec_AreValidRows.l0 : Nat → Int → (List S75) → Option (Bool)
 | 0, _, _ => none
 | k + 1, x2_3, l0 => if x2_3 < (l0.length : Int) then (if 0 ≤ x2_3 then ((spec_IsValidRow.f ((rd_T75 l0 x2_3).f0) ((rd_T75 l0 x2_3).f1) ((rd_T75 l0 x2_3).f2)).bind fun t3 => (if t3 = true then (spec_AreValidRows.l0 k (wrap64 (x2_3 + 1)) l0) else (some false))) else none) else (some (decide ((l0.length : Int) ≤ 24)))
def spec_AreValidRows.f (k : Nat) (l0 : List S75) : Option (Bool) := spec_AreValidRows.l0 k 0 l0
set_option maxHeartbeats 4000000 in
set_option maxRecDepth 100000 in
theorem spec_AreValidRows.ok (k : Nat) (l0 : List S75) (Al0 : Option Addr) (cl0 : Nat) (r0 : Bool) (H : spec_AreValidRows.f k l0 = some r0) : Fn Try.prog 11 [.slice Al0 l0.length cl0] [] [.sl 0 k75 Al0 cl0 l0 0 false] (fun v bx en => v = .bool r0 ∧ bx = [] ∧ en = []) := by
 refine fn_ 19 Try.func11 rfl rfl rfl (fun base T w0 => ?_)
 rw [spec_AreValidRows.f] at H
 refine gs (rg (sv (EV.as rfl) rfl (re (gs (gs (rg (sv (EV.as rfl) rfl (re (gb ?_)))))))))
 refine lo (fun kk S => ∃ (x2_3 : Int), spec_AreValidRows.l0 kk x2_3 l0 = some r0 ∧ S = ⟨[(0, .slice Al0 l0.length cl0), (3, .int .i64 x2_3)], [], [.sl 0 k75 Al0 cl0 l0 0 false]⟩) (fun S hS => ?_) (fun n0 ih0 S hS => ?_) ⟨0, H, rfl⟩ (fun h => wk [0, 3] [] [⟨0, 0, 0, false⟩] h)
 · clear H; obtain ⟨_, H, _⟩ := hS; rw [spec_AreValidRows.l0] at H; cases H
 clear H
 obtain ⟨x2_3, H, rfl⟩ := hS
 rw [spec_AreValidRows.l0] at H
 refine gs (gs (rg (sv (EV.mv rfl) rfl (sv (EV.mv rfl) rfl (sv (EV.ln rfl) rfl (sv (EV.lss rfl rfl) rfl (re ?_)))))))
 revert H; refine ifsI ?_ ?_ <;> intro c1 H
 ·
  refine gt rfl (dT c1) (gk (gs (gb (gs (rg (sv (EV.mv rfl) rfl (sv (EV.mv rfl) rfl ?_)))))))
  revert H; refine ggI ?_; intro g2 H
  refine sv (EV.ix 0 rfl rfl rfl g2 c1 rfl) rfl (sv (EV.le (v := .agg #[.int .i64 ((rd_T75 l0 x2_3).f0), .int .i64 ((rd_T75 l0 x2_3).f1), .int .i64 ((rd_T75 l0 x2_3).f2)]) x2_3 0 (some 3) 0 z75 rfl rfl rfl g2 c1 rfl rfl rfl) rfl ?_)
  revert H; refine bdI ?_; rintro t3 A3 H
  refine so rfl (op_call (spec_IsValidRow.ok ((rd_T75 l0 x2_3).f0) ((rd_T75 l0 x2_3).f1) ((rd_T75 l0 x2_3).f2) _ A3) [] 1 rfl rfl rfl rfl rfl ?_)
  rintro _ _ _ ⟨rfl, rfl, rfl⟩
  refine sv (EV.nt rfl) rfl (re (pr [0, 3, 15] [] [0] rfl rfl rfl rfl ?_))
  revert H; refine ifsI ?_ ?_ <;> intro c4 H
  ·
   subst c4
   exact gf rfl rfl (gk (ge (rg (sv (EV.mv rfl) rfl (sv (EV.add rfl rfl) rfl (sv (EV.as rfl) rfl (re (wk [0, 3] [] [⟨0, 0, 0, false⟩] (ih0 _ (by omega) _ ⟨wrap64 (x2_3 + 1), H, rfl⟩)))))))))
  ·
   obtain rfl := bF c4
   refine gt rfl rfl (gs (rg (sv (EV.as rfl) rfl (re ?_))))
   cases H
   exact rt Try.func11 rfl (.tmp rfl .nil) rfl [] [] rfl rfl rfl rfl rfl ⟨rfl, rfl, rfl⟩
 ·
  refine gf rfl (dF c1) (gx rfl (gs (rg (sv (EV.mv rfl) rfl (sv (EV.ln rfl) rfl (sv (EV.leq rfl rfl) rfl (sv (EV.as rfl) rfl (re (pr [2] [] [] rfl rfl rfl rfl ?_)))))))))
  cases H
  exact rt Try.func11 rfl (.tmp rfl .nil) rfl [] [] rfl rfl rfl rfl rfl ⟨rfl, rfl, rfl⟩
def spec_IsValidAggregator.l0 : Nat → Int → Int → Int → Bool → (List S64) → Option (Bool)
 | 0, _, _, _, _, _ => none
 | k + 1, x2_3, x2_4, x2_1_1, x2_1_2, l0_0 => if x2_4 < (l0_0.length : Int) then (if 0 ≤ x2_4 then ((spec_AreValidRows.f k ((rd_T64 l0_0 x2_4).f0)).bind fun t4 => (if t4 = true then ((spec_l1In.f ((rd_T64 l0_0 x2_4).f1) 0 4).bind fun t6 => (if t6 = true then (spec_IsValidAggregator.l0 k (wrap64 (x2_3 + (((rd_T64 l0_0 x2_4).f0).length : Int))) (wrap64 (x2_4 + 1)) x2_1_1 x2_1_2 l0_0) else (some false))) else (some false))) else none) else (if x2_3 ≤ 24 then (if (l0_0.length : Int) ≤ 40 then ((spec_l1In.f x2_1_1 0 100000).bind fun t11 => (some t11)) else (some false)) else (some false))
def spec_IsValidAggregator.f (k : Nat) (l0_0 : List S64) (a0_1 : Int) (a0_2 : Bool) : Option (Bool) := spec_IsValidAggregator.l0 k 0 0 a0_1 a0_2 l0_0
set_option maxHeartbeats 4000000 in
set_option maxRecDepth 100000 in
theorem spec_IsValidAggregator.ok (k : Nat) (l0_0 : List S64) (Al0_0 : Option Addr) (cl0_0 : Nat) (a0_1 : Int) (a0_2 : Bool) (r0 : Bool) (H : spec_IsValidAggregator.f k l0_0 a0_1 a0_2 = some r0) : Fn Try.prog 39 [.agg #[.slice Al0_0 l0_0.length cl0_0, .int .i64 a0_1, .bool a0_2]] [] [.sl 0 k64 Al0_0 cl0_0 l0_0 0 false] (fun v bx en => v = .bool r0 ∧ bx = [] ∧ en = []) := by
 refine fn_ 52 Try.func39 rfl rfl rfl (fun base T w0 => ?_)
 rw [spec_IsValidAggregator.f] at H
 refine gs (rg (so rfl (op_box (cs := [.slice Al0_0 l0_0.length cl0_0, .int .i64 a0_1, .bool a0_2]) rfl rfl rfl fun b1 => (sv (EV.as rfl) rfl (re (gs (rg (sv (EV.as rfl) rfl (re (gs (gs (rg (sv (EV.as rfl) rfl (re (gb ?_)))))))))))))))
 refine lo (fun kk S => ∃ (x2_3 : Int) (x2_4 : Int) (x2_1_1 : Int) (x2_1_2 : Bool), spec_IsValidAggregator.l0 kk x2_3 x2_4 x2_1_1 x2_1_2 l0_0 = some r0 ∧ S = ⟨[(1, .pointer (some ⟨b1, 0, none⟩)), (3, .int .i64 x2_3), (4, .int .i64 x2_4)], [⟨b1, 54, [.slice Al0_0 l0_0.length cl0_0, .int .i64 x2_1_1, .bool x2_1_2]⟩], [.sl 0 k64 Al0_0 cl0_0 l0_0 0 false]⟩) (fun S hS => ?_) (fun n0 ih0 S hS => ?_) ⟨0, 0, a0_1, a0_2, H, rfl⟩ (fun h => wk [1, 3, 4] [0] [⟨0, 0, 0, false⟩] h)
 · clear H; obtain ⟨_, _, _, _, H, _⟩ := hS; rw [spec_IsValidAggregator.l0] at H; cases H
 clear H
 obtain ⟨x2_3, x2_4, x2_1_1, x2_1_2, H, rfl⟩ := hS
 rw [spec_IsValidAggregator.l0] at H
 refine gs (gs (rg (sv (EV.mv rfl) rfl (sv (EV.fa 0 rfl) rfl (sv (EV.ld 0 none rfl rfl rfl) rfl (sv (EV.ln rfl) rfl (sv (EV.lss rfl rfl) rfl (re ?_))))))))
 revert H; refine ifsI ?_ ?_ <;> intro c1 H
 ·
  refine gt rfl (dT c1) (gk (gs (gb (gs (gs (rg (sv (EV.fa 0 rfl) rfl (sv (EV.ld 0 none rfl rfl rfl) rfl (sv (EV.mv rfl) rfl ?_)))))))))
  revert H; refine ggI ?_; intro g2 H
  refine sv (EV.ix 0 rfl rfl rfl g2 c1 rfl) rfl (sv (EV.fa 0 rfl) rfl (opn (i := x2_4) 0 z64 rfl g2 c1 fun A_3 c_3 => (sv (EV.lc (v := .slice A_3 ((rd_T64 l0_0 x2_4).f0).length c_3) 0 none 1 rfl rfl rfl rfl) rfl ?_)))
  revert H; refine bdI ?_; rintro t4 A4 H
  refine so rfl (op_call (spec_AreValidRows.ok n0 ((rd_T64 l0_0 x2_4).f0) A_3 c_3 _ A4) [⟨2, 0, 0, false⟩] 1 rfl rfl rfl rfl rfl ?_)
  rintro _ _ _ ⟨rfl, rfl, rfl⟩
  refine sv (EV.nt rfl) rfl (sv (EV.mv rfl) rfl ?_)
  revert H; refine ifsI ?_ ?_ <;> intro c5 H
  ·
   subst c5
   refine ts 20 rfl rfl (sv (EV.fa 0 rfl) rfl (sv (EV.ld 0 none rfl rfl rfl) rfl (sv (EV.mv rfl) rfl (sv (EV.ix 0 rfl rfl rfl g2 c1 rfl) rfl (sv (EV.fa 1 rfl) rfl (sv (EV.lf (v := .int .i64 ((rd_T64 l0_0 x2_4).f1)) x2_4 1 none 0 z64 rfl rfl rfl g2 c1 rfl (fun _ _ => rfl)) rfl ?_))))))
   revert H; refine bdI ?_; rintro t6 A6 H
   refine so rfl (op_call (spec_l1In.ok ((rd_T64 l0_0 x2_4).f1) 0 4 _ A6) [] 1 rfl rfl rfl rfl rfl ?_)
   rintro _ _ _ ⟨rfl, rfl, rfl⟩
   refine sv (EV.nt rfl) rfl (sv (EV.pf rfl rfl rfl) rfl (re (pr [1, 3, 4, 21, 22, 23, 24, 25, 26, 27, 28, 29] [0] [0] rfl rfl rfl rfl ?_)))
   revert H; refine ifsI ?_ ?_ <;> intro c7 H
   ·
    subst c7
    exact gf rfl rfl (gk (rg (sv (EV.mv rfl) rfl (sv (EV.fa 0 rfl) rfl (sv (EV.ld 0 none rfl rfl rfl) rfl (sv (EV.mv rfl) rfl (sv (EV.ix 0 rfl rfl rfl g2 c1 rfl) rfl (sv (EV.fa 0 rfl) rfl (opn (i := x2_4) 0 z64 rfl g2 c1 fun A_8 c_8 => (sv (EV.lc (v := .slice A_8 ((rd_T64 l0_0 x2_4).f0).length c_8) 0 none 1 rfl rfl rfl rfl) rfl (sv (EV.ln rfl) rfl (sv (EV.add rfl rfl) rfl (sv (EV.as rfl) rfl (re (pr [1, 3, 4, 21, 22, 23, 24, 25, 26, 27, 28] [0] [0] rfl rfl rfl rfl (ge (rg (sv (EV.mv rfl) rfl (sv (EV.add rfl rfl) rfl (sv (EV.as rfl) rfl (re (wk [1, 3, 4] [0] [⟨0, 0, 0, false⟩] (ih0 _ (by omega) _ ⟨wrap64 (x2_3 + (((rd_T64 l0_0 x2_4).f0).length : Int)), wrap64 (x2_4 + 1), x2_1_1, x2_1_2, H, rfl⟩)))))))))))))))))))))))
   ·
    obtain rfl := bF c7
    refine gt rfl rfl (gs (rg (sv (EV.as rfl) rfl (re (pr [2] [] [] rfl rfl rfl rfl ?_)))))
    cases H
    exact rt Try.func39 rfl (.tmp rfl .nil) rfl [] [] rfl rfl rfl rfl rfl ⟨rfl, rfl, rfl⟩
  ·
   obtain rfl := bF c5
   refine ts 20 rfl rfl (sk rfl (sk rfl (sk rfl (sk rfl (sk rfl (sk rfl (sk rfl (sk rfl (sv (EV.pt rfl rfl rfl) rfl (re (pr [1, 3, 4, 29] [0] [0] rfl rfl rfl rfl (gt rfl rfl (gs (rg (sv (EV.as rfl) rfl (re ?_))))))))))))))))
   cases H
   exact rt Try.func39 rfl (.tmp rfl .nil) rfl [] [] rfl rfl rfl rfl rfl ⟨rfl, rfl, rfl⟩
 ·
  refine gf rfl (dF c1) (gx rfl (gs (rg (sv (EV.mv rfl) rfl (sv (EV.leq rfl rfl) rfl (sv (EV.mv rfl) rfl ?_))))))
  revert H; refine ifsI ?_ ?_ <;> intro c9 H
  ·
   refine ts 41 rfl (dT c9) (sv (EV.fa 0 rfl) rfl (sv (EV.ld 0 none rfl rfl rfl) rfl (sv (EV.ln rfl) rfl (sv (EV.leq rfl rfl) rfl (sv (EV.pt rfl rfl rfl) rfl (sv (EV.mv rfl) rfl ?_))))))
   revert H; refine ifsI ?_ ?_ <;> intro c10 H
   ·
    refine ts 47 rfl (dT c10) (sv (EV.fa 1 rfl) rfl (sv (EV.ld 0 none rfl rfl rfl) rfl ?_))
    revert H; refine bdI ?_; rintro t11 A11 H
    refine so rfl (op_call (spec_l1In.ok x2_1_1 0 100000 _ A11) [] 1 rfl rfl rfl rfl rfl ?_)
    rintro _ _ _ ⟨rfl, rfl, rfl⟩
    refine sv (EV.pt rfl rfl rfl) rfl (sv (EV.as rfl) rfl (re (pr [2] [] [] rfl rfl rfl rfl ?_)))
    cases H
    exact rt Try.func39 rfl (.tmp rfl .nil) rfl [] [] rfl rfl rfl rfl rfl ⟨rfl, rfl, rfl⟩
   ·
    refine ts 47 rfl (dF c10) (sk rfl (sk rfl (sk rfl (sv (EV.pf rfl rfl rfl) rfl (sv (EV.as rfl) rfl (re (pr [2] [] [] rfl rfl rfl rfl ?_)))))))
    cases H
    exact rt Try.func39 rfl (.tmp rfl .nil) rfl [] [] rfl rfl rfl rfl rfl ⟨rfl, rfl, rfl⟩
  ·
   refine ts 41 rfl (dF c9) (sk rfl (sk rfl (sk rfl (sk rfl (sv (EV.pf rfl rfl rfl) rfl (sv (EV.mv rfl) rfl (sk rfl (sk rfl (sk rfl (sv (EV.pf rfl rfl rfl) rfl (sv (EV.as rfl) rfl (re (pr [2] [] [] rfl rfl rfl rfl ?_)))))))))))))
   cases H
   exact rt Try.func39 rfl (.tmp rfl .nil) rfl [] [] rfl rfl rfl rfl rfl ⟨rfl, rfl, rfl⟩
mutual
def spec_DistinctKeys.l1 : Nat → (List Int) → Int → Bool → Int → (List S75) → Option ((List Int))
 | 0, _, _, _, _, _ => none
 | k + 1, x18_3, x18_4, x18_5, x18_6, l0 => if x18_6 < (x18_3.length : Int) then (if x18_5 = true then (spec_DistinctKeys.l1 k x18_3 x18_4 true (wrap64 (x18_6 + 1)) l0) else (if 0 ≤ x18_6 then (if 0 ≤ x18_4 then (if x18_4 < (l0.length : Int) then (spec_DistinctKeys.l1 k x18_3 x18_4 (decide ((rdOf 0 x18_3 x18_6) = ((rd_T75 l0 x18_4).f0))) (wrap64 (x18_6 + 1)) l0) else none) else none) else none)) else (if x18_5 = true then (spec_DistinctKeys.l0 k x18_3 (wrap64 (x18_4 + 1)) l0) else (if 0 ≤ x18_4 then (if x18_4 < (l0.length : Int) then (if x18_3.length < 17592186044416 then (spec_DistinctKeys.l0 k (x18_3 ++ ([(rd_T75 l0 x18_4).f0] : List Int)) (wrap64 (x18_4 + 1)) l0) else none) else none) else none))
def spec_DistinctKeys.l0 : Nat → (List Int) → Int → (List S75) → Option ((List Int))
 | 0, _, _, _ => none
 | k + 1, x10_3, x10_4, l0 => if x10_4 < (l0.length : Int) then (spec_DistinctKeys.l1 k x10_3 x10_4 false 0 l0) else (some x10_3)
end
def spec_DistinctKeys.f (k : Nat) (l0 : List S75) : Option ((List Int)) := spec_DistinctKeys.l0 k [] 0 l0
set_option maxHeartbeats 4000000 in
set_option maxRecDepth 100000 in
theorem spec_DistinctKeys.ok (k : Nat) (l0 : List S75) (Al0 : Option Addr) (cl0 : Nat) (r0 : List Int) (H : spec_DistinctKeys.f k l0 = some r0) : Fn Try.prog 42 [.slice Al0 l0.length cl0] [] [.sl 0 k75 Al0 cl0 l0 0 false] (fun v bx en => ∃ A0 c0, v = .slice A0 r0.length c0 ∧ bx = [] ∧ en = [.sl 2 (.int .i64) A0 c0 r0 1 true]) := by
 refine fn_ 44 Try.func42 rfl rfl rfl (fun base T w0 => ?_)
 rw [spec_DistinctKeys.f] at H
 refine gs (rg (sv (EV.as rfl) rfl (re (gs (rg (so rfl (op_lit (s := 1) (by_ := 8) (.int .i64) ([] : List Int) [] [] 1 [] rfl rfl rfl rfl rfl rfl rfl rfl rfl rfl rfl rfl rfl dq rfl fun A7_1 c7_1 => (sv (EV.as rfl) rfl (re (gs (gs (rg (sv (EV.as rfl) rfl (re (gb ?_)))))))))))))))
 refine lo (fun kk S => ∃ (x10_3 : List Int) (Ax10_3 : Option Addr) (cx10_3 : Nat) (x10_4 : Int), spec_DistinctKeys.l0 kk x10_3 x10_4 l0 = some r0 ∧ S = ⟨[(0, .slice Al0 l0.length cl0), (3, .slice Ax10_3 x10_3.length cx10_3), (4, .int .i64 x10_4)], [], [.sl 2 (.int .i64) Ax10_3 cx10_3 x10_3 1 true, .sl 0 k75 Al0 cl0 l0 0 false]⟩) (fun S hS => ?_) (fun n0 ih0 S hS => ?_) ⟨[], A7_1, c7_1, 0, H, rfl⟩ (fun h => wk [0, 3, 4] [] [⟨1, 2, 1, true⟩, ⟨0, 0, 0, false⟩] h)
 · clear H; obtain ⟨_, _, _, _, H, _⟩ := hS; rw [spec_DistinctKeys.l0] at H; cases H
 clear H
 obtain ⟨x10_3, Ax10_3, cx10_3, x10_4, H, rfl⟩ := hS
 rw [spec_DistinctKeys.l0] at H
 refine gs (gs (rg (sv (EV.mv rfl) rfl (sv (EV.mv rfl) rfl (sv (EV.ln rfl) rfl (sv (EV.lss rfl rfl) rfl (re ?_)))))))
 revert H; refine ifsI ?_ ?_ <;> intro c2 H
 ·
  refine gt rfl (dT c2) (gk (gs (gb (gs (rg (sv (EV.as rfl) rfl (re (gs (gs (rg (sv (EV.as rfl) rfl (re (gb ?_)))))))))))))
  refine lo (fun kk S => ∃ (x18_3 : List Int) (Ax18_3 : Option Addr) (cx18_3 : Nat) (x18_4 : Int) (x18_5 : Bool) (x18_6 : Int), kk ≤ n0 ∧ spec_DistinctKeys.l1 kk x18_3 x18_4 x18_5 x18_6 l0 = some r0 ∧ S = ⟨[(0, .slice Al0 l0.length cl0), (3, .slice Ax18_3 x18_3.length cx18_3), (4, .int .i64 x18_4), (5, .bool x18_5), (6, .int .i64 x18_6)], [], [.sl 2 (.int .i64) Ax18_3 cx18_3 x18_3 1 true, .sl 0 k75 Al0 cl0 l0 0 false]⟩) (fun S hS => ?_) (fun n1 ih1 S hS => ?_) ⟨x10_3, Ax10_3, cx10_3, x10_4, false, 0, by omega, H, rfl⟩ (fun h => wk [0, 3, 4, 5, 6] [] [⟨0, 2, 1, true⟩, ⟨1, 0, 0, false⟩] h)
  · clear H; obtain ⟨_, _, _, _, _, _, _, H, _⟩ := hS; rw [spec_DistinctKeys.l1] at H; cases H
  clear H
  obtain ⟨x18_3, Ax18_3, cx18_3, x18_4, x18_5, x18_6, lk1, H, rfl⟩ := hS
  rw [spec_DistinctKeys.l1] at H
  refine gs (gs (rg (sv (EV.mv rfl) rfl (sv (EV.mv rfl) rfl (sv (EV.ln rfl) rfl (sv (EV.lss rfl rfl) rfl (re ?_)))))))
  revert H; refine ifsI ?_ ?_ <;> intro c3 H
  ·
   refine gt rfl (dT c3) (gk (gs (gb (dr [] [0, 1] [] 14 rfl rfl rfl rfl (xv 0 [] [0, 1] rfl (EV.mv rfl) rfl rfl rfl rfl (xv 1 [] [0, 1] rfl (EV.mv rfl) rfl rfl rfl rfl ?_))))))
   revert H; refine ifsI ?_ ?_ <;> intro c4 H
   ·
    subst c4
    exact ts 21 rfl rfl (xk 2 [] [0, 1] rfl rfl rfl rfl rfl (xk 3 [] [0, 1] rfl rfl rfl rfl rfl (xk 4 [] [0, 1] rfl rfl rfl rfl rfl (xk 5 [] [0, 1] rfl rfl rfl rfl rfl (xk 6 [] [0, 1] rfl rfl rfl rfl rfl (xk 7 [] [0, 1] rfl rfl rfl rfl rfl (xk 8 [] [0, 1] rfl rfl rfl rfl rfl (xk 9 [] [0, 1] rfl rfl rfl rfl rfl (xk 10 [] [0, 1] rfl rfl rfl rfl rfl (xk 11 [] [0, 1] rfl rfl rfl rfl rfl (xv 12 [] [0, 1] rfl (EV.pt rfl rfl rfl) rfl rfl rfl rfl (xv 13 [] [0, 1] rfl (EV.as rfl) rfl rfl rfl rfl (xd (pr [0, 3, 4, 5, 6] [] [0, 1] rfl rfl rfl rfl (ge (rg (sv (EV.mv rfl) rfl (sv (EV.add rfl rfl) rfl (sv (EV.as rfl) rfl (re (wk [0, 3, 4, 5, 6] [] [⟨0, 2, 1, true⟩, ⟨1, 0, 0, false⟩] (ih1 _ (by omega) _ ⟨x18_3, Ax18_3, cx18_3, x18_4, true, wrap64 (x18_6 + 1), by omega, H, rfl⟩))))))))))))))))))))))
   ·
    obtain rfl := bF c4
    refine ts 21 rfl rfl (xv 2 [] [0, 1] rfl (EV.mv rfl) rfl rfl rfl rfl (xv 3 [] [0, 1] rfl (EV.mv rfl) rfl rfl rfl rfl ?_))
    revert H; refine ggI ?_; intro g5 H
    refine xv 4 [] [0, 1] rfl (EV.ix 0 rfl rfl rfl g5 c3 rfl) rfl rfl rfl rfl (xv 5 [] [0, 1] rfl (EV.le (v := .int .i64 (rdOf 0 x18_3 x18_6)) x18_6 0 none 0 0 rfl rfl rfl g5 c3 rfl rfl rfl) rfl rfl rfl rfl (xv 6 [] [0, 1] rfl (EV.mv rfl) rfl rfl rfl rfl (xv 7 [] [0, 1] rfl (EV.mv rfl) rfl rfl rfl rfl ?_)))
    revert H; refine ggI ?_; intro g6 H
    revert H; refine ggI ?_; intro g7 H
    exact xv 8 [] [0, 1] rfl (EV.ix 1 rfl rfl rfl g6 g7 rfl) rfl rfl rfl rfl (xv 9 [] [0, 1] rfl (EV.fa 0 rfl) rfl rfl rfl rfl (xv 10 [] [0, 1] rfl (EV.le (v := .int .i64 ((rd_T75 l0 x18_4).f0)) x18_4 0 none 1 z75 rfl rfl rfl g6 g7 rfl rfl rfl) rfl rfl rfl rfl (xv 11 [] [0, 1] rfl (EV.eql rfl rfl) rfl rfl rfl rfl (xv 12 [] [0, 1] rfl (EV.pf rfl rfl rfl) rfl rfl rfl rfl (xv 13 [] [0, 1] rfl (EV.as rfl) rfl rfl rfl rfl (xd (pr [0, 3, 4, 5, 6, 22, 23, 24, 25, 26, 27, 28, 29, 30, 31] [] [0, 1] rfl rfl rfl rfl (ge (rg (sv (EV.mv rfl) rfl (sv (EV.add rfl rfl) rfl (sv (EV.as rfl) rfl (re (wk [0, 3, 4, 5, 6] [] [⟨0, 2, 1, true⟩, ⟨1, 0, 0, false⟩] (ih1 _ (by omega) _ ⟨x18_3, Ax18_3, cx18_3, x18_4, decide ((rdOf 0 x18_3 x18_6) = ((rd_T75 l0 x18_4).f0)), wrap64 (x18_6 + 1), by omega, H, rfl⟩)))))))))))))))
  ·
   refine gf rfl (dF c3) (gx rfl (gs (rg (sv (EV.mv rfl) rfl (sv (EV.nt rfl) rfl (re (pr [0, 3, 4, 34] [] [0, 1] rfl rfl rfl rfl ?_)))))))
   revert H; refine ifsI ?_ ?_ <;> intro c8 H
   ·
    subst c8
    exact gf rfl rfl (gk (ge (rg (sv (EV.mv rfl) rfl (sv (EV.add rfl rfl) rfl (sv (EV.as rfl) rfl (re (wk [0, 3, 4] [] [⟨0, 2, 1, true⟩, ⟨1, 0, 0, false⟩] (ih0 _ (by omega) _ ⟨x18_3, Ax18_3, cx18_3, wrap64 (x18_4 + 1), H, rfl⟩)))))))))
   ·
    obtain rfl := bF c8
    refine gt rfl rfl (rg (sv (EV.mv rfl) rfl (sv (EV.mv rfl) rfl (sv (EV.mv rfl) rfl ?_))))
    revert H; refine ggI ?_; intro g9 H
    revert H; refine ggI ?_; intro g10 H
    refine sv (EV.ix 1 rfl rfl rfl g9 g10 rfl) rfl (sv (EV.fa 0 rfl) rfl (sv (EV.le (v := .int .i64 ((rd_T75 l0 x18_4).f0)) x18_4 0 none 1 z75 rfl rfl rfl g9 g10 rfl rfl rfl) rfl (so rfl (op_lit (s := 1) (by_ := 8) (.int .i64) ([(rd_T75 l0 x18_4).f0] : List Int) [[]] [] 2 [.tmp 40] rfl rfl rfl rfl rfl rfl rfl rfl rfl rfl rfl rfl rfl dq rfl fun A41_11 c41_11 => ?_))))
    revert H; refine ggI ?_; intro g12 H
    exact so rfl (op_app (k := (.int .i64)) (s := 1) (by_ := 8) 0 2 rfl rfl rfl rfl (ap1 g12 dq) (ap1n g12 dq) (.inl rfl) true (fun _ => .inl rfl) rfl rfl fun A42_13 c42_13 => (nmE (en := [.sl 0 k75 Al0 cl0 l0 0 false, .sl 2 (.int .i64) A41_11 c41_11 ([(rd_T75 l0 x18_4).f0] : List Int) 2 true, .sl 2 (.int .i64) A42_13 c42_13 (x18_3 ++ ([(rd_T75 l0 x18_4).f0] : List Int)) 1 true]) (by kernel_rfl) (sv (EV.as rfl) rfl (re (pr [0, 3, 4] [] [0, 2] rfl rfl rfl rfl (ge (rg (sv (EV.mv rfl) rfl (sv (EV.add rfl rfl) rfl (sv (EV.as rfl) rfl (re (wk [0, 3, 4] [] [⟨1, 2, 1, true⟩, ⟨0, 0, 0, false⟩] (ih0 _ (by omega) _ ⟨x18_3 ++ ([(rd_T75 l0 x18_4).f0] : List Int), A42_13, c42_13, wrap64 (x18_4 + 1), H, rfl⟩)))))))))))))
 ·
  refine gf rfl (dF c2) (gx rfl (gs (rg (sv (EV.mv rfl) rfl (sv (EV.as rfl) rfl (re (pr [2] [] [0] rfl rfl rfl rfl ?_)))))))
  cases H
  exact rt Try.func42 rfl (.tmp rfl .nil) rfl [] [⟨0, 2, 1, true⟩] rfl rfl rfl rfl rfl ⟨_, _, rfl, rfl, rfl⟩
def spec_RowCost.f (a0_0 : Int) (a0_1 : Int) (a0_2 : Int) : Option (Int) := (spec_IsValidRow.f a0_0 a0_1 a0_2).bind fun t1 => (if t1 = true then (some (wrap64 (1 + a0_2))) else (some 0))
set_option maxHeartbeats 4000000 in
set_option maxRecDepth 100000 in
theorem spec_RowCost.ok (a0_0 : Int) (a0_1 : Int) (a0_2 : Int) (r0 : Int) (H : spec_RowCost.f a0_0 a0_1 a0_2 = some r0) : Fn Try.prog 87 [.agg #[.int .i64 a0_0, .int .i64 a0_1, .int .i64 a0_2]] [] [] (fun v bx en => v = .int .i64 r0 ∧ bx = [] ∧ en = []) := by
 refine fn_ 9 Try.func87 rfl rfl rfl (fun base T w0 => ?_)
 rw [spec_RowCost.f] at H
 refine gs (rg (so rfl (op_box (cs := [.int .i64 a0_0, .int .i64 a0_1, .int .i64 a0_2]) rfl rfl rfl fun b1 => (sv (EV.as rfl) rfl (re (gs (gs (rg (sv (EV.ld (v := .agg #[.int .i64 a0_0, .int .i64 a0_1, .int .i64 a0_2]) 0 (some 3) rfl rfl rfl) rfl ?_)))))))))
 revert H; refine bdI ?_; rintro t1 A1 H
 refine so rfl (op_call (spec_IsValidRow.ok a0_0 a0_1 a0_2 _ A1) [] 1 rfl rfl rfl rfl rfl ?_)
 rintro _ _ _ ⟨rfl, rfl, rfl⟩
 refine sv (EV.nt rfl) rfl (re ?_)
 revert H; refine ifsI ?_ ?_ <;> intro c2 H
 ·
  subst c2
  refine gf rfl rfl (gk (gs (rg (sv (EV.fa 2 rfl) rfl (sv (EV.ld 0 none rfl rfl rfl) rfl (sv (EV.add rfl rfl) rfl (sv (EV.as rfl) rfl (re (pr [2] [] [] rfl rfl rfl rfl ?_)))))))))
  cases H
  exact rt Try.func87 rfl (.tmp rfl .nil) rfl [] [] rfl rfl rfl rfl rfl ⟨rfl, rfl, rfl⟩
 ·
  obtain rfl := bF c2
  refine gt rfl rfl (gs (rg (sv (EV.as rfl) rfl (re ?_))))
  cases H
  exact rt Try.func87 rfl (.tmp rfl .nil) rfl [] [] rfl rfl rfl rfl rfl ⟨rfl, rfl, rfl⟩
def spec_TotalCost.l0 : Nat → Int → Int → (List S75) → Option (Int)
 | 0, _, _, _ => none
 | k + 1, x2_3, x2_4, l0 => if x2_4 < (l0.length : Int) then (if 0 ≤ x2_4 then ((spec_RowCost.f ((rd_T75 l0 x2_4).f0) ((rd_T75 l0 x2_4).f1) ((rd_T75 l0 x2_4).f2)).bind fun t3 => (spec_TotalCost.l0 k (wrap64 (x2_3 + t3)) (wrap64 (x2_4 + 1)) l0)) else none) else (some x2_3)
def spec_TotalCost.f (k : Nat) (l0 : List S75) : Option (Int) := spec_TotalCost.l0 k 0 0 l0
set_option maxHeartbeats 4000000 in
set_option maxRecDepth 100000 in
theorem spec_TotalCost.ok (k : Nat) (l0 : List S75) (Al0 : Option Addr) (cl0 : Nat) (r0 : Int) (H : spec_TotalCost.f k l0 = some r0) : Fn Try.prog 56 [.slice Al0 l0.length cl0] [] [.sl 0 k75 Al0 cl0 l0 0 false] (fun v bx en => v = .int .i64 r0 ∧ bx = [] ∧ en = []) := by
 refine fn_ 19 Try.func56 rfl rfl rfl (fun base T w0 => ?_)
 rw [spec_TotalCost.f] at H
 refine gs (rg (sv (EV.as rfl) rfl (re (gs (rg (sv (EV.as rfl) rfl (re (gs (gs (rg (sv (EV.as rfl) rfl (re (gb ?_)))))))))))))
 refine lo (fun kk S => ∃ (x2_3 : Int) (x2_4 : Int), spec_TotalCost.l0 kk x2_3 x2_4 l0 = some r0 ∧ S = ⟨[(0, .slice Al0 l0.length cl0), (3, .int .i64 x2_3), (4, .int .i64 x2_4)], [], [.sl 0 k75 Al0 cl0 l0 0 false]⟩) (fun S hS => ?_) (fun n0 ih0 S hS => ?_) ⟨0, 0, H, rfl⟩ (fun h => wk [0, 3, 4] [] [⟨0, 0, 0, false⟩] h)
 · clear H; obtain ⟨_, _, H, _⟩ := hS; rw [spec_TotalCost.l0] at H; cases H
 clear H
 obtain ⟨x2_3, x2_4, H, rfl⟩ := hS
 rw [spec_TotalCost.l0] at H
 refine gs (gs (rg (sv (EV.mv rfl) rfl (sv (EV.mv rfl) rfl (sv (EV.ln rfl) rfl (sv (EV.lss rfl rfl) rfl (re ?_)))))))
 revert H; refine ifsI ?_ ?_ <;> intro c1 H
 ·
  refine gt rfl (dT c1) (gk (gs (gb (rg (sv (EV.mv rfl) rfl (sv (EV.mv rfl) rfl (sv (EV.mv rfl) rfl ?_)))))))
  revert H; refine ggI ?_; intro g2 H
  refine sv (EV.ix 0 rfl rfl rfl g2 c1 rfl) rfl (sv (EV.le (v := .agg #[.int .i64 ((rd_T75 l0 x2_4).f0), .int .i64 ((rd_T75 l0 x2_4).f1), .int .i64 ((rd_T75 l0 x2_4).f2)]) x2_4 0 (some 3) 0 z75 rfl rfl rfl g2 c1 rfl rfl rfl) rfl ?_)
  revert H; refine bdI ?_; rintro t3 A3 H
  refine so rfl (op_call (spec_RowCost.ok ((rd_T75 l0 x2_4).f0) ((rd_T75 l0 x2_4).f1) ((rd_T75 l0 x2_4).f2) _ A3) [] 1 rfl rfl rfl rfl rfl ?_)
  rintro _ _ _ ⟨rfl, rfl, rfl⟩
  exact sv (EV.add rfl rfl) rfl (sv (EV.as rfl) rfl (re (pr [0, 3, 4] [] [0] rfl rfl rfl rfl (ge (rg (sv (EV.mv rfl) rfl (sv (EV.add rfl rfl) rfl (sv (EV.as rfl) rfl (re (wk [0, 3, 4] [] [⟨0, 0, 0, false⟩] (ih0 _ (by omega) _ ⟨wrap64 (x2_3 + t3), wrap64 (x2_4 + 1), H, rfl⟩)))))))))))
 ·
  refine gf rfl (dF c1) (gx rfl (gs (rg (sv (EV.mv rfl) rfl (sv (EV.as rfl) rfl (re (pr [2] [] [] rfl rfl rfl rfl ?_)))))))
  cases H
  exact rt Try.func56 rfl (.tmp rfl .nil) rfl [] [] rfl rfl rfl rfl rfl ⟨rfl, rfl, rfl⟩
def spec_l22Copy.l0 : Nat → Int → Int → Bool → (List S64) → Int → Bool → (List S64) → Int → Bool → (List S64) → Option ((List S64) × Int × Bool)
 | 0, _, _, _, _, _, _, _, _, _, _ => none
 | k + 1, x2_4, x2_1_1, x2_1_2, x2_2_0, x2_2_1, x2_2_2, x2_3_0, x2_3_1, x2_3_2, l0_0 => if x2_4 < (l0_0.length : Int) then (if 0 ≤ x2_4 then (if ((rd_T64 l0_0 x2_4).f0).length ≤ 5864062014805 then (if x2_3_0.length < 4398046511104 then (spec_l22Copy.l0 k (wrap64 (x2_4 + 1)) x2_1_1 x2_1_2 x2_2_0 x2_2_1 x2_2_2 (x2_3_0 ++ ([(⟨(rd_T64 l0_0 x2_4).f0, (rd_T64 l0_0 x2_4).f1⟩ : S64)] : List S64)) x2_3_1 x2_3_2 l0_0) else none) else none) else none) else (some (x2_3_0, x2_3_1, x2_3_2))
def spec_l22Copy.f (k : Nat) (l0_0 : List S64) (a0_1 : Int) (a0_2 : Bool) : Option ((List S64) × Int × Bool) := spec_l22Copy.l0 k 0 a0_1 a0_2 [] 0 false [] a0_1 a0_2 l0_0
set_option maxHeartbeats 4000000 in
set_option maxRecDepth 100000 in
theorem spec_l22Copy.ok (k : Nat) (l0_0 : List S64) (Al0_0 : Option Addr) (cl0_0 : Nat) (a0_1 : Int) (a0_2 : Bool) (r0 : List S64) (r1 : Int) (r2 : Bool) (H : spec_l22Copy.f k l0_0 a0_1 a0_2 = some (r0, r1, r2)) : Fn Try.prog 70 [.agg #[.slice Al0_0 l0_0.length cl0_0, .int .i64 a0_1, .bool a0_2]] [] [.sl 0 k64 Al0_0 cl0_0 l0_0 0 false] (fun v bx en => ∃ A0 c0, v = .agg #[.slice A0 r0.length c0, .int .i64 r1, .bool r2] ∧ bx = [] ∧ en = [.sl 2 k64 A0 c0 r0 1 true]) := by
 refine fn_ 38 Try.func70 rfl rfl rfl (fun base T w0 => ?_)
 rw [spec_l22Copy.f] at H
 refine gs (rg (so rfl (op_box (cs := [.slice Al0_0 l0_0.length cl0_0, .int .i64 a0_1, .bool a0_2]) rfl rfl rfl fun b1 => (so rfl (op_alloc (cs := [.slice none 0 0, .int .i64 0, .bool false]) (by kernel_rfl) rfl fun b2 => (re (gs (rg (sv (EV.fa 1 rfl) rfl (sv (EV.ld 0 none rfl rfl rfl) rfl (sv (EV.fa 2 rfl) rfl (sv (EV.ld 0 none rfl rfl rfl) rfl (sv (EV.bd (v := .agg #[.slice none 0 0, .int .i64 a0_1, .bool a0_2]) rfl (by kernel_rfl)) rfl (so rfl (op_alloc (cs := [.slice none 0 0, .int .i64 0, .bool false]) (by kernel_rfl) rfl fun b3 => (so rfl (op_st (cs' := [.slice none 0 0, .int .i64 a0_1, .bool a0_2]) 2 rfl rfl rfl rfl rfl rfl (re (pr [1, 2, 3] [0, 1, 2] [0] rfl rfl rfl rfl (gs (gs (rg (sv (EV.as rfl) rfl (re (gb (nil_ k64 1 dq (nil_ k64 2 dq ?_)))))))))))))))))))))))))))
 refine lo (fun kk S => ∃ (x2_4 : Int) (x2_1_1 : Int) (x2_1_2 : Bool) (x2_2_0 : List S64) (Ax2_2_0 : Option Addr) (cx2_2_0 : Nat) (x2_2_1 : Int) (x2_2_2 : Bool) (x2_3_0 : List S64) (Ax2_3_0 : Option Addr) (cx2_3_0 : Nat) (x2_3_1 : Int) (x2_3_2 : Bool), spec_l22Copy.l0 kk x2_4 x2_1_1 x2_1_2 x2_2_0 x2_2_1 x2_2_2 x2_3_0 x2_3_1 x2_3_2 l0_0 = some (r0, r1, r2) ∧ S = ⟨[(1, .pointer (some ⟨b1, 0, none⟩)), (2, .pointer (some ⟨b2, 0, none⟩)), (3, .pointer (some ⟨b3, 0, none⟩)), (4, .int .i64 x2_4)], [⟨b1, 54, [.slice Al0_0 l0_0.length cl0_0, .int .i64 x2_1_1, .bool x2_1_2]⟩, ⟨b2, 54, [.slice Ax2_2_0 x2_2_0.length cx2_2_0, .int .i64 x2_2_1, .bool x2_2_2]⟩, ⟨b3, 54, [.slice Ax2_3_0 x2_3_0.length cx2_3_0, .int .i64 x2_3_1, .bool x2_3_2]⟩], [.sl 2 k64 Ax2_2_0 cx2_2_0 x2_2_0 1 true, .sl 2 k64 Ax2_3_0 cx2_3_0 x2_3_0 2 true, .sl 0 k64 Al0_0 cl0_0 l0_0 0 false]⟩) (fun S hS => ?_) (fun n0 ih0 S hS => ?_) ⟨0, a0_1, a0_2, [], none, 0, 0, false, [], none, 0, a0_1, a0_2, H, rfl⟩ (fun h => wk [1, 2, 3, 4] [0, 1, 2] [⟨1, 2, 1, true⟩, ⟨2, 2, 2, true⟩, ⟨0, 0, 0, false⟩] h)
 · clear H; obtain ⟨_, _, _, _, _, _, _, _, _, _, _, _, _, H, _⟩ := hS; rw [spec_l22Copy.l0] at H; cases H
 clear H
 obtain ⟨x2_4, x2_1_1, x2_1_2, x2_2_0, Ax2_2_0, cx2_2_0, x2_2_1, x2_2_2, x2_3_0, Ax2_3_0, cx2_3_0, x2_3_1, x2_3_2, H, rfl⟩ := hS
 rw [spec_l22Copy.l0] at H
 refine gs (gs (rg (sv (EV.mv rfl) rfl (sv (EV.fa 0 rfl) rfl (sv (EV.ld 0 none rfl rfl rfl) rfl (sv (EV.ln rfl) rfl (sv (EV.lss rfl rfl) rfl (re ?_))))))))
 revert H; refine ifsI ?_ ?_ <;> intro c1 H
 ·
  refine gt rfl (dT c1) (gk (gs (gb ?_)))
  revert H; refine ggI ?_; intro g2 H
  refine opn (i := x2_4) 2 z64 rfl g2 c1 fun A_3 c_3 => ?_
  revert H; refine ggI ?_; intro g4 H
  revert H; refine ggI ?_; intro g5 H
  refine dr [0, 1, 2] [0, 2, 3, 4] [19, 20] 21 rfl rfl rfl rfl (xv 0 [0, 1, 2] [0, 2, 3, 4] rfl (EV.fa 0 rfl) rfl rfl rfl rfl (xv 1 [0, 1, 2] [0, 2, 3, 4] rfl (EV.ld 2 none rfl rfl rfl) rfl rfl rfl rfl (xv 3 [0, 1, 2] [0, 2, 3, 4] rfl (EV.fa 0 rfl) rfl rfl rfl rfl (xv 4 [0, 1, 2] [0, 2, 3, 4] rfl (EV.ld 0 none rfl rfl rfl) rfl rfl rfl rfl (xv 5 [0, 1, 2] [0, 2, 3, 4] rfl (EV.mv rfl) rfl rfl rfl rfl (xv 6 [0, 1, 2] [0, 2, 3, 4] rfl (EV.ix 1 rfl rfl rfl g2 c1 rfl) rfl rfl rfl rfl (xv 7 [0, 1, 2] [0, 2, 3, 4] rfl (EV.fa 0 rfl) rfl rfl rfl rfl (xv 8 [0, 1, 2] [0, 2, 3, 4] rfl (EV.lc (v := .slice A_3 ((rd_T64 l0_0 x2_4).f0).length c_3) 0 none 2 rfl rfl rfl rfl) rfl rfl rfl rfl (xv 10 [0, 1, 2] [0, 2, 3, 4] rfl (EV.fa 0 rfl) rfl rfl rfl rfl (xv 11 [0, 1, 2] [0, 2, 3, 4] rfl (EV.ld 0 none rfl rfl rfl) rfl rfl rfl rfl (xv 12 [0, 1, 2] [0, 2, 3, 4] rfl (EV.mv rfl) rfl rfl rfl rfl (xv 13 [0, 1, 2] [0, 2, 3, 4] rfl (EV.ix 1 rfl rfl rfl g2 c1 rfl) rfl rfl rfl rfl (xv 14 [0, 1, 2] [0, 2, 3, 4] rfl (EV.fa 1 rfl) rfl rfl rfl rfl (xv 15 [0, 1, 2] [0, 2, 3, 4] rfl (EV.lf (v := .int .i64 ((rd_T64 l0_0 x2_4).f1)) x2_4 1 none 1 z64 rfl rfl rfl g2 c1 rfl (fun _ _ => rfl)) rfl rfl rfl rfl (one1 2 rfl rfl (op_lit (s := 3) (by_ := 24) k75 ([] : List S75) [] [] 3 [] rfl rfl rfl rfl rfl rfl rfl rfl rfl rfl rfl rfl rfl dq rfl fun A19_6 c19_6 => (xs [0, 1, 2] [0, 2, 3, 4] rfl rfl rfl (one1 9 rfl rfl (op_app (k := k75) (s := 3) (by_ := 24) 5 4 rfl rfl rfl rfl (ap0 g4 dq) (ap0n g4 dq) (.inl rfl) true (fun _ => .inl rfl) rfl rfl fun A26_7 c26_7 => (nmE (en := [.sl 2 k64 Ax2_2_0 cx2_2_0 x2_2_0 1 true, .sl 2 k64 Ax2_3_0 cx2_3_0 x2_3_0 2 true, .sl 0 k64 Al0_0 cl0_0 l0_0 0 false, celE Al0_0 (x2_4.toNat * 2) [.slice A_3 ((rd_T64 l0_0 x2_4).f0).length c_3, .int .i64 ((rd_T64 l0_0 x2_4).f1)] 0, .sl 0 k75 A_3 c_3 ((rd_T64 l0_0 x2_4).f0) 0 false, .sl 2 k75 A26_7 c26_7 ((rd_T64 l0_0 x2_4).f0) 3 true]) (by kernel_rfl) (xs [0, 1, 2] [0, 2, 3, 4] rfl rfl rfl (one1 16 rfl rfl (ov (EV.bd (v := .agg #[.slice A26_7 ((rd_T64 l0_0 x2_4).f0).length c26_7, .int .i64 ((rd_T64 l0_0 x2_4).f1)]) rfl (by kernel_rfl)) rfl (xs [0, 1, 2] [0, 2, 3, 4] rfl rfl rfl (one1 17 rfl rfl (op_lit (s := 2) (by_ := 32) k64 ([(⟨(rd_T64 l0_0 x2_4).f0, (rd_T64 l0_0 x2_4).f1⟩ : S64)] : List S64) [[(A26_7, c26_7)]] [5] 4 [.tmp 33] rfl rfl rfl rfl rfl rfl rfl rfl rfl rfl rfl rfl rfl dq rfl fun A34_8 c34_8 => (nmE (en := [.sl 2 k64 Ax2_2_0 cx2_2_0 x2_2_0 1 true, .sl 2 k64 Ax2_3_0 cx2_3_0 x2_3_0 2 true, .sl 0 k64 Al0_0 cl0_0 l0_0 0 false, celE Al0_0 (x2_4.toNat * 2) [.slice A_3 ((rd_T64 l0_0 x2_4).f0).length c_3, .int .i64 ((rd_T64 l0_0 x2_4).f1)] 0, .sl 0 k75 A_3 c_3 ((rd_T64 l0_0 x2_4).f0) 0 false, .sl 2 k75 A26_7 c26_7 ((rd_T64 l0_0 x2_4).f0) 4 true, .sl 2 k64 A34_8 c34_8 ([(⟨(rd_T64 l0_0 x2_4).f0, (rd_T64 l0_0 x2_4).f1⟩ : S64)] : List S64) 4 true]) (by kernel_rfl) (xs [0, 1, 2] [0, 2, 3, 4] rfl rfl rfl (one1 18 rfl rfl ?_)))))))))))))))))))))))))))))
  exact op_app (k := k64) (s := 2) (by_ := 32) 1 6 rfl rfl rfl rfl (ap1 g5 dq) (ap1n g5 dq) (.inr ⟨dq, dq, rfl, dq⟩) true (fun _ => .inr ⟨rfl, rfl, dq⟩) rfl rfl fun A35_9 c35_9 => (nmE (en := [.sl 2 k64 Ax2_2_0 cx2_2_0 x2_2_0 1 true, .sl 0 k64 Al0_0 cl0_0 l0_0 0 false, celE Al0_0 (x2_4.toNat * 2) [.slice A_3 ((rd_T64 l0_0 x2_4).f0).length c_3, .int .i64 ((rd_T64 l0_0 x2_4).f1)] 0, .sl 0 k75 A_3 c_3 ((rd_T64 l0_0 x2_4).f0) 0 false, .sl 2 k75 A26_7 c26_7 ((rd_T64 l0_0 x2_4).f0) 2 true, .sl 2 k64 A34_8 c34_8 ([(⟨(rd_T64 l0_0 x2_4).f0, (rd_T64 l0_0 x2_4).f1⟩ : S64)] : List S64) 2 true, .sl 2 k64 A35_9 c35_9 (x2_3_0 ++ ([(⟨(rd_T64 l0_0 x2_4).f0, (rd_T64 l0_0 x2_4).f1⟩ : S64)] : List S64)) 2 true]) (by kernel_rfl) (xs [0, 1, 2] [0, 1, 2, 3] rfl rfl rfl (one1 19 rfl rfl (ov (EV.fa 0 rfl) rfl (xn rfl (one1 20 rfl rfl (op_st (cs' := [.slice A35_9 (x2_3_0 ++ ([(⟨(rd_T64 l0_0 x2_4).f0, (rd_T64 l0_0 x2_4).f1⟩ : S64)] : List S64)).length c35_9, .int .i64 x2_3_1, .bool x2_3_2]) 2 rfl rfl rfl rfl rfl rfl (xn rfl (xd (pr [1, 2, 3, 4] [0, 1, 2] [0, 1, 6] rfl rfl rfl rfl (ge (rg (sv (EV.mv rfl) rfl (sv (EV.add rfl rfl) rfl (sv (EV.as rfl) rfl (re (wk [1, 2, 3, 4] [0, 1, 2] [⟨0, 2, 1, true⟩, ⟨2, 2, 2, true⟩, ⟨1, 0, 0, false⟩] (ih0 _ (by omega) _ ⟨wrap64 (x2_4 + 1), x2_1_1, x2_1_2, x2_2_0, Ax2_2_0, cx2_2_0, x2_2_1, x2_2_2, x2_3_0 ++ ([(⟨(rd_T64 l0_0 x2_4).f0, (rd_T64 l0_0 x2_4).f1⟩ : S64)] : List S64), A35_9, c35_9, x2_3_1, x2_3_2, H, rfl⟩))))))))))))))))))
 ·
  refine gf rfl (dF c1) (gx rfl (gs (rg (sv (EV.ld (v := .agg #[.slice Ax2_3_0 x2_3_0.length cx2_3_0, .int .i64 x2_3_1, .bool x2_3_2]) 2 (some 3) rfl rfl rfl) rfl (so rfl (op_st (cs' := [.slice Ax2_3_0 x2_3_0.length cx2_3_0, .int .i64 x2_3_1, .bool x2_3_2]) 1 rfl rfl rfl rfl rfl rfl (re (pr [2] [1] [1] rfl rfl rfl rfl ?_))))))))
  cases H
  exact rt Try.func70 rfl (.cell 0 (some 3) rfl rfl rfl .nil) rfl [] [⟨0, 2, 1, true⟩] rfl rfl rfl rfl rfl ⟨_, _, rfl, rfl, rfl⟩
mutual
def spec_l22Early.j1 : Nat → Int → (List S49) → (List S64) → Int → Bool → (List S64) → Int → Bool → Option ((List S64) × Int × Bool × (List S49) × Int × Bool)
 | 0, _, _, _, _, _, _, _, _ => none
 | k + 1, x3_13, x3_14, x3_4_0, x3_4_1, x3_4_2, x3_8_0, x3_8_1, x3_8_2 => some (x3_4_0, x3_4_1, x3_4_2, x3_14, wrap64 (x3_13 * 3), true)
def spec_l22Early.j0 : Nat → (List S64) → Int → Int → Bool → (List S75) → Int → (List S64) → Int → Bool → Option ((List S64) × Int × Bool × (List S49) × Int × Bool)
 | 0, _, _, _, _, _, _, _, _, _ => none
 | k + 1, x2_2, x2_12, x2_4_1, x2_4_2, x2_5_0, x2_5_1, x2_8_0, x2_8_1, x2_8_2 => if 0 ≤ x2_12 then (if x2_12 ≤ (x2_5_0.length : Int) then ((spec_DistinctKeys.f k (x2_5_0.take x2_12.toNat)).bind fun t4 => ((spec_ReferenceGroups.f k (x2_5_0.take x2_12.toNat)).bind fun t5 => (if x2_12 < (x2_5_0.length : Int) then (if ([(⟨x2_5_0.drop x2_12.toNat, x2_5_1⟩ : S64)] : List S64).length + x2_2.length ≤ 4398046511104 then (spec_l22Early.j1 k (t4.length : Int) t5 (([(⟨x2_5_0.drop x2_12.toNat, x2_5_1⟩ : S64)] : List S64) ++ x2_2) x2_4_1 x2_4_2 x2_8_0 x2_8_1 x2_8_2) else none) else (spec_l22Early.j1 k (t4.length : Int) t5 x2_2 x2_4_1 x2_4_2 x2_8_0 x2_8_1 x2_8_2)))) else none) else none
def spec_l22Early.l0 : Nat → (List S64) → Int → Int → Int → Bool → (List S75) → Int → (List S64) → Int → Bool → Option ((List S64) × Int × Bool × (List S49) × Int × Bool)
 | 0, _, _, _, _, _, _, _, _, _, _ => none
 | k + 1, x4_2, x4_3, x4_12, x4_4_1, x4_4_2, x4_5_0, x4_5_1, x4_8_0, x4_8_1, x4_8_2 => if x4_12 < (x4_5_0.length : Int) then (if 0 ≤ (wrap64 (x4_12 + 1)) then (if (wrap64 (x4_12 + 1)) ≤ (x4_5_0.length : Int) then ((spec_DistinctKeys.f k (x4_5_0.take (wrap64 (x4_12 + 1)).toNat)).bind fun t14 => (if (t14.length : Int) ≤ x4_3 then (spec_l22Early.l0 k x4_2 x4_3 (wrap64 (x4_12 + 1)) x4_4_1 x4_4_2 x4_5_0 x4_5_1 x4_8_0 x4_8_1 x4_8_2) else (spec_l22Early.j0 k x4_2 x4_12 x4_4_1 x4_4_2 x4_5_0 x4_5_1 x4_8_0 x4_8_1 x4_8_2))) else none) else none) else (spec_l22Early.j0 k x4_2 x4_12 x4_4_1 x4_4_2 x4_5_0 x4_5_1 x4_8_0 x4_8_1 x4_8_2)
end
def spec_l22Early.f (k : Nat) (l0_0 : List S64) (a0_1 : Int) (a0_2 : Bool) (l1_0 : List S75) (a1_1 : Int) (l2 : List S64) (a3 : Int) : Option ((List S64) × Int × Bool × (List S49) × Int × Bool) := spec_l22Early.l0 k l2 a3 0 a0_1 a0_2 l1_0 a1_1 [] 0 false
set_option maxHeartbeats 4000000 in
set_option maxRecDepth 100000 in
theorem spec_l22Early.ok (k : Nat) (l0_0 : List S64) (Al0_0 : Option Addr) (cl0_0 : Nat) (a0_1 : Int) (a0_2 : Bool) (l1_0 : List S75) (Al1_0 : Option Addr) (cl1_0 : Nat) (a1_1 : Int) (l2 : List S64) (Al2 : Option Addr) (cl2 : Nat) (a3 : Int) (r0 : List S64) (r1 : Int) (r2 : Bool) (r3 : List S49) (r4 : Int) (r5 : Bool) (H : spec_l22Early.f k l0_0 a0_1 a0_2 l1_0 a1_1 l2 a3 = some (r0, r1, r2, r3, r4, r5)) : Fn Try.prog 72 [.agg #[.slice Al0_0 l0_0.length cl0_0, .int .i64 a0_1, .bool a0_2], .agg #[.slice Al1_0 l1_0.length cl1_0, .int .i64 a1_1], .slice Al2 l2.length cl2, .int .i64 a3] [] [.sl 1 k75 Al1_0 cl1_0 l1_0 1 true, .sl 1 k64 Al2 cl2 l2 2 true] (fun v bx en => ∃ A0 c0 A3 c3, v = .tuple #[.agg #[.slice A0 r0.length c0, .int .i64 r1, .bool r2], .slice A3 r3.length c3, .int .i64 r4, .bool r5] ∧ bx = [] ∧ en = [.sl 1 k64 A0 c0 r0 1 true, .sl 2 k49 A3 c3 r3 2 true]) := by
 refine fn_ 66 Try.func72 rfl rfl rfl (fun base T w0 => ?_)
 rw [spec_l22Early.f] at H
 refine gs (rg (so rfl (op_box (cs := [.slice Al0_0 l0_0.length cl0_0, .int .i64 a0_1, .bool a0_2]) rfl rfl rfl fun b4 => (so rfl (op_box (cs := [.slice Al1_0 l1_0.length cl1_0, .int .i64 a1_1]) rfl rfl rfl fun b5 => (so rfl (op_alloc (cs := [.slice none 0 0, .int .i64 0, .bool false]) (by kernel_rfl) rfl fun b8 => (sv (EV.as rfl) rfl (sv (EV.as rfl) rfl (sv (EV.as rfl) rfl (re (gs (rg (sv (EV.as rfl) rfl (re ?_)))))))))))))))
 refine jo (fun S => ∃ (m : Nat) (x2_2 : List S64) (Ax2_2 : Option Addr) (cx2_2 : Nat) (x2_12 : Int) (x2_4_1 : Int) (x2_4_2 : Bool) (x2_5_0 : List S75) (Ax2_5_0 : Option Addr) (cx2_5_0 : Nat) (x2_5_1 : Int) (x2_8_0 : List S64) (Ax2_8_0 : Option Addr) (cx2_8_0 : Nat) (x2_8_1 : Int) (x2_8_2 : Bool), spec_l22Early.j0 m x2_2 x2_12 x2_4_1 x2_4_2 x2_5_0 x2_5_1 x2_8_0 x2_8_1 x2_8_2 = some (r0, r1, r2, r3, r4, r5) ∧ S = ⟨[(2, .slice Ax2_2 x2_2.length cx2_2), (4, .pointer (some ⟨b4, 0, none⟩)), (5, .pointer (some ⟨b5, 0, none⟩)), (8, .pointer (some ⟨b8, 0, none⟩)), (12, .int .i64 x2_12)], [⟨b4, 54, [.slice Al0_0 l0_0.length cl0_0, .int .i64 x2_4_1, .bool x2_4_2]⟩, ⟨b5, 64, [.slice Ax2_5_0 x2_5_0.length cx2_5_0, .int .i64 x2_5_1]⟩, ⟨b8, 54, [.slice Ax2_8_0 x2_8_0.length cx2_8_0, .int .i64 x2_8_1, .bool x2_8_2]⟩], [.sl 1 k64 Ax2_2 cx2_2 x2_2 1 true, .sl 1 k75 Ax2_5_0 cx2_5_0 x2_5_0 2 true, .sl 2 k64 Ax2_8_0 cx2_8_0 x2_8_0 3 true]⟩) (fun S hS => ?_) (fun jh0 => ?_)
 ·
  clear H
  obtain ⟨m1, x2_2, Ax2_2, cx2_2, x2_12, x2_4_1, x2_4_2, x2_5_0, Ax2_5_0, cx2_5_0, x2_5_1, x2_8_0, Ax2_8_0, cx2_8_0, x2_8_1, x2_8_2, H, rfl⟩ := hS
  rcases m1 with _ | m1
  · rw [spec_l22Early.j0] at H; cases H
  rw [spec_l22Early.j0] at H
  refine gs (rg (sv (EV.fa 0 rfl) rfl (sv (EV.ld 1 none rfl rfl rfl) rfl (sv (EV.mv rfl) rfl ?_))))
  revert H; refine ggI ?_; intro g2 H
  revert H; refine ggI ?_; intro g3 H
  refine cutp (l' := x2_5_0.take x2_12.toNat) 0 x2_12 1 rfl (Int.le_refl 0) g2 g3 rfl 1 dq (.inr rfl) rfl (sv (EV.ct 0 x2_12 1 rfl rfl rfl rfl (Int.le_refl 0) g2 g3 rfl rfl ctnh) rfl ?_)
  revert H; refine bdI ?_; rintro t4 A4 H
  refine so rfl (op_call (spec_DistinctKeys.ok m1 (x2_5_0.take x2_12.toNat) (cutA Ax2_5_0 cx2_5_0 (0 : Int).toNat 3) (cx2_5_0 - (0 : Int).toNat) _ A4) [⟨3, 0, 0, false⟩] 4 rfl rfl rfl rfl rfl ?_)
  rintro _ _ _ ⟨At4, ct4, rfl, rfl, rfl⟩
  refine sv (EV.ln rfl) rfl (sv (EV.as rfl) rfl (re (pr [2, 4, 5, 8, 12, 13] [0, 1, 2] [0, 1, 2] rfl rfl rfl rfl (gs (rg (sv (EV.fa 0 rfl) rfl (sv (EV.ld 1 none rfl rfl rfl) rfl (sv (EV.mv rfl) rfl (cutp (l' := x2_5_0.take x2_12.toNat) 0 x2_12 1 rfl (Int.le_refl 0) g2 g3 rfl 1 dq (.inr rfl) rfl (sv (EV.ct 0 x2_12 1 rfl rfl rfl rfl (Int.le_refl 0) g2 g3 rfl rfl ctnh) rfl ?_))))))))))
  revert H; refine bdI ?_; rintro t5 A5 H
  refine so rfl (op_call (spec_ReferenceGroups.ok m1 (x2_5_0.take x2_12.toNat) (cutA Ax2_5_0 cx2_5_0 (0 : Int).toNat 3) (cx2_5_0 - (0 : Int).toNat) _ A5) [⟨3, 0, 0, false⟩] 4 rfl rfl rfl rfl rfl ?_)
  rintro _ _ _ ⟨At5, ct5, rfl, rfl, rfl⟩
  refine sv (EV.as rfl) rfl (re (gs (rg (sv (EV.mv rfl) rfl (sv (EV.fa 0 rfl) rfl (so rfl (op_st (cs' := [.slice Ax2_2 x2_2.length cx2_2, .int .i64 x2_4_1, .bool x2_4_2]) 0 rfl rfl rfl rfl rfl rfl (re (pr [2, 4, 5, 8, 12, 13, 14] [0, 1, 2] [0, 1, 2, 4] rfl rfl rfl rfl ?_)))))))))
  refine jo (fun S => ∃ (m : Nat) (x3_13 : Int) (x3_14 : List S49) (Ax3_14 : Option Addr) (cx3_14 : Nat) (x3_4_0 : List S64) (Ax3_4_0 : Option Addr) (cx3_4_0 : Nat) (x3_4_1 : Int) (x3_4_2 : Bool) (x3_8_0 : List S64) (Ax3_8_0 : Option Addr) (cx3_8_0 : Nat) (x3_8_1 : Int) (x3_8_2 : Bool), m ≤ m1 ∧ spec_l22Early.j1 m x3_13 x3_14 x3_4_0 x3_4_1 x3_4_2 x3_8_0 x3_8_1 x3_8_2 = some (r0, r1, r2, r3, r4, r5) ∧ S = ⟨[(4, .pointer (some ⟨b4, 0, none⟩)), (8, .pointer (some ⟨b8, 0, none⟩)), (13, .int .i64 x3_13), (14, .slice Ax3_14 x3_14.length cx3_14)], [⟨b4, 54, [.slice Ax3_4_0 x3_4_0.length cx3_4_0, .int .i64 x3_4_1, .bool x3_4_2]⟩, ⟨b8, 54, [.slice Ax3_8_0 x3_8_0.length cx3_8_0, .int .i64 x3_8_1, .bool x3_8_2]⟩], [.sl 2 k49 Ax3_14 cx3_14 x3_14 1 true, .sl 1 k64 Ax3_4_0 cx3_4_0 x3_4_0 2 true, .sl 2 k64 Ax3_8_0 cx3_8_0 x3_8_0 3 true]⟩) (fun S hS => ?_) (fun jh1 => ?_)
  ·
   clear H
   obtain ⟨m6, x3_13, x3_14, Ax3_14, cx3_14, x3_4_0, Ax3_4_0, cx3_4_0, x3_4_1, x3_4_2, x3_8_0, Ax3_8_0, cx3_8_0, x3_8_1, x3_8_2, lm6, H, rfl⟩ := hS
   rcases m6 with _ | m6
   · rw [spec_l22Early.j1] at H; cases H
   rw [spec_l22Early.j1] at H
   refine gs (rg (sv (EV.ld (v := .agg #[.slice Ax3_4_0 x3_4_0.length cx3_4_0, .int .i64 x3_4_1, .bool x3_4_2]) 0 (some 3) rfl rfl rfl) rfl (sv (EV.mv rfl) rfl (sv (EV.mv rfl) rfl (sv (EV.mul rfl rfl) rfl (so rfl (op_st (cs' := [.slice Ax3_4_0 x3_4_0.length cx3_4_0, .int .i64 x3_4_1, .bool x3_4_2]) 1 rfl rfl rfl rfl rfl rfl (sv (EV.as rfl) rfl (sv (EV.as rfl) rfl (sv (EV.as rfl) rfl (re (pr [8, 9, 10, 11] [1] [0, 1] rfl rfl rfl rfl ?_))))))))))))
   cases H
   exact rt Try.func72 rfl (.cell 0 (some 3) rfl rfl rfl (.tmp rfl (.tmp rfl (.tmp rfl .nil)))) rfl [] [⟨1, 1, 1, true⟩, ⟨0, 2, 2, true⟩] rfl rfl rfl rfl rfl ⟨_, _, _, _, rfl, rfl, rfl⟩
  ·
   refine gs (rg (sv (EV.mv rfl) rfl (sv (EV.fa 0 rfl) rfl (sv (EV.ld 1 none rfl rfl rfl) rfl (sv (EV.ln rfl) rfl (sv (EV.lss rfl rfl) rfl (re ?_)))))))
   revert H; refine ifsI ?_ ?_ <;> intro c7 H
   ·
    refine gt rfl (dT c7) (dr [0, 1, 2] [2, 3] [10, 11] 12 rfl rfl rfl rfl (xv 0 [0, 1, 2] [2, 3] rfl (EV.fa 0 rfl) rfl rfl rfl rfl (xv 1 [0, 1, 2] [2, 3] rfl (EV.ld 1 none rfl rfl rfl) rfl rfl rfl rfl (xv 2 [0, 1, 2] [2, 3] rfl (EV.mv rfl) rfl rfl rfl rfl (xv 4 [0, 1, 2] [2, 3] rfl (EV.fa 1 rfl) rfl rfl rfl rfl (xv 5 [0, 1, 2] [2, 3] rfl (EV.ld 1 none rfl rfl rfl) rfl rfl rfl rfl (xv 8 [0, 1, 2] [2, 3] rfl (EV.mv rfl) rfl rfl rfl rfl (one1 3 rfl rfl (cutp (l' := x2_5_0.drop x2_12.toNat) x2_12 (x2_5_0.length : Int) 1 rfl g2 g3 (Int.le_refl _) rfl 1 dq (.inl dq) ctl (ov (EV.ct x2_12 (x2_5_0.length : Int) 1 rfl rfl rfl rfl g2 g3 (Int.le_refl _) rfl rfl ctnl) rfl (xs [0, 1, 2] [2, 3] rfl rfl rfl (xv 6 [0, 1, 2] [2, 3] rfl (EV.bd (v := .agg #[.slice (cutA Ax2_5_0 cx2_5_0 x2_12.toNat 3) (x2_5_0.drop x2_12.toNat).length (cx2_5_0 - x2_12.toNat), .int .i64 x2_5_1]) rfl (by kernel_rfl)) rfl rfl rfl rfl (one1 7 rfl rfl (op_lit (s := 2) (by_ := 32) k64 ([(⟨x2_5_0.drop x2_12.toNat, x2_5_1⟩ : S64)] : List S64) [[((cutA Ax2_5_0 cx2_5_0 x2_12.toNat 3), (cx2_5_0 - x2_12.toNat))]] [4] 6 [.tmp 57] rfl rfl rfl rfl rfl rfl rfl rfl rfl rfl rfl rfl rfl dq rfl fun A58_8 c58_8 => (nmE (en := [.sl 1 k64 Ax2_2 cx2_2 x2_2 1 true, .sl 1 k75 Ax2_5_0 cx2_5_0 x2_5_0 6 true, .sl 2 k64 Ax2_8_0 cx2_8_0 x2_8_0 3 true, .sl 2 k49 At5 ct5 t5 5 true, .sl 1 k75 (cutA Ax2_5_0 cx2_5_0 x2_12.toNat 3) (cx2_5_0 - x2_12.toNat) (x2_5_0.drop x2_12.toNat) 6 true, .sl 2 k64 A58_8 c58_8 ([(⟨x2_5_0.drop x2_12.toNat, x2_5_1⟩ : S64)] : List S64) 6 true]) (by kernel_rfl) (xs [0, 1, 2] [2, 3] rfl rfl rfl (one1 9 rfl rfl ?_)))))))))))))))))
    revert H; refine ggI ?_; intro g9 H
    exact op_app (k := k64) (s := 2) (by_ := 32) 5 0 rfl rfl rfl rfl (ap2 g9 dq) (ap2n g9 dq) (.inr ⟨dq, dq, rfl, dq⟩) true (fun _ => .inr ⟨rfl, rfl, dq⟩) rfl rfl fun A60_10 c60_10 => (nmE (en := [.sl 1 k64 Ax2_2 cx2_2 x2_2 6 true, .sl 2 k64 Ax2_8_0 cx2_8_0 x2_8_0 3 true, .sl 2 k49 At5 ct5 t5 5 true, .sl 2 k64 A60_10 c60_10 (([(⟨x2_5_0.drop x2_12.toNat, x2_5_1⟩ : S64)] : List S64) ++ x2_2) 6 true]) (by kernel_rfl) (xs [0, 1, 2] [1, 2] rfl rfl rfl (one1 10 rfl rfl (ov (EV.fa 0 rfl) rfl (xn rfl (one1 11 rfl rfl (op_st (cs' := [.slice A60_10 (([(⟨x2_5_0.drop x2_12.toNat, x2_5_1⟩ : S64)] : List S64) ++ x2_2).length c60_10, .int .i64 x2_4_1, .bool x2_4_2]) 0 rfl rfl rfl rfl rfl rfl (xn rfl (xd (pr [4, 8, 13, 14] [0, 2] [1, 2, 3] rfl rfl rfl rfl (wk [4, 8, 13, 14] [0, 1] [⟨1, 2, 1, true⟩, ⟨2, 1, 2, true⟩, ⟨0, 2, 3, true⟩] (jh1 _ ⟨_, (t4.length : Int), t5, At5, ct5, ([(⟨x2_5_0.drop x2_12.toNat, x2_5_1⟩ : S64)] : List S64) ++ x2_2, A60_10, c60_10, x2_4_1, x2_4_2, x2_8_0, Ax2_8_0, cx2_8_0, x2_8_1, x2_8_2, by omega, H, rfl⟩))))))))))))
   ·
    exact gf rfl (dF c7) (gk (wk [4, 8, 13, 14] [0, 2] [⟨3, 2, 1, true⟩, ⟨0, 1, 2, true⟩, ⟨2, 2, 3, true⟩] (jh1 _ ⟨_, (t4.length : Int), t5, At5, ct5, x2_2, Ax2_2, cx2_2, x2_4_1, x2_4_2, x2_8_0, Ax2_8_0, cx2_8_0, x2_8_1, x2_8_2, by omega, H, rfl⟩)))
 ·
  refine gb (nil_ k64 3 dq ?_)
  refine lo (fun kk S => ∃ (x4_2 : List S64) (Ax4_2 : Option Addr) (cx4_2 : Nat) (x4_3 : Int) (x4_12 : Int) (x4_4_1 : Int) (x4_4_2 : Bool) (x4_5_0 : List S75) (Ax4_5_0 : Option Addr) (cx4_5_0 : Nat) (x4_5_1 : Int) (x4_8_0 : List S64) (Ax4_8_0 : Option Addr) (cx4_8_0 : Nat) (x4_8_1 : Int) (x4_8_2 : Bool), spec_l22Early.l0 kk x4_2 x4_3 x4_12 x4_4_1 x4_4_2 x4_5_0 x4_5_1 x4_8_0 x4_8_1 x4_8_2 = some (r0, r1, r2, r3, r4, r5) ∧ S = ⟨[(2, .slice Ax4_2 x4_2.length cx4_2), (3, .int .i64 x4_3), (4, .pointer (some ⟨b4, 0, none⟩)), (5, .pointer (some ⟨b5, 0, none⟩)), (8, .pointer (some ⟨b8, 0, none⟩)), (12, .int .i64 x4_12)], [⟨b4, 54, [.slice Al0_0 l0_0.length cl0_0, .int .i64 x4_4_1, .bool x4_4_2]⟩, ⟨b5, 64, [.slice Ax4_5_0 x4_5_0.length cx4_5_0, .int .i64 x4_5_1]⟩, ⟨b8, 54, [.slice Ax4_8_0 x4_8_0.length cx4_8_0, .int .i64 x4_8_1, .bool x4_8_2]⟩], [.sl 1 k64 Ax4_2 cx4_2 x4_2 1 true, .sl 1 k75 Ax4_5_0 cx4_5_0 x4_5_0 2 true, .sl 2 k64 Ax4_8_0 cx4_8_0 x4_8_0 3 true]⟩) (fun S hS => ?_) (fun n0 ih0 S hS => ?_) ⟨l2, Al2, cl2, a3, 0, a0_1, a0_2, l1_0, Al1_0, cl1_0, a1_1, [], none, 0, 0, false, H, rfl⟩ (fun h => wk [2, 3, 4, 5, 8, 12] [0, 1, 2] [⟨1, 1, 1, true⟩, ⟨0, 1, 2, true⟩, ⟨2, 2, 3, true⟩] h)
  · clear H; obtain ⟨_, _, _, _, _, _, _, _, _, _, _, _, _, _, _, _, H, _⟩ := hS; rw [spec_l22Early.l0] at H; cases H
  clear H
  obtain ⟨x4_2, Ax4_2, cx4_2, x4_3, x4_12, x4_4_1, x4_4_2, x4_5_0, Ax4_5_0, cx4_5_0, x4_5_1, x4_8_0, Ax4_8_0, cx4_8_0, x4_8_1, x4_8_2, H, rfl⟩ := hS
  rw [spec_l22Early.l0] at H
  refine gs (gs (rg (sv (EV.mv rfl) rfl (sv (EV.fa 0 rfl) rfl (sv (EV.ld 1 none rfl rfl rfl) rfl (sv (EV.ln rfl) rfl (sv (EV.lss rfl rfl) rfl (sv (EV.mv rfl) rfl ?_))))))))
  revert H; refine ifsI ?_ ?_ <;> intro c11 H
  ·
   refine ts 20 rfl (dT c11) (sv (EV.fa 0 rfl) rfl (sv (EV.ld 1 none rfl rfl rfl) rfl (sv (EV.mv rfl) rfl (sv (EV.add rfl rfl) rfl ?_))))
   revert H; refine ggI ?_; intro g12 H
   revert H; refine ggI ?_; intro g13 H
   refine cutp (l' := x4_5_0.take (wrap64 (x4_12 + 1)).toNat) 0 (wrap64 (x4_12 + 1)) 1 rfl (Int.le_refl 0) g12 g13 rfl 1 dq (.inr rfl) rfl (sv (EV.ct 0 (wrap64 (x4_12 + 1)) 1 rfl rfl rfl rfl (Int.le_refl 0) g12 g13 rfl rfl ctnh) rfl ?_)
   revert H; refine bdI ?_; rintro t14 A14 H
   refine so rfl (op_call (spec_DistinctKeys.ok n0 (x4_5_0.take (wrap64 (x4_12 + 1)).toNat) (cutA Ax4_5_0 cx4_5_0 (0 : Int).toNat 3) (cx4_5_0 - (0 : Int).toNat) _ A14) [⟨3, 0, 0, false⟩] 4 rfl rfl rfl rfl rfl ?_)
   rintro _ _ _ ⟨At14, ct14, rfl, rfl, rfl⟩
   refine sv (EV.ln rfl) rfl (sv (EV.mv rfl) rfl (sv (EV.leq rfl rfl) rfl (sv (EV.pt rfl rfl rfl) rfl (re (pr [2, 3, 4, 5, 8, 12, 21, 22, 23, 24, 25, 26, 27, 28, 29, 30] [0, 1, 2] [0, 1, 2, 3, 4] rfl rfl rfl rfl ?_)))))
   revert H; refine ifsI ?_ ?_ <;> intro c15 H
   ·
    exact gt rfl (dT c15) (gk (gb (rg (sv (EV.mv rfl) rfl (sv (EV.add rfl rfl) rfl (sv (EV.as rfl) rfl (re (ge (wk [2, 3, 4, 5, 8, 12] [0, 1, 2] [⟨0, 1, 1, true⟩, ⟨1, 1, 2, true⟩, ⟨2, 2, 3, true⟩] (ih0 _ (by omega) _ ⟨x4_2, Ax4_2, cx4_2, x4_3, wrap64 (x4_12 + 1), x4_4_1, x4_4_2, x4_5_0, Ax4_5_0, cx4_5_0, x4_5_1, x4_8_0, Ax4_8_0, cx4_8_0, x4_8_1, x4_8_2, H, rfl⟩))))))))))
   ·
    exact gf rfl (dF c15) (gx rfl (wk [2, 4, 5, 8, 12] [0, 1, 2] [⟨0, 1, 1, true⟩, ⟨1, 1, 2, true⟩, ⟨2, 2, 3, true⟩] (jh0 _ ⟨_, x4_2, Ax4_2, cx4_2, x4_12, x4_4_1, x4_4_2, x4_5_0, Ax4_5_0, cx4_5_0, x4_5_1, x4_8_0, Ax4_8_0, cx4_8_0, x4_8_1, x4_8_2, H, rfl⟩)))
  ·
   exact ts 20 rfl (dF c11) (sk rfl (sk rfl (sk rfl (sk rfl (sk rfl (sk rfl (sk rfl (sk rfl (sk rfl (sv (EV.pf rfl rfl rfl) rfl (re (pr [2, 3, 4, 5, 8, 12, 30] [0, 1, 2] [0, 1, 2] rfl rfl rfl rfl (gf rfl rfl (gx rfl (wk [2, 4, 5, 8, 12] [0, 1, 2] [⟨0, 1, 1, true⟩, ⟨1, 1, 2, true⟩, ⟨2, 2, 3, true⟩] (jh0 _ ⟨_, x4_2, Ax4_2, cx4_2, x4_12, x4_4_1, x4_4_2, x4_5_0, Ax4_5_0, cx4_5_0, x4_5_1, x4_8_0, Ax4_8_0, cx4_8_0, x4_8_1, x4_8_2, H, rfl⟩))))))))))))))))
def spec_HashBit.f (a0 : Int) (a1 : Int) : Option (Int) := (spec_l1In.f a1 0 3).bind fun t1 => (if t1 = true then ((spec_l1In.f a0 0 9).bind fun t3 => (if t3 = true then (if 0 ≤ a1 then (some (andI (shrI (Int.tmod (wrap64 (a0 * 7)) 16) a1) 1)) else none) else (some 0))) else (some 0))
set_option maxHeartbeats 4000000 in
set_option maxRecDepth 100000 in
theorem spec_HashBit.ok (a0 : Int) (a1 : Int) (r0 : Int) (H : spec_HashBit.f a0 a1 = some r0) : Fn Try.prog 91 [.int .i64 a0, .int .i64 a1] [] [] (fun v bx en => v = .int .i64 r0 ∧ bx = [] ∧ en = []) := by
 refine fn_ 19 Try.func91 rfl rfl rfl (fun base T w0 => ?_)
 rw [spec_HashBit.f] at H
 refine gs (rg (sv (EV.as rfl) rfl (re (gs (gs (rg (sv (EV.mv rfl) rfl ?_)))))))
 revert H; refine bdI ?_; rintro t1 A1 H
 refine so rfl (op_call (spec_l1In.ok a1 0 3 _ A1) [] 1 rfl rfl rfl rfl rfl ?_)
 rintro _ _ _ ⟨rfl, rfl, rfl⟩
 refine sv (EV.nt rfl) rfl (sv (EV.mv rfl) rfl ?_)
 revert H; refine ifsI ?_ ?_ <;> intro c2 H
 ·
  subst c2
  refine ts 8 rfl rfl (sv (EV.mv rfl) rfl ?_)
  revert H; refine bdI ?_; rintro t3 A3 H
  refine so rfl (op_call (spec_l1In.ok a0 0 9 _ A3) [] 1 rfl rfl rfl rfl rfl ?_)
  rintro _ _ _ ⟨rfl, rfl, rfl⟩
  refine sv (EV.nt rfl) rfl (sv (EV.pf rfl rfl rfl) rfl (re (pr [0, 1, 12] [] [] rfl rfl rfl rfl ?_)))
  revert H; refine ifsI ?_ ?_ <;> intro c4 H
  ·
   subst c4
   refine gf rfl rfl (gk (gs (rg (sv (EV.mv rfl) rfl (sv (EV.mul rfl rfl) rfl (sv (EV.rem rfl rfl dq) rfl (sv (EV.mv rfl) rfl ?_)))))))
   revert H; refine ggI ?_; intro g5 H
   refine sv (EV.shr rfl rfl g5) rfl (sv (EV.andI rfl rfl) rfl (sv (EV.as rfl) rfl (re (pr [4] [] [] rfl rfl rfl rfl ?_))))
   cases H
   exact rt Try.func91 rfl (.tmp rfl .nil) rfl [] [] rfl rfl rfl rfl rfl ⟨rfl, rfl, rfl⟩
  ·
   obtain rfl := bF c4
   refine gt rfl rfl (gs (rg (sv (EV.as rfl) rfl (re ?_))))
   cases H
   exact rt Try.func91 rfl (.tmp rfl .nil) rfl [] [] rfl rfl rfl rfl rfl ⟨rfl, rfl, rfl⟩
 ·
  obtain rfl := bF c2
  refine ts 8 rfl rfl (sk rfl (sk rfl (sk rfl (sv (EV.pt rfl rfl rfl) rfl (re (pr [0, 1, 12] [] [] rfl rfl rfl rfl (gt rfl rfl (gs (rg (sv (EV.as rfl) rfl (re ?_)))))))))))
  cases H
  exact rt Try.func91 rfl (.tmp rfl .nil) rfl [] [] rfl rfl rfl rfl rfl ⟨rfl, rfl, rfl⟩
def spec_SplitByHashBit.l0 : Nat → Int → (List S75) → (List S75) → Int → (List S75) → Option ((List S75) × (List S75))
 | 0, _, _, _, _, _ => none
 | k + 1, x2_1, x2_6, x2_7, x2_8, l0 => if x2_8 < (l0.length : Int) then (if 0 ≤ x2_8 then ((spec_HashBit.f ((rd_T75 l0 x2_8).f0) x2_1).bind fun t5 => (if t5 = 0 then (if x2_6.length < 5864062014805 then (spec_SplitByHashBit.l0 k x2_1 (x2_6 ++ ([(⟨(rd_T75 l0 x2_8).f0, (rd_T75 l0 x2_8).f1, (rd_T75 l0 x2_8).f2⟩ : S75)] : List S75)) x2_7 (wrap64 (x2_8 + 1)) l0) else none) else (if x2_7.length < 5864062014805 then (spec_SplitByHashBit.l0 k x2_1 x2_6 (x2_7 ++ ([(⟨(rd_T75 l0 x2_8).f0, (rd_T75 l0 x2_8).f1, (rd_T75 l0 x2_8).f2⟩ : S75)] : List S75)) (wrap64 (x2_8 + 1)) l0) else none))) else none) else (some (x2_6, x2_7))
def spec_SplitByHashBit.f (k : Nat) (l0 : List S75) (a1 : Int) : Option ((List S75) × (List S75)) := spec_SplitByHashBit.l0 k a1 [] [] 0 l0
set_option maxHeartbeats 4000000 in
set_option maxRecDepth 100000 in
theorem spec_SplitByHashBit.ok (k : Nat) (l0 : List S75) (Al0 : Option Addr) (cl0 : Nat) (a1 : Int) (r0 : List S75) (r1 : List S75) (H : spec_SplitByHashBit.f k l0 a1 = some (r0, r1)) : Fn Try.prog 73 [.slice Al0 l0.length cl0, .int .i64 a1] [] [.sl 0 k75 Al0 cl0 l0 0 false] (fun v bx en => ∃ A0 c0 A1 c1, v = .tuple #[.slice A0 r0.length c0, .slice A1 r1.length c1] ∧ bx = [] ∧ en = [.sl 2 k75 A0 c0 r0 1 true, .sl 2 k75 A1 c1 r1 2 true]) := by
 refine fn_ 41 Try.func73 rfl rfl rfl (fun base T w0 => ?_)
 rw [spec_SplitByHashBit.f] at H
 refine gs (rg (sv (EV.as rfl) rfl (sv (EV.as rfl) rfl (re (gs (rg (so rfl (op_lit (s := 3) (by_ := 24) k75 ([] : List S75) [] [] 1 [] rfl rfl rfl rfl rfl rfl rfl rfl rfl rfl rfl rfl rfl dq rfl fun A9_1 c9_1 => (sv (EV.as rfl) rfl (re (gs (rg (so rfl (op_lit (s := 3) (by_ := 24) k75 ([] : List S75) [] [] 2 [] rfl rfl rfl rfl rfl rfl rfl rfl rfl rfl rfl rfl rfl dq rfl fun A10_2 c10_2 => (sv (EV.as rfl) rfl (re (gs (gs (rg (sv (EV.as rfl) rfl (re (gb ?_))))))))))))))))))))))
 refine lo (fun kk S => ∃ (x2_1 : Int) (x2_6 : List S75) (Ax2_6 : Option Addr) (cx2_6 : Nat) (x2_7 : List S75) (Ax2_7 : Option Addr) (cx2_7 : Nat) (x2_8 : Int), spec_SplitByHashBit.l0 kk x2_1 x2_6 x2_7 x2_8 l0 = some (r0, r1) ∧ S = ⟨[(0, .slice Al0 l0.length cl0), (1, .int .i64 x2_1), (6, .slice Ax2_6 x2_6.length cx2_6), (7, .slice Ax2_7 x2_7.length cx2_7), (8, .int .i64 x2_8)], [], [.sl 2 k75 Ax2_6 cx2_6 x2_6 1 true, .sl 2 k75 Ax2_7 cx2_7 x2_7 2 true, .sl 0 k75 Al0 cl0 l0 0 false]⟩) (fun S hS => ?_) (fun n0 ih0 S hS => ?_) ⟨a1, [], A9_1, c9_1, [], A10_2, c10_2, 0, H, rfl⟩ (fun h => wk [0, 1, 6, 7, 8] [] [⟨1, 2, 1, true⟩, ⟨2, 2, 2, true⟩, ⟨0, 0, 0, false⟩] h)
 · clear H; obtain ⟨_, _, _, _, _, _, _, _, H, _⟩ := hS; rw [spec_SplitByHashBit.l0] at H; cases H
 clear H
 obtain ⟨x2_1, x2_6, Ax2_6, cx2_6, x2_7, Ax2_7, cx2_7, x2_8, H, rfl⟩ := hS
 rw [spec_SplitByHashBit.l0] at H
 refine gs (gs (rg (sv (EV.mv rfl) rfl (sv (EV.mv rfl) rfl (sv (EV.ln rfl) rfl (sv (EV.lss rfl rfl) rfl (re ?_)))))))
 revert H; refine ifsI ?_ ?_ <;> intro c3 H
 ·
  refine gt rfl (dT c3) (gk (gs (gb (gs (rg (sv (EV.mv rfl) rfl (sv (EV.mv rfl) rfl ?_)))))))
  revert H; refine ggI ?_; intro g4 H
  refine sv (EV.ix 2 rfl rfl rfl g4 c3 rfl) rfl (sv (EV.fa 0 rfl) rfl (sv (EV.le (v := .int .i64 ((rd_T75 l0 x2_8).f0)) x2_8 0 none 2 z75 rfl rfl rfl g4 c3 rfl rfl rfl) rfl (sv (EV.mv rfl) rfl ?_)))
  revert H; refine bdI ?_; rintro t5 A5 H
  refine so rfl (op_call (spec_HashBit.ok ((rd_T75 l0 x2_8).f0) x2_1 _ A5) [] 3 rfl rfl rfl rfl rfl ?_)
  rintro _ _ _ ⟨rfl, rfl, rfl⟩
  refine sv (EV.eql rfl rfl) rfl (re (pr [0, 1, 6, 7, 8, 24] [] [0, 1, 2] rfl rfl rfl rfl ?_))
  revert H; refine ifsI ?_ ?_ <;> intro c6 H
  ·
   refine gt rfl (dT c6) (rg (sv (EV.mv rfl) rfl (sv (EV.mv rfl) rfl (sv (EV.mv rfl) rfl (sv (EV.ix 2 rfl rfl rfl g4 c3 rfl) rfl (sv (EV.le (v := .agg #[.int .i64 ((rd_T75 l0 x2_8).f0), .int .i64 ((rd_T75 l0 x2_8).f1), .int .i64 ((rd_T75 l0 x2_8).f2)]) x2_8 0 (some 3) 2 z75 rfl rfl rfl g4 c3 rfl rfl rfl) rfl (so rfl (op_lit (s := 3) (by_ := 24) k75 ([(⟨(rd_T75 l0 x2_8).f0, (rd_T75 l0 x2_8).f1, (rd_T75 l0 x2_8).f2⟩ : S75)] : List S75) [[]] [] 3 [.tmp 29] rfl rfl rfl rfl rfl rfl rfl rfl rfl rfl rfl rfl rfl dq rfl fun A30_7 c30_7 => ?_))))))))
   revert H; refine ggI ?_; intro g8 H
   exact so rfl (op_app (k := k75) (s := 3) (by_ := 24) 0 3 rfl rfl rfl rfl (ap1 g8 dq) (ap1n g8 dq) (.inl rfl) true (fun _ => .inl rfl) rfl rfl fun A31_9 c31_9 => (nmE (en := [.sl 2 k75 Ax2_7 cx2_7 x2_7 2 true, .sl 0 k75 Al0 cl0 l0 0 false, .sl 2 k75 A30_7 c30_7 ([(⟨(rd_T75 l0 x2_8).f0, (rd_T75 l0 x2_8).f1, (rd_T75 l0 x2_8).f2⟩ : S75)] : List S75) 3 true, .sl 2 k75 A31_9 c31_9 (x2_6 ++ ([(⟨(rd_T75 l0 x2_8).f0, (rd_T75 l0 x2_8).f1, (rd_T75 l0 x2_8).f2⟩ : S75)] : List S75)) 1 true]) (by kernel_rfl) (sv (EV.as rfl) rfl (re (pr [0, 1, 6, 7, 8] [] [0, 1, 3] rfl rfl rfl rfl (ge (rg (sv (EV.mv rfl) rfl (sv (EV.add rfl rfl) rfl (sv (EV.as rfl) rfl (re (wk [0, 1, 6, 7, 8] [] [⟨2, 2, 1, true⟩, ⟨0, 2, 2, true⟩, ⟨1, 0, 0, false⟩] (ih0 _ (by omega) _ ⟨x2_1, x2_6 ++ ([(⟨(rd_T75 l0 x2_8).f0, (rd_T75 l0 x2_8).f1, (rd_T75 l0 x2_8).f2⟩ : S75)] : List S75), A31_9, c31_9, x2_7, Ax2_7, cx2_7, wrap64 (x2_8 + 1), H, rfl⟩)))))))))))))
  ·
   refine gf rfl (dF c6) (rg (sv (EV.mv rfl) rfl (sv (EV.mv rfl) rfl (sv (EV.mv rfl) rfl (sv (EV.ix 2 rfl rfl rfl g4 c3 rfl) rfl (sv (EV.le (v := .agg #[.int .i64 ((rd_T75 l0 x2_8).f0), .int .i64 ((rd_T75 l0 x2_8).f1), .int .i64 ((rd_T75 l0 x2_8).f2)]) x2_8 0 (some 3) 2 z75 rfl rfl rfl g4 c3 rfl rfl rfl) rfl (so rfl (op_lit (s := 3) (by_ := 24) k75 ([(⟨(rd_T75 l0 x2_8).f0, (rd_T75 l0 x2_8).f1, (rd_T75 l0 x2_8).f2⟩ : S75)] : List S75) [[]] [] 3 [.tmp 36] rfl rfl rfl rfl rfl rfl rfl rfl rfl rfl rfl rfl rfl dq rfl fun A37_10 c37_10 => ?_))))))))
   revert H; refine ggI ?_; intro g11 H
   exact so rfl (op_app (k := k75) (s := 3) (by_ := 24) 1 3 rfl rfl rfl rfl (ap1 g11 dq) (ap1n g11 dq) (.inl rfl) true (fun _ => .inl rfl) rfl rfl fun A38_12 c38_12 => (nmE (en := [.sl 2 k75 Ax2_6 cx2_6 x2_6 1 true, .sl 0 k75 Al0 cl0 l0 0 false, .sl 2 k75 A37_10 c37_10 ([(⟨(rd_T75 l0 x2_8).f0, (rd_T75 l0 x2_8).f1, (rd_T75 l0 x2_8).f2⟩ : S75)] : List S75) 3 true, .sl 2 k75 A38_12 c38_12 (x2_7 ++ ([(⟨(rd_T75 l0 x2_8).f0, (rd_T75 l0 x2_8).f1, (rd_T75 l0 x2_8).f2⟩ : S75)] : List S75)) 2 true]) (by kernel_rfl) (sv (EV.as rfl) rfl (re (pr [0, 1, 6, 7, 8] [] [0, 1, 3] rfl rfl rfl rfl (ge (rg (sv (EV.mv rfl) rfl (sv (EV.add rfl rfl) rfl (sv (EV.as rfl) rfl (re (wk [0, 1, 6, 7, 8] [] [⟨0, 2, 1, true⟩, ⟨2, 2, 2, true⟩, ⟨1, 0, 0, false⟩] (ih0 _ (by omega) _ ⟨x2_1, x2_6, Ax2_6, cx2_6, x2_7 ++ ([(⟨(rd_T75 l0 x2_8).f0, (rd_T75 l0 x2_8).f1, (rd_T75 l0 x2_8).f2⟩ : S75)] : List S75), A38_12, c38_12, wrap64 (x2_8 + 1), H, rfl⟩)))))))))))))
 ·
  refine gf rfl (dF c3) (gx rfl (gs (rg (sv (EV.mv rfl) rfl (sv (EV.mv rfl) rfl (sv (EV.as rfl) rfl (sv (EV.as rfl) rfl (re (pr [4, 5] [] [0, 1] rfl rfl rfl rfl ?_)))))))))
  cases H
  exact rt Try.func73 rfl (.tmp rfl (.tmp rfl .nil)) rfl [] [⟨0, 2, 1, true⟩, ⟨1, 2, 2, true⟩] rfl rfl rfl rfl rfl ⟨_, _, _, _, rfl, rfl, rfl⟩
mutual
def spec_StepAggregator.l1 : Nat → (List S64) → (List Int) → Int → (List S75) → (List S75) → Int → Bool → Int → Int → Bool → (List S64) → Int → Bool → (List S64) → Int → Bool → (List S75) → Int → (List S64) → Option ((List S64) × Int × Bool × (List S49) × Int × Bool)
 | 0, _, _, _, _, _, _, _, _, _, _, _, _, _, _, _, _, _, _, _ => none
 | k + 1, x21_10, x21_12, x21_13, x21_14, x21_15, x21_16, x21_17, x21_18, x21_2_1, x21_2_2, x21_4_0, x21_4_1, x21_4_2, x21_8_0, x21_8_1, x21_8_2, x21_9_0, x21_9_1, l0_0 => if x21_18 < x21_13 then (if x21_17 = true then (spec_StepAggregator.l1 k x21_10 x21_12 x21_13 x21_14 x21_15 x21_16 true (wrap64 (x21_18 + 1)) x21_2_1 x21_2_2 x21_4_0 x21_4_1 x21_4_2 x21_8_0 x21_8_1 x21_8_2 x21_9_0 x21_9_1 l0_0) else (if 0 ≤ x21_18 then (if x21_18 < (x21_12.length : Int) then (if 0 ≤ x21_16 then (if x21_16 < (x21_9_0.length : Int) then (spec_StepAggregator.l1 k x21_10 x21_12 x21_13 x21_14 x21_15 x21_16 (decide ((rdOf 0 x21_12 x21_18) = ((rd_T75 x21_9_0 x21_16).f0))) (wrap64 (x21_18 + 1)) x21_2_1 x21_2_2 x21_4_0 x21_4_1 x21_4_2 x21_8_0 x21_8_1 x21_8_2 x21_9_0 x21_9_1 l0_0) else none) else none) else none) else none)) else (if x21_17 = true then (if 0 ≤ x21_16 then (if x21_16 < (x21_9_0.length : Int) then (if x21_14.length < 5864062014805 then (spec_StepAggregator.l0 k x21_10 x21_12 x21_13 (x21_14 ++ ([(⟨(rd_T75 x21_9_0 x21_16).f0, (rd_T75 x21_9_0 x21_16).f1, (rd_T75 x21_9_0 x21_16).f2⟩ : S75)] : List S75)) x21_15 (wrap64 (x21_16 + 1)) x21_2_1 x21_2_2 x21_4_0 x21_4_1 x21_4_2 x21_8_0 x21_8_1 x21_8_2 x21_9_0 x21_9_1 l0_0) else none) else none) else none) else (if 0 ≤ x21_16 then (if x21_16 < (x21_9_0.length : Int) then (if x21_15.length < 5864062014805 then (spec_StepAggregator.l0 k x21_10 x21_12 x21_13 x21_14 (x21_15 ++ ([(⟨(rd_T75 x21_9_0 x21_16).f0, (rd_T75 x21_9_0 x21_16).f1, (rd_T75 x21_9_0 x21_16).f2⟩ : S75)] : List S75)) (wrap64 (x21_16 + 1)) x21_2_1 x21_2_2 x21_4_0 x21_4_1 x21_4_2 x21_8_0 x21_8_1 x21_8_2 x21_9_0 x21_9_1 l0_0) else none) else none) else none))
def spec_StepAggregator.j0 : Nat → Int → (List S75) → (List S64) → Int → Bool → (List S64) → Int → Bool → Option ((List S64) × Int × Bool × (List S49) × Int × Bool)
 | 0, _, _, _, _, _, _, _, _ => none
 | k + 1, x23_13, x23_14, x23_4_0, x23_4_1, x23_4_2, x23_8_0, x23_8_1, x23_8_2 => (spec_ReferenceGroups.f k x23_14).bind fun t35 => (some (x23_8_0, x23_8_1, x23_8_2, t35, wrap64 (x23_13 * 3), true))
def spec_StepAggregator.j1 : Nat → (List S64) → Int → (List S75) → (List S64) → (List S64) → Int → Bool → (List S64) → Int → Bool → Option ((List S64) × Int × Bool × (List S49) × Int × Bool)
 | 0, _, _, _, _, _, _, _, _, _, _ => none
 | k + 1, x24_10, x24_13, x24_14, x24_19, x24_4_0, x24_4_1, x24_4_2, x24_8_0, x24_8_1, x24_8_2 => if x24_19.length + x24_10.length ≤ 4398046511104 then (spec_StepAggregator.j0 k x24_13 x24_14 x24_4_0 x24_4_1 x24_4_2 (x24_19 ++ x24_10) x24_8_1 x24_8_2) else none
def spec_StepAggregator.l0 : Nat → (List S64) → (List Int) → Int → (List S75) → (List S75) → Int → Int → Bool → (List S64) → Int → Bool → (List S64) → Int → Bool → (List S75) → Int → (List S64) → Option ((List S64) × Int × Bool × (List S49) × Int × Bool)
 | 0, _, _, _, _, _, _, _, _, _, _, _, _, _, _, _, _, _ => none
 | k + 1, x10_10, x10_12, x10_13, x10_14, x10_15, x10_16, x10_2_1, x10_2_2, x10_4_0, x10_4_1, x10_4_2, x10_8_0, x10_8_1, x10_8_2, x10_9_0, x10_9_1, l0_0 => if x10_16 < (x10_9_0.length : Int) then (spec_StepAggregator.l1 k x10_10 x10_12 x10_13 x10_14 x10_15 x10_16 false 0 x10_2_1 x10_2_2 x10_4_0 x10_4_1 x10_4_2 x10_8_0 x10_8_1 x10_8_2 x10_9_0 x10_9_1 l0_0) else (if (x10_15.length : Int) > 0 then ((spec_TotalCost.f k x10_15).bind fun t37 => (if x10_9_1 < 4 then ((spec_SplitByHashBit.f k x10_15 x10_9_1).bind fun bt43 => (spec_StepAggregator.j1 k x10_10 x10_13 x10_14 ([(⟨bt43.1, wrap64 (x10_9_1 + 1)⟩ : S64), (⟨bt43.2, wrap64 (x10_9_1 + 1)⟩ : S64)] : List S64) x10_4_0 x10_4_1 x10_4_2 x10_10 (wrap64 (x10_2_1 + t37)) x10_8_2)) else (spec_StepAggregator.j1 k x10_10 x10_13 x10_14 ([(⟨x10_15, x10_9_1⟩ : S64)] : List S64) x10_4_0 x10_4_1 x10_4_2 x10_10 (wrap64 (x10_2_1 + t37)) x10_8_2))) else (spec_StepAggregator.j0 k x10_13 x10_14 x10_4_0 x10_4_1 x10_4_2 x10_10 x10_8_1 x10_8_2))
end
def spec_StepAggregator.f (k : Nat) (l0_0 : List S64) (a0_1 : Int) (a0_2 : Bool) (a1 : Int) : Option ((List S64) × Int × Bool × (List S49) × Int × Bool) := (spec_l22Copy.f k l0_0 a0_1 a0_2).bind fun bt1 => ((spec_IsValidAggregator.f k l0_0 a0_1 a0_2).bind fun t2 => (if t2 = true then (if (l0_0.length : Int) = 0 then (some (bt1.1, bt1.2.1, bt1.2.2, [], 0, false)) else ((spec_l1In.f a1 8 60).bind fun t6 => (if t6 = true then (if 0 < (bt1.1.length : Int) then (if 1 ≤ (bt1.1.length : Int) then (if a0_2 = true then ((spec_l22Early.f k bt1.1 bt1.2.1 bt1.2.2 ((rd_T64 bt1.1 0).f0) ((rd_T64 bt1.1 0).f1) (bt1.1.drop (1 : Int).toNat) (wrap64 (Int.tdiv a1 3))).bind fun bt12 => (some (bt12.1, bt12.2.1, bt12.2.2.1, bt12.2.2.2.1, bt12.2.2.2.2.1, bt12.2.2.2.2.2))) else ((spec_DistinctKeys.f k ((rd_T64 bt1.1 0).f0)).bind fun t13 => (spec_StepAggregator.l0 k (bt1.1.drop (1 : Int).toNat) t13 (mn (wrap64 (Int.tdiv a1 3)) (t13.length : Int)) [] [] 0 a0_1 false [] 0 false bt1.1 bt1.2.1 bt1.2.2 ((rd_T64 bt1.1 0).f0) ((rd_T64 bt1.1 0).f1) l0_0))) else none) else none) else (some (bt1.1, bt1.2.1, bt1.2.2, [], 0, false))))) else (some (bt1.1, bt1.2.1, bt1.2.2, [], 0, false))))
set_option maxHeartbeats 4000000 in
set_option maxRecDepth 100000 in
theorem spec_StepAggregator.ok (k : Nat) (l0_0 : List S64) (Al0_0 : Option Addr) (cl0_0 : Nat) (a0_1 : Int) (a0_2 : Bool) (a1 : Int) (r0 : List S64) (r1 : Int) (r2 : Bool) (r3 : List S49) (r4 : Int) (r5 : Bool) (H : spec_StepAggregator.f k l0_0 a0_1 a0_2 a1 = some (r0, r1, r2, r3, r4, r5)) : Fn Try.prog 35 [.agg #[.slice Al0_0 l0_0.length cl0_0, .int .i64 a0_1, .bool a0_2], .int .i64 a1] [] [.sl 0 k64 Al0_0 cl0_0 l0_0 0 false] (fun v bx en => ∃ A0 c0 A3 c3, v = .tuple #[.agg #[.slice A0 r0.length c0, .int .i64 r1, .bool r2], .slice A3 r3.length c3, .int .i64 r4, .bool r5] ∧ bx = [] ∧ en = [.sl 1 k64 A0 c0 r0 1 true, .sl 2 k49 A3 c3 r3 2 true]) := by
 refine fn_ 158 Try.func35 rfl rfl rfl (fun base T w0 => ?_)
 rw [spec_StepAggregator.f] at H
 refine gs (rg (so rfl (op_box (cs := [.slice Al0_0 l0_0.length cl0_0, .int .i64 a0_1, .bool a0_2]) rfl rfl rfl fun b2 => (so rfl (op_alloc (cs := [.slice none 0 0, .int .i64 0, .bool false]) (by kernel_rfl) rfl fun b4 => (sv (EV.as rfl) rfl (sv (EV.as rfl) rfl (sv (EV.as rfl) rfl (re (gs (rg (sv (EV.ld (v := .agg #[.slice Al0_0 l0_0.length cl0_0, .int .i64 a0_1, .bool a0_2]) 0 (some 3) rfl rfl rfl) rfl ?_))))))))))))
 revert H; refine bdI ?_; rintro ⟨t1_0, t1_1, t1_2⟩ A1 H
 refine so rfl (op_call (spec_l22Copy.ok k l0_0 Al0_0 cl0_0 a0_1 a0_2 _ _ _ A1) [⟨0, 0, 0, false⟩] 1 rfl rfl rfl rfl rfl ?_)
 rintro _ _ _ ⟨At1_0, ct1_0, rfl, rfl, rfl⟩
 refine so rfl (op_alloc (cs := [.slice none 0 0, .int .i64 0, .bool false]) (by kernel_rfl) rfl fun b8 => (so rfl (op_st (cs' := [.slice At1_0 t1_0.length ct1_0, .int .i64 t1_1, .bool t1_2]) 2 rfl rfl rfl rfl rfl rfl (re (pr [1, 2, 4, 8] [0, 1, 2] [0, 1] rfl rfl rfl rfl (gs (gs (rg (sv (EV.ld (v := .agg #[.slice Al0_0 l0_0.length cl0_0, .int .i64 a0_1, .bool a0_2]) 0 (some 3) rfl rfl rfl) rfl ?_)))))))))
 revert H; refine bdI ?_; rintro t2 A2 H
 refine so rfl (op_call (spec_IsValidAggregator.ok k l0_0 Al0_0 cl0_0 a0_1 a0_2 _ A2) [⟨0, 0, 0, false⟩] 3 rfl rfl rfl rfl rfl ?_)
 rintro _ _ _ ⟨rfl, rfl, rfl⟩
 refine sv (EV.nt rfl) rfl (sv (EV.mv rfl) rfl ?_)
 revert H; refine ifsI ?_ ?_ <;> intro c3 H
 ·
  subst c3
  refine ts 27 rfl rfl (sv (EV.fa 0 rfl) rfl (sv (EV.ld 0 none rfl rfl rfl) rfl (sv (EV.ln rfl) rfl (sv (EV.eql rfl rfl) rfl (sv (EV.pf rfl rfl rfl) rfl (sv (EV.mv rfl) rfl ?_))))))
  revert H; refine ifsI ?_ ?_ <;> intro c4 H
  ·
   refine ts 33 rfl (dT c4) (sk rfl (sk rfl (sk rfl (sv (EV.pt rfl rfl rfl) rfl (re (pr [1, 2, 4, 8, 37] [0, 1, 2] [0, 1] rfl rfl rfl rfl (gt rfl rfl (gs (rg (sv (EV.ld (v := .agg #[.slice At1_0 t1_0.length ct1_0, .int .i64 t1_1, .bool t1_2]) 2 (some 3) rfl rfl rfl) rfl (so rfl (op_lit (s := 5) (by_ := 40) k49 ([] : List S49) [] [] 3 [] rfl rfl rfl rfl rfl rfl rfl rfl rfl rfl rfl rfl rfl dq rfl fun A39_5 c39_5 => (so rfl (op_st (cs' := [.slice At1_0 t1_0.length ct1_0, .int .i64 t1_1, .bool t1_2]) 1 rfl rfl rfl rfl rfl rfl (sv (EV.as rfl) rfl (sv (EV.as rfl) rfl (sv (EV.as rfl) rfl (re (pr [4, 5, 6, 7] [1] [1, 2] rfl rfl rfl rfl ?_)))))))))))))))))))
   cases H
   exact rt Try.func35 rfl (.cell 0 (some 3) rfl rfl rfl (.tmp rfl (.tmp rfl (.tmp rfl .nil)))) rfl [] [⟨0, 1, 1, true⟩, ⟨1, 2, 2, true⟩] rfl rfl rfl rfl rfl ⟨_, _, _, _, rfl, rfl, rfl⟩
  ·
   refine ts 33 rfl (dF c4) (sv (EV.mv rfl) rfl ?_)
   revert H; refine bdI ?_; rintro t6 A6 H
   refine so rfl (op_call (spec_l1In.ok a1 8 60 _ A6) [] 3 rfl rfl rfl rfl rfl ?_)
   rintro _ _ _ ⟨rfl, rfl, rfl⟩
   refine sv (EV.nt rfl) rfl (sv (EV.pf rfl rfl rfl) rfl (re (pr [1, 2, 4, 8, 37] [0, 1, 2] [0, 1] rfl rfl rfl rfl ?_)))
   revert H; refine ifsI ?_ ?_ <;> intro c7 H
   ·
    subst c7
    refine gf rfl rfl (gk (gs (rg (sv (EV.fa 0 rfl) rfl (sv (EV.ld 2 none rfl rfl rfl) rfl ?_)))))
    revert H; refine ggI ?_; intro g8 H
    refine sv (EV.ix 1 rfl rfl rfl dq g8 rfl) rfl (opn (i := 0) 1 z64 rfl dq g8 fun A_9 c_9 => (sv (EV.lc (v := .agg #[.slice A_9 ((rd_T64 t1_0 0).f0).length c_9, .int .i64 ((rd_T64 t1_0 0).f1)]) 0 (some 2) 2 rfl rfl rfl rfl) rfl (so rfl (op_alloc (cs := [.slice none 0 0, .int .i64 0]) (by kernel_rfl) rfl fun b9 => (so rfl (op_st (cs' := [.slice A_9 ((rd_T64 t1_0 0).f0).length c_9, .int .i64 ((rd_T64 t1_0 0).f1)]) 3 rfl rfl rfl rfl rfl rfl (re (gs (rg (sv (EV.fa 0 rfl) rfl (sv (EV.ld 2 none rfl rfl rfl) rfl ?_)))))))))))
    revert H; refine ggI ?_; intro g10 H
    refine cutp (l' := t1_0.drop (1 : Int).toNat) 1 (t1_0.length : Int) 1 rfl dq g10 (Int.le_refl _) rfl 1 dq (.inl dq) ctl (sv (EV.ct 1 (t1_0.length : Int) 1 rfl rfl rfl rfl dq g10 (Int.le_refl _) rfl rfl ctnl) rfl (sv (EV.as rfl) rfl (re (pr [1, 2, 4, 8, 9, 10] [0, 1, 2, 3] [0, 1, 2, 3, 4] rfl rfl rfl rfl (gs (rg (sv (EV.mv rfl) rfl (sv (EV.quo rfl rfl dq) rfl (sv (EV.as rfl) rfl (re (gs (gs (rg (sv (EV.fa 2 rfl) rfl (sv (EV.ld 0 none rfl rfl rfl) rfl (re ?_))))))))))))))))
    revert H; refine ifsI ?_ ?_ <;> intro c11 H
    ·
     subst c11
     refine gt rfl rfl (gs (rg (sv (EV.ld (v := .agg #[.slice At1_0 t1_0.length ct1_0, .int .i64 t1_1, .bool t1_2]) 2 (some 3) rfl rfl rfl) rfl (sv (EV.ld (v := .agg #[.slice A_9 ((rd_T64 t1_0 0).f0).length c_9, .int .i64 ((rd_T64 t1_0 0).f1)]) 3 (some 2) rfl rfl rfl) rfl (sv (EV.mv rfl) rfl (sv (EV.mv rfl) rfl (opnH (i := 0) (s := 2) (cls' := 2) [(A_9, c_9)] 1 2 3 z64 rfl rfl (by kernel_rfl) dq g8 dq rfl rfl (nmE (en := [.sl 0 k64 Al0_0 cl0_0 l0_0 0 false, holE k64 2 At1_0 ct1_0 t1_0 (0 : Int).toNat [.slice A_9 ((rd_T64 t1_0 0).f0).length c_9, .int .i64 ((rd_T64 t1_0 0).f1)] 3, .sl 1 k75 A_9 c_9 ((rd_T64 t1_0 0).f0) 4 true]) (by kernel_rfl) (holR 1 rfl rfl (nmE (en := [.sl 0 k64 Al0_0 cl0_0 l0_0 0 false, .sl 1 k75 A_9 c_9 ((rd_T64 t1_0 0).f0) 4 true, .sl 1 k64 (cutA At1_0 ct1_0 (1 : Int).toNat 2) (ct1_0 - (1 : Int).toNat) (t1_0.drop (1 : Int).toNat) 3 true]) (by kernel_rfl) ?_))))))))))
     revert H; refine bdI ?_; rintro ⟨t12_0, t12_1, t12_2, t12_3, t12_4, t12_5⟩ A12 H
     refine so rfl (op_callM (spec_l22Early.ok k t1_0 At1_0 ct1_0 t1_1 t1_2 ((rd_T64 t1_0 0).f0) A_9 c_9 ((rd_T64 t1_0 0).f1) (t1_0.drop (1 : Int).toNat) (cutA At1_0 ct1_0 (1 : Int).toNat 2) (ct1_0 - (1 : Int).toNat) (wrap64 (Int.tdiv a1 3)) _ _ _ _ _ _ A12) [⟨1, 1, 1, true⟩, ⟨2, 1, 2, true⟩] [] [0, 1, 2, 3] 5 rfl rfl rfl rfl rfl rfl rfl rfl ?_)
     rintro _ _ _ ⟨At12_0, ct12_0, At12_3, ct12_3, rfl, rfl, rfl⟩
     refine nmE (en := [.sl 0 k64 Al0_0 cl0_0 l0_0 0 false, .sl 1 k64 At12_0 ct12_0 t12_0 6 true, .sl 2 k49 At12_3 ct12_3 t12_3 7 true]) (by kernel_rfl) (sv (EV.ex rfl rfl) rfl (sv (EV.ex rfl rfl) rfl (sv (EV.ex rfl rfl) rfl (sv (EV.ex rfl rfl) rfl (so rfl (op_st (cs' := [.slice At12_0 t12_0.length ct12_0, .int .i64 t12_1, .bool t12_2]) 1 rfl rfl rfl rfl rfl rfl (sv (EV.as rfl) rfl (sv (EV.as rfl) rfl (sv (EV.as rfl) rfl (re (pr [4, 5, 6, 7] [1] [1, 2] rfl rfl rfl rfl ?_)))))))))))
     cases H
     exact rt Try.func35 rfl (.cell 0 (some 3) rfl rfl rfl (.tmp rfl (.tmp rfl (.tmp rfl .nil)))) rfl [] [⟨0, 1, 1, true⟩, ⟨1, 2, 2, true⟩] rfl rfl rfl rfl rfl ⟨_, _, _, _, rfl, rfl, rfl⟩
    ·
     obtain rfl := bF c11
     refine gf rfl rfl (gk (gs (rg (sv (EV.fa 0 rfl) rfl (sv (EV.ld 3 none rfl rfl rfl) rfl ?_)))))
     revert H; refine bdI ?_; rintro t13 A13 H
     refine so rfl (op_call (spec_DistinctKeys.ok k ((rd_T64 t1_0 0).f0) A_9 c_9 _ A13) [⟨3, 0, 0, false⟩] 3 rfl rfl rfl rfl rfl ?_)
     rintro _ _ _ ⟨At13, ct13, rfl, rfl, rfl⟩
     refine sv (EV.as rfl) rfl (re (pr [2, 4, 8, 9, 10, 11, 12] [0, 1, 2, 3] [0, 1, 2, 3, 4, 5] rfl rfl rfl rfl (gs (rg (sv (EV.mv rfl) rfl (sv (EV.mv rfl) rfl (sv (EV.ln rfl) rfl (sv (EV.mn rfl rfl) rfl (sv (EV.as rfl) rfl (re (gs (rg (so rfl (op_lit (s := 3) (by_ := 24) k75 ([] : List S75) [] [] 5 [] rfl rfl rfl rfl rfl rfl rfl rfl rfl rfl rfl rfl rfl dq rfl fun A67_14 c67_14 => (sv (EV.as rfl) rfl (re (pr [2, 4, 8, 9, 10, 12, 13, 14] [0, 1, 2, 3] [0, 1, 2, 3, 4, 5, 6] rfl rfl rfl rfl (gs (rg (so rfl (op_lit (s := 3) (by_ := 24) k75 ([] : List S75) [] [] 6 [] rfl rfl rfl rfl rfl rfl rfl rfl rfl rfl rfl rfl rfl dq rfl fun A68_15 c68_15 => (sv (EV.as rfl) rfl (re (gs (gs (rg (sv (EV.as rfl) rfl (re (gb ?_)))))))))))))))))))))))))))))
     refine nil_ k64 7 dq ?_
     refine lo (fun kk S => ∃ (x10_10 : List S64) (Ax10_10 : Option Addr) (cx10_10 : Nat) (x10_12 : List Int) (Ax10_12 : Option Addr) (cx10_12 : Nat) (x10_13 : Int) (x10_14 : List S75) (Ax10_14 : Option Addr) (cx10_14 : Nat) (x10_15 : List S75) (Ax10_15 : Option Addr) (cx10_15 : Nat) (x10_16 : Int) (x10_2_1 : Int) (x10_2_2 : Bool) (x10_4_0 : List S64) (Ax10_4_0 : Option Addr) (cx10_4_0 : Nat) (x10_4_1 : Int) (x10_4_2 : Bool) (x10_8_0 : List S64) (Ax10_8_0 : Option Addr) (cx10_8_0 : Nat) (x10_8_1 : Int) (x10_8_2 : Bool) (x10_9_0 : List S75) (Ax10_9_0 : Option Addr) (cx10_9_0 : Nat) (x10_9_1 : Int), spec_StepAggregator.l0 kk x10_10 x10_12 x10_13 x10_14 x10_15 x10_16 x10_2_1 x10_2_2 x10_4_0 x10_4_1 x10_4_2 x10_8_0 x10_8_1 x10_8_2 x10_9_0 x10_9_1 l0_0 = some (r0, r1, r2, r3, r4, r5) ∧ S = ⟨[(2, .pointer (some ⟨b2, 0, none⟩)), (4, .pointer (some ⟨b4, 0, none⟩)), (8, .pointer (some ⟨b8, 0, none⟩)), (9, .pointer (some ⟨b9, 0, none⟩)), (10, .slice Ax10_10 x10_10.length cx10_10), (12, .slice Ax10_12 x10_12.length cx10_12), (13, .int .i64 x10_13), (14, .slice Ax10_14 x10_14.length cx10_14), (15, .slice Ax10_15 x10_15.length cx10_15), (16, .int .i64 x10_16)], [⟨b2, 54, [.slice Al0_0 l0_0.length cl0_0, .int .i64 x10_2_1, .bool x10_2_2]⟩, ⟨b4, 54, [.slice Ax10_4_0 x10_4_0.length cx10_4_0, .int .i64 x10_4_1, .bool x10_4_2]⟩, ⟨b8, 54, [.slice Ax10_8_0 x10_8_0.length cx10_8_0, .int .i64 x10_8_1, .bool x10_8_2]⟩, ⟨b9, 64, [.slice Ax10_9_0 x10_9_0.length cx10_9_0, .int .i64 x10_9_1]⟩], [.sl 1 k64 Ax10_10 cx10_10 x10_10 1 true, .sl 2 (.int .i64) Ax10_12 cx10_12 x10_12 2 true, .sl 2 k75 Ax10_14 cx10_14 x10_14 3 true, .sl 2 k75 Ax10_15 cx10_15 x10_15 4 true, .sl 2 k64 Ax10_4_0 cx10_4_0 x10_4_0 5 true, .sl 2 k64 Ax10_8_0 cx10_8_0 x10_8_0 1 true, .sl 1 k75 Ax10_9_0 cx10_9_0 x10_9_0 1 true, .sl 0 k64 Al0_0 cl0_0 l0_0 0 false]⟩) (fun S hS => ?_) (fun n0 ih0 S hS => ?_) ⟨t1_0.drop (1 : Int).toNat, (cutA At1_0 ct1_0 (1 : Int).toNat 2), (ct1_0 - (1 : Int).toNat), t13, At13, ct13, mn (wrap64 (Int.tdiv a1 3)) (t13.length : Int), [], A67_14, c67_14, [], A68_15, c68_15, 0, a0_1, false, [], none, 0, 0, false, t1_0, At1_0, ct1_0, t1_1, t1_2, (rd_T64 t1_0 0).f0, A_9, c_9, (rd_T64 t1_0 0).f1, H, rfl⟩ (fun h => wk [2, 4, 8, 9, 10, 12, 13, 14, 15, 16] [0, 1, 2, 3] [⟨4, 1, 1, true⟩, ⟨5, 2, 2, true⟩, ⟨6, 2, 3, true⟩, ⟨7, 2, 4, true⟩, ⟨8, 2, 5, true⟩, ⟨1, 2, 1, true⟩, ⟨3, 1, 1, true⟩, ⟨0, 0, 0, false⟩] h)
     · clear H; obtain ⟨_, _, _, _, _, _, _, _, _, _, _, _, _, _, _, _, _, _, _, _, _, _, _, _, _, _, _, _, _, _, H, _⟩ := hS; rw [spec_StepAggregator.l0] at H; cases H
     clear H
     obtain ⟨x10_10, Ax10_10, cx10_10, x10_12, Ax10_12, cx10_12, x10_13, x10_14, Ax10_14, cx10_14, x10_15, Ax10_15, cx10_15, x10_16, x10_2_1, x10_2_2, x10_4_0, Ax10_4_0, cx10_4_0, x10_4_1, x10_4_2, x10_8_0, Ax10_8_0, cx10_8_0, x10_8_1, x10_8_2, x10_9_0, Ax10_9_0, cx10_9_0, x10_9_1, H, rfl⟩ := hS
     rw [spec_StepAggregator.l0] at H
     refine gs (gs (rg (sv (EV.mv rfl) rfl (sv (EV.fa 0 rfl) rfl (sv (EV.ld 3 none rfl rfl rfl) rfl (sv (EV.ln rfl) rfl (sv (EV.lss rfl rfl) rfl (re ?_))))))))
     revert H; refine ifsI ?_ ?_ <;> intro c16 H
     ·
      refine gt rfl (dT c16) (gk (gs (gb (gs (rg (sv (EV.as rfl) rfl (re (gs (gs (rg (sv (EV.as rfl) rfl (re (gb ?_)))))))))))))
      refine lo (fun kk S => ∃ (x21_10 : List S64) (Ax21_10 : Option Addr) (cx21_10 : Nat) (x21_12 : List Int) (Ax21_12 : Option Addr) (cx21_12 : Nat) (x21_13 : Int) (x21_14 : List S75) (Ax21_14 : Option Addr) (cx21_14 : Nat) (x21_15 : List S75) (Ax21_15 : Option Addr) (cx21_15 : Nat) (x21_16 : Int) (x21_17 : Bool) (x21_18 : Int) (x21_2_1 : Int) (x21_2_2 : Bool) (x21_4_0 : List S64) (Ax21_4_0 : Option Addr) (cx21_4_0 : Nat) (x21_4_1 : Int) (x21_4_2 : Bool) (x21_8_0 : List S64) (Ax21_8_0 : Option Addr) (cx21_8_0 : Nat) (x21_8_1 : Int) (x21_8_2 : Bool) (x21_9_0 : List S75) (Ax21_9_0 : Option Addr) (cx21_9_0 : Nat) (x21_9_1 : Int), kk ≤ n0 ∧ spec_StepAggregator.l1 kk x21_10 x21_12 x21_13 x21_14 x21_15 x21_16 x21_17 x21_18 x21_2_1 x21_2_2 x21_4_0 x21_4_1 x21_4_2 x21_8_0 x21_8_1 x21_8_2 x21_9_0 x21_9_1 l0_0 = some (r0, r1, r2, r3, r4, r5) ∧ S = ⟨[(2, .pointer (some ⟨b2, 0, none⟩)), (4, .pointer (some ⟨b4, 0, none⟩)), (8, .pointer (some ⟨b8, 0, none⟩)), (9, .pointer (some ⟨b9, 0, none⟩)), (10, .slice Ax21_10 x21_10.length cx21_10), (12, .slice Ax21_12 x21_12.length cx21_12), (13, .int .i64 x21_13), (14, .slice Ax21_14 x21_14.length cx21_14), (15, .slice Ax21_15 x21_15.length cx21_15), (16, .int .i64 x21_16), (17, .bool x21_17), (18, .int .i64 x21_18)], [⟨b2, 54, [.slice Al0_0 l0_0.length cl0_0, .int .i64 x21_2_1, .bool x21_2_2]⟩, ⟨b4, 54, [.slice Ax21_4_0 x21_4_0.length cx21_4_0, .int .i64 x21_4_1, .bool x21_4_2]⟩, ⟨b8, 54, [.slice Ax21_8_0 x21_8_0.length cx21_8_0, .int .i64 x21_8_1, .bool x21_8_2]⟩, ⟨b9, 64, [.slice Ax21_9_0 x21_9_0.length cx21_9_0, .int .i64 x21_9_1]⟩], [.sl 1 k64 Ax21_10 cx21_10 x21_10 1 true, .sl 2 (.int .i64) Ax21_12 cx21_12 x21_12 2 true, .sl 2 k75 Ax21_14 cx21_14 x21_14 3 true, .sl 2 k75 Ax21_15 cx21_15 x21_15 4 true, .sl 2 k64 Ax21_4_0 cx21_4_0 x21_4_0 5 true, .sl 2 k64 Ax21_8_0 cx21_8_0 x21_8_0 1 true, .sl 1 k75 Ax21_9_0 cx21_9_0 x21_9_0 1 true, .sl 0 k64 Al0_0 cl0_0 l0_0 0 false]⟩) (fun S hS => ?_) (fun n1 ih1 S hS => ?_) ⟨x10_10, Ax10_10, cx10_10, x10_12, Ax10_12, cx10_12, x10_13, x10_14, Ax10_14, cx10_14, x10_15, Ax10_15, cx10_15, x10_16, false, 0, x10_2_1, x10_2_2, x10_4_0, Ax10_4_0, cx10_4_0, x10_4_1, x10_4_2, x10_8_0, Ax10_8_0, cx10_8_0, x10_8_1, x10_8_2, x10_9_0, Ax10_9_0, cx10_9_0, x10_9_1, by omega, H, rfl⟩ (fun h => wk [2, 4, 8, 9, 10, 12, 13, 14, 15, 16, 17, 18] [0, 1, 2, 3] [⟨0, 1, 1, true⟩, ⟨1, 2, 2, true⟩, ⟨2, 2, 3, true⟩, ⟨3, 2, 4, true⟩, ⟨4, 2, 5, true⟩, ⟨5, 2, 1, true⟩, ⟨6, 1, 1, true⟩, ⟨7, 0, 0, false⟩] h)
      · clear H; obtain ⟨_, _, _, _, _, _, _, _, _, _, _, _, _, _, _, _, _, _, _, _, _, _, _, _, _, _, _, _, _, _, _, _, _, H, _⟩ := hS; rw [spec_StepAggregator.l1] at H; cases H
      clear H
      obtain ⟨x21_10, Ax21_10, cx21_10, x21_12, Ax21_12, cx21_12, x21_13, x21_14, Ax21_14, cx21_14, x21_15, Ax21_15, cx21_15, x21_16, x21_17, x21_18, x21_2_1, x21_2_2, x21_4_0, Ax21_4_0, cx21_4_0, x21_4_1, x21_4_2, x21_8_0, Ax21_8_0, cx21_8_0, x21_8_1, x21_8_2, x21_9_0, Ax21_9_0, cx21_9_0, x21_9_1, lk1, H, rfl⟩ := hS
      rw [spec_StepAggregator.l1] at H
      refine gs (gs (rg (sv (EV.mv rfl) rfl (sv (EV.mv rfl) rfl (sv (EV.lss rfl rfl) rfl (re ?_))))))
      revert H; refine ifsI ?_ ?_ <;> intro c17 H
      ·
       refine gt rfl (dT c17) (gk (gs (gb (dr [0, 1, 2, 3] [0, 1, 2, 3, 4, 5, 6, 7] [] 15 rfl rfl rfl rfl (xv 0 [0, 1, 2, 3] [0, 1, 2, 3, 4, 5, 6, 7] rfl (EV.mv rfl) rfl rfl rfl rfl (xv 1 [0, 1, 2, 3] [0, 1, 2, 3, 4, 5, 6, 7] rfl (EV.mv rfl) rfl rfl rfl rfl ?_))))))
       revert H; refine ifsI ?_ ?_ <;> intro c18 H
       ·
        subst c18
        exact ts 82 rfl rfl (xk 2 [0, 1, 2, 3] [0, 1, 2, 3, 4, 5, 6, 7] rfl rfl rfl rfl rfl (xk 3 [0, 1, 2, 3] [0, 1, 2, 3, 4, 5, 6, 7] rfl rfl rfl rfl rfl (xk 4 [0, 1, 2, 3] [0, 1, 2, 3, 4, 5, 6, 7] rfl rfl rfl rfl rfl (xk 5 [0, 1, 2, 3] [0, 1, 2, 3, 4, 5, 6, 7] rfl rfl rfl rfl rfl (xk 6 [0, 1, 2, 3] [0, 1, 2, 3, 4, 5, 6, 7] rfl rfl rfl rfl rfl (xk 7 [0, 1, 2, 3] [0, 1, 2, 3, 4, 5, 6, 7] rfl rfl rfl rfl rfl (xk 8 [0, 1, 2, 3] [0, 1, 2, 3, 4, 5, 6, 7] rfl rfl rfl rfl rfl (xk 9 [0, 1, 2, 3] [0, 1, 2, 3, 4, 5, 6, 7] rfl rfl rfl rfl rfl (xk 10 [0, 1, 2, 3] [0, 1, 2, 3, 4, 5, 6, 7] rfl rfl rfl rfl rfl (xk 11 [0, 1, 2, 3] [0, 1, 2, 3, 4, 5, 6, 7] rfl rfl rfl rfl rfl (xk 12 [0, 1, 2, 3] [0, 1, 2, 3, 4, 5, 6, 7] rfl rfl rfl rfl rfl (xv 13 [0, 1, 2, 3] [0, 1, 2, 3, 4, 5, 6, 7] rfl (EV.pt rfl rfl rfl) rfl rfl rfl rfl (xv 14 [0, 1, 2, 3] [0, 1, 2, 3, 4, 5, 6, 7] rfl (EV.as rfl) rfl rfl rfl rfl (xd (pr [2, 4, 8, 9, 10, 12, 13, 14, 15, 16, 17, 18] [0, 1, 2, 3] [0, 1, 2, 3, 4, 5, 6, 7] rfl rfl rfl rfl (ge (rg (sv (EV.mv rfl) rfl (sv (EV.add rfl rfl) rfl (sv (EV.as rfl) rfl (re (wk [2, 4, 8, 9, 10, 12, 13, 14, 15, 16, 17, 18] [0, 1, 2, 3] [⟨0, 1, 1, true⟩, ⟨1, 2, 2, true⟩, ⟨2, 2, 3, true⟩, ⟨3, 2, 4, true⟩, ⟨4, 2, 5, true⟩, ⟨5, 2, 1, true⟩, ⟨6, 1, 1, true⟩, ⟨7, 0, 0, false⟩] (ih1 _ (by omega) _ ⟨x21_10, Ax21_10, cx21_10, x21_12, Ax21_12, cx21_12, x21_13, x21_14, Ax21_14, cx21_14, x21_15, Ax21_15, cx21_15, x21_16, true, wrap64 (x21_18 + 1), x21_2_1, x21_2_2, x21_4_0, Ax21_4_0, cx21_4_0, x21_4_1, x21_4_2, x21_8_0, Ax21_8_0, cx21_8_0, x21_8_1, x21_8_2, x21_9_0, Ax21_9_0, cx21_9_0, x21_9_1, by omega, H, rfl⟩)))))))))))))))))))))))
       ·
        obtain rfl := bF c18
        refine ts 82 rfl rfl (xv 2 [0, 1, 2, 3] [0, 1, 2, 3, 4, 5, 6, 7] rfl (EV.mv rfl) rfl rfl rfl rfl (xv 3 [0, 1, 2, 3] [0, 1, 2, 3, 4, 5, 6, 7] rfl (EV.mv rfl) rfl rfl rfl rfl ?_))
        revert H; refine ggI ?_; intro g19 H
        revert H; refine ggI ?_; intro g20 H
        refine xv 4 [0, 1, 2, 3] [0, 1, 2, 3, 4, 5, 6, 7] rfl (EV.ix 1 rfl rfl rfl g19 g20 rfl) rfl rfl rfl rfl (xv 5 [0, 1, 2, 3] [0, 1, 2, 3, 4, 5, 6, 7] rfl (EV.le (v := .int .i64 (rdOf 0 x21_12 x21_18)) x21_18 0 none 1 0 rfl rfl rfl g19 g20 rfl rfl rfl) rfl rfl rfl rfl (xv 6 [0, 1, 2, 3] [0, 1, 2, 3, 4, 5, 6, 7] rfl (EV.fa 0 rfl) rfl rfl rfl rfl (xv 7 [0, 1, 2, 3] [0, 1, 2, 3, 4, 5, 6, 7] rfl (EV.ld 3 none rfl rfl rfl) rfl rfl rfl rfl (xv 8 [0, 1, 2, 3] [0, 1, 2, 3, 4, 5, 6, 7] rfl (EV.mv rfl) rfl rfl rfl rfl ?_))))
        revert H; refine ggI ?_; intro g21 H
        revert H; refine ggI ?_; intro g22 H
        exact xv 9 [0, 1, 2, 3] [0, 1, 2, 3, 4, 5, 6, 7] rfl (EV.ix 6 rfl rfl rfl g21 g22 rfl) rfl rfl rfl rfl (xv 10 [0, 1, 2, 3] [0, 1, 2, 3, 4, 5, 6, 7] rfl (EV.fa 0 rfl) rfl rfl rfl rfl (xv 11 [0, 1, 2, 3] [0, 1, 2, 3, 4, 5, 6, 7] rfl (EV.le (v := .int .i64 ((rd_T75 x21_9_0 x21_16).f0)) x21_16 0 none 6 z75 rfl rfl rfl g21 g22 rfl rfl rfl) rfl rfl rfl rfl (xv 12 [0, 1, 2, 3] [0, 1, 2, 3, 4, 5, 6, 7] rfl (EV.eql rfl rfl) rfl rfl rfl rfl (xv 13 [0, 1, 2, 3] [0, 1, 2, 3, 4, 5, 6, 7] rfl (EV.pf rfl rfl rfl) rfl rfl rfl rfl (xv 14 [0, 1, 2, 3] [0, 1, 2, 3, 4, 5, 6, 7] rfl (EV.as rfl) rfl rfl rfl rfl (xd (pr [2, 4, 8, 9, 10, 12, 13, 14, 15, 16, 17, 18, 83, 84, 85, 86, 87, 88, 89, 90, 91, 92, 93] [0, 1, 2, 3] [0, 1, 2, 3, 4, 5, 6, 7] rfl rfl rfl rfl (ge (rg (sv (EV.mv rfl) rfl (sv (EV.add rfl rfl) rfl (sv (EV.as rfl) rfl (re (wk [2, 4, 8, 9, 10, 12, 13, 14, 15, 16, 17, 18] [0, 1, 2, 3] [⟨0, 1, 1, true⟩, ⟨1, 2, 2, true⟩, ⟨2, 2, 3, true⟩, ⟨3, 2, 4, true⟩, ⟨4, 2, 5, true⟩, ⟨5, 2, 1, true⟩, ⟨6, 1, 1, true⟩, ⟨7, 0, 0, false⟩] (ih1 _ (by omega) _ ⟨x21_10, Ax21_10, cx21_10, x21_12, Ax21_12, cx21_12, x21_13, x21_14, Ax21_14, cx21_14, x21_15, Ax21_15, cx21_15, x21_16, decide ((rdOf 0 x21_12 x21_18) = ((rd_T75 x21_9_0 x21_16).f0)), wrap64 (x21_18 + 1), x21_2_1, x21_2_2, x21_4_0, Ax21_4_0, cx21_4_0, x21_4_1, x21_4_2, x21_8_0, Ax21_8_0, cx21_8_0, x21_8_1, x21_8_2, x21_9_0, Ax21_9_0, cx21_9_0, x21_9_1, by omega, H, rfl⟩)))))))))))))))
      ·
       refine gf rfl (dF c17) (gx rfl (gs (rg (sv (EV.mv rfl) rfl (re ?_)))))
       revert H; refine ifsI ?_ ?_ <;> intro c23 H
       ·
        subst c23
        refine gt rfl rfl (rg (sv (EV.mv rfl) rfl (sv (EV.fa 0 rfl) rfl (sv (EV.ld 3 none rfl rfl rfl) rfl (sv (EV.mv rfl) rfl ?_)))))
        revert H; refine ggI ?_; intro g24 H
        revert H; refine ggI ?_; intro g25 H
        refine sv (EV.ix 6 rfl rfl rfl g24 g25 rfl) rfl (sv (EV.le (v := .agg #[.int .i64 ((rd_T75 x21_9_0 x21_16).f0), .int .i64 ((rd_T75 x21_9_0 x21_16).f1), .int .i64 ((rd_T75 x21_9_0 x21_16).f2)]) x21_16 0 (some 3) 6 z75 rfl rfl rfl g24 g25 rfl rfl rfl) rfl (so rfl (op_lit (s := 3) (by_ := 24) k75 ([(⟨(rd_T75 x21_9_0 x21_16).f0, (rd_T75 x21_9_0 x21_16).f1, (rd_T75 x21_9_0 x21_16).f2⟩ : S75)] : List S75) [[]] [] 6 [.tmp 101] rfl rfl rfl rfl rfl rfl rfl rfl rfl rfl rfl rfl rfl dq rfl fun A102_26 c102_26 => ?_)))
        revert H; refine ggI ?_; intro g27 H
        exact so rfl (op_app (k := k75) (s := 3) (by_ := 24) 2 8 rfl rfl rfl rfl (ap1 g27 dq) (ap1n g27 dq) (.inl rfl) true (fun _ => .inl rfl) rfl rfl fun A103_28 c103_28 => (nmE (en := [.sl 1 k64 Ax21_10 cx21_10 x21_10 1 true, .sl 2 (.int .i64) Ax21_12 cx21_12 x21_12 2 true, .sl 2 k75 Ax21_15 cx21_15 x21_15 4 true, .sl 2 k64 Ax21_4_0 cx21_4_0 x21_4_0 5 true, .sl 2 k64 Ax21_8_0 cx21_8_0 x21_8_0 1 true, .sl 1 k75 Ax21_9_0 cx21_9_0 x21_9_0 1 true, .sl 0 k64 Al0_0 cl0_0 l0_0 0 false, .sl 2 k75 A102_26 c102_26 ([(⟨(rd_T75 x21_9_0 x21_16).f0, (rd_T75 x21_9_0 x21_16).f1, (rd_T75 x21_9_0 x21_16).f2⟩ : S75)] : List S75) 6 true, .sl 2 k75 A103_28 c103_28 (x21_14 ++ ([(⟨(rd_T75 x21_9_0 x21_16).f0, (rd_T75 x21_9_0 x21_16).f1, (rd_T75 x21_9_0 x21_16).f2⟩ : S75)] : List S75)) 3 true]) (by kernel_rfl) (sv (EV.as rfl) rfl (re (pr [2, 4, 8, 9, 10, 12, 13, 14, 15, 16] [0, 1, 2, 3] [0, 1, 2, 3, 4, 5, 6, 8] rfl rfl rfl rfl (ge (rg (sv (EV.mv rfl) rfl (sv (EV.add rfl rfl) rfl (sv (EV.as rfl) rfl (re (wk [2, 4, 8, 9, 10, 12, 13, 14, 15, 16] [0, 1, 2, 3] [⟨0, 1, 1, true⟩, ⟨1, 2, 2, true⟩, ⟨7, 2, 3, true⟩, ⟨2, 2, 4, true⟩, ⟨3, 2, 5, true⟩, ⟨4, 2, 1, true⟩, ⟨5, 1, 1, true⟩, ⟨6, 0, 0, false⟩] (ih0 _ (by omega) _ ⟨x21_10, Ax21_10, cx21_10, x21_12, Ax21_12, cx21_12, x21_13, x21_14 ++ ([(⟨(rd_T75 x21_9_0 x21_16).f0, (rd_T75 x21_9_0 x21_16).f1, (rd_T75 x21_9_0 x21_16).f2⟩ : S75)] : List S75), A103_28, c103_28, x21_15, Ax21_15, cx21_15, wrap64 (x21_16 + 1), x21_2_1, x21_2_2, x21_4_0, Ax21_4_0, cx21_4_0, x21_4_1, x21_4_2, x21_8_0, Ax21_8_0, cx21_8_0, x21_8_1, x21_8_2, x21_9_0, Ax21_9_0, cx21_9_0, x21_9_1, H, rfl⟩)))))))))))))
       ·
        obtain rfl := bF c23
        refine gf rfl rfl (rg (sv (EV.mv rfl) rfl (sv (EV.fa 0 rfl) rfl (sv (EV.ld 3 none rfl rfl rfl) rfl (sv (EV.mv rfl) rfl ?_)))))
        revert H; refine ggI ?_; intro g29 H
        revert H; refine ggI ?_; intro g30 H
        refine sv (EV.ix 6 rfl rfl rfl g29 g30 rfl) rfl (sv (EV.le (v := .agg #[.int .i64 ((rd_T75 x21_9_0 x21_16).f0), .int .i64 ((rd_T75 x21_9_0 x21_16).f1), .int .i64 ((rd_T75 x21_9_0 x21_16).f2)]) x21_16 0 (some 3) 6 z75 rfl rfl rfl g29 g30 rfl rfl rfl) rfl (so rfl (op_lit (s := 3) (by_ := 24) k75 ([(⟨(rd_T75 x21_9_0 x21_16).f0, (rd_T75 x21_9_0 x21_16).f1, (rd_T75 x21_9_0 x21_16).f2⟩ : S75)] : List S75) [[]] [] 6 [.tmp 109] rfl rfl rfl rfl rfl rfl rfl rfl rfl rfl rfl rfl rfl dq rfl fun A110_31 c110_31 => ?_)))
        revert H; refine ggI ?_; intro g32 H
        exact so rfl (op_app (k := k75) (s := 3) (by_ := 24) 3 8 rfl rfl rfl rfl (ap1 g32 dq) (ap1n g32 dq) (.inl rfl) true (fun _ => .inl rfl) rfl rfl fun A111_33 c111_33 => (nmE (en := [.sl 1 k64 Ax21_10 cx21_10 x21_10 1 true, .sl 2 (.int .i64) Ax21_12 cx21_12 x21_12 2 true, .sl 2 k75 Ax21_14 cx21_14 x21_14 3 true, .sl 2 k64 Ax21_4_0 cx21_4_0 x21_4_0 5 true, .sl 2 k64 Ax21_8_0 cx21_8_0 x21_8_0 1 true, .sl 1 k75 Ax21_9_0 cx21_9_0 x21_9_0 1 true, .sl 0 k64 Al0_0 cl0_0 l0_0 0 false, .sl 2 k75 A110_31 c110_31 ([(⟨(rd_T75 x21_9_0 x21_16).f0, (rd_T75 x21_9_0 x21_16).f1, (rd_T75 x21_9_0 x21_16).f2⟩ : S75)] : List S75) 6 true, .sl 2 k75 A111_33 c111_33 (x21_15 ++ ([(⟨(rd_T75 x21_9_0 x21_16).f0, (rd_T75 x21_9_0 x21_16).f1, (rd_T75 x21_9_0 x21_16).f2⟩ : S75)] : List S75)) 4 true]) (by kernel_rfl) (sv (EV.as rfl) rfl (re (pr [2, 4, 8, 9, 10, 12, 13, 14, 15, 16] [0, 1, 2, 3] [0, 1, 2, 3, 4, 5, 6, 8] rfl rfl rfl rfl (ge (rg (sv (EV.mv rfl) rfl (sv (EV.add rfl rfl) rfl (sv (EV.as rfl) rfl (re (wk [2, 4, 8, 9, 10, 12, 13, 14, 15, 16] [0, 1, 2, 3] [⟨0, 1, 1, true⟩, ⟨1, 2, 2, true⟩, ⟨2, 2, 3, true⟩, ⟨7, 2, 4, true⟩, ⟨3, 2, 5, true⟩, ⟨4, 2, 1, true⟩, ⟨5, 1, 1, true⟩, ⟨6, 0, 0, false⟩] (ih0 _ (by omega) _ ⟨x21_10, Ax21_10, cx21_10, x21_12, Ax21_12, cx21_12, x21_13, x21_14, Ax21_14, cx21_14, x21_15 ++ ([(⟨(rd_T75 x21_9_0 x21_16).f0, (rd_T75 x21_9_0 x21_16).f1, (rd_T75 x21_9_0 x21_16).f2⟩ : S75)] : List S75), A111_33, c111_33, wrap64 (x21_16 + 1), x21_2_1, x21_2_2, x21_4_0, Ax21_4_0, cx21_4_0, x21_4_1, x21_4_2, x21_8_0, Ax21_8_0, cx21_8_0, x21_8_1, x21_8_2, x21_9_0, Ax21_9_0, cx21_9_0, x21_9_1, H, rfl⟩)))))))))))))
     ·
      refine gf rfl (dF c16) (gx rfl (gs (rg (sv (EV.mv rfl) rfl (sv (EV.fa 0 rfl) rfl (so rfl (op_st (cs' := [.slice Ax10_10 x10_10.length cx10_10, .int .i64 x10_8_1, .bool x10_8_2]) 2 rfl rfl rfl rfl rfl rfl (re (pr [2, 4, 8, 9, 10, 13, 14, 15] [0, 1, 2, 3] [0, 2, 3, 4, 6, 7] rfl rfl rfl rfl ?_)))))))))
      refine jo (fun S => ∃ (m : Nat) (x23_13 : Int) (x23_14 : List S75) (Ax23_14 : Option Addr) (cx23_14 : Nat) (x23_4_0 : List S64) (Ax23_4_0 : Option Addr) (cx23_4_0 : Nat) (x23_4_1 : Int) (x23_4_2 : Bool) (x23_8_0 : List S64) (Ax23_8_0 : Option Addr) (cx23_8_0 : Nat) (x23_8_1 : Int) (x23_8_2 : Bool), m ≤ n0 ∧ spec_StepAggregator.j0 m x23_13 x23_14 x23_4_0 x23_4_1 x23_4_2 x23_8_0 x23_8_1 x23_8_2 = some (r0, r1, r2, r3, r4, r5) ∧ S = ⟨[(4, .pointer (some ⟨b4, 0, none⟩)), (8, .pointer (some ⟨b8, 0, none⟩)), (13, .int .i64 x23_13), (14, .slice Ax23_14 x23_14.length cx23_14)], [⟨b4, 54, [.slice Ax23_4_0 x23_4_0.length cx23_4_0, .int .i64 x23_4_1, .bool x23_4_2]⟩, ⟨b8, 54, [.slice Ax23_8_0 x23_8_0.length cx23_8_0, .int .i64 x23_8_1, .bool x23_8_2]⟩], [.sl 2 k75 Ax23_14 cx23_14 x23_14 1 true, .sl 2 k64 Ax23_4_0 cx23_4_0 x23_4_0 2 true, .sl 1 k64 Ax23_8_0 cx23_8_0 x23_8_0 3 true]⟩) (fun S hS => ?_) (fun jh0 => ?_)
      ·
       clear H
       obtain ⟨m34, x23_13, x23_14, Ax23_14, cx23_14, x23_4_0, Ax23_4_0, cx23_4_0, x23_4_1, x23_4_2, x23_8_0, Ax23_8_0, cx23_8_0, x23_8_1, x23_8_2, lm34, H, rfl⟩ := hS
       rcases m34 with _ | m34
       · rw [spec_StepAggregator.j0] at H; cases H
       rw [spec_StepAggregator.j0] at H
       refine gs (dr [1] [0, 1, 2] [7, 8] 9 rfl rfl rfl rfl (xv 0 [1] [0, 1, 2] rfl (EV.ld (v := .agg #[.slice Ax23_8_0 x23_8_0.length cx23_8_0, .int .i64 x23_8_1, .bool x23_8_2]) 0 (some 3) rfl rfl rfl) rfl rfl rfl rfl (xv 1 [1] [0, 1, 2] rfl (EV.mv rfl) rfl rfl rfl rfl (xv 3 [1] [0, 1, 2] rfl (EV.mv rfl) rfl rfl rfl rfl (xv 4 [1] [0, 1, 2] rfl (EV.mul rfl rfl) rfl rfl rfl rfl (one1 2 rfl rfl ?_))))))
       revert H; refine bdI ?_; rintro t35 A35 H
       refine op_call (spec_ReferenceGroups.ok m34 x23_14 Ax23_14 cx23_14 _ A35) [⟨0, 0, 0, false⟩] 4 rfl rfl rfl rfl rfl ?_
       rintro _ _ _ ⟨At35, ct35, rfl, rfl, rfl⟩
       refine xs [1] [0, 1, 2] rfl rfl rfl (one1 5 rfl rfl (op_st (cs' := [.slice Ax23_8_0 x23_8_0.length cx23_8_0, .int .i64 x23_8_1, .bool x23_8_2]) 0 rfl rfl rfl rfl rfl rfl (xs [1] [0, 1, 2] rfl rfl rfl (one1 6 rfl rfl (ov (EV.as rfl) rfl (xs [1] [0, 1, 2] rfl rfl rfl (one1 7 rfl rfl (ov (EV.as rfl) rfl (xn rfl (one1 8 rfl rfl (ov (EV.as rfl) rfl (xn rfl (xd (pr [4, 5, 6, 7] [0] [2, 3] rfl rfl rfl rfl ?_))))))))))))))
       cases H
       exact rt Try.func35 rfl (.cell 0 (some 3) rfl rfl rfl (.tmp rfl (.tmp rfl (.tmp rfl .nil)))) rfl [] [⟨0, 1, 1, true⟩, ⟨1, 2, 2, true⟩] rfl rfl rfl rfl rfl ⟨_, _, _, _, rfl, rfl, rfl⟩
      ·
       refine gs (rg (sv (EV.mv rfl) rfl (sv (EV.ln rfl) rfl (sv (EV.gtr rfl rfl) rfl (re ?_)))))
       revert H; refine ifsI ?_ ?_ <;> intro c36 H
       ·
        refine gt rfl (dT c36) (gs (dr [0, 1, 2, 3] [0, 1, 2, 3, 4, 5] [6] 7 rfl rfl rfl rfl (xv 0 [0, 1, 2, 3] [0, 1, 2, 3, 4, 5] rfl (EV.fa 1 rfl) rfl rfl rfl rfl (xv 1 [0, 1, 2, 3] [0, 1, 2, 3, 4, 5] rfl (EV.ld 0 none rfl rfl rfl) rfl rfl rfl rfl (xv 2 [0, 1, 2, 3] [0, 1, 2, 3, 4, 5] rfl (EV.mv rfl) rfl rfl rfl rfl (one1 3 rfl rfl ?_))))))
        revert H; refine bdI ?_; rintro t37 A37 H
        refine op_call (spec_TotalCost.ok n0 x10_15 Ax10_15 cx10_15 _ A37) [⟨2, 0, 0, false⟩] 6 rfl rfl rfl rfl rfl ?_
        rintro _ _ _ ⟨rfl, rfl, rfl⟩
        refine xs [0, 1, 2, 3] [0, 1, 2, 3, 4, 5] rfl rfl rfl (xv 4 [0, 1, 2, 3] [0, 1, 2, 3, 4, 5] rfl (EV.add rfl rfl) rfl rfl rfl rfl (xv 5 [0, 1, 2, 3] [0, 1, 2, 3, 4, 5] rfl (EV.fa 1 rfl) rfl rfl rfl rfl (one1 6 rfl rfl (op_st (cs' := [.slice Ax10_10 x10_10.length cx10_10, .int .i64 (wrap64 (x10_2_1 + t37)), .bool x10_8_2]) 2 rfl rfl rfl rfl rfl rfl (xn rfl (xd (pr [4, 8, 9, 10, 13, 14, 15] [1, 2, 3] [0, 1, 2, 3, 4] rfl rfl rfl rfl (gs (rg (sv (EV.mv rfl) rfl (sv (EV.fa 1 rfl) rfl (sv (EV.ld 2 none rfl rfl rfl) rfl (sv (EV.bd (v := .agg #[.slice Ax10_15 x10_15.length cx10_15, .int .i64 x10_9_1]) rfl (by kernel_rfl)) rfl (so rfl (op_lit (s := 2) (by_ := 32) k64 ([(⟨x10_15, x10_9_1⟩ : S64)] : List S64) [[(Ax10_15, cx10_15)]] [2] 6 [.tmp 126] rfl rfl rfl rfl rfl rfl rfl rfl rfl rfl rfl rfl rfl dq rfl fun A127_38 c127_38 => (nmE (en := [.sl 1 k64 Ax10_10 cx10_10 x10_10 1 true, .sl 2 k75 Ax10_14 cx10_14 x10_14 3 true, .sl 2 k75 Ax10_15 cx10_15 x10_15 6 true, .sl 2 k64 Ax10_4_0 cx10_4_0 x10_4_0 5 true, .sl 1 k75 Ax10_9_0 cx10_9_0 x10_9_0 1 true, .sl 2 k64 A127_38 c127_38 ([(⟨x10_15, x10_9_1⟩ : S64)] : List S64) 6 true]) (by kernel_rfl) (sv (EV.as rfl) rfl (re ?_))))))))))))))))))
        refine jo (fun S => ∃ (m : Nat) (x24_10 : List S64) (Ax24_10 : Option Addr) (cx24_10 : Nat) (x24_13 : Int) (x24_14 : List S75) (Ax24_14 : Option Addr) (cx24_14 : Nat) (x24_19 : List S64) (Ax24_19 : Option Addr) (cx24_19 : Nat) (x24_4_0 : List S64) (Ax24_4_0 : Option Addr) (cx24_4_0 : Nat) (x24_4_1 : Int) (x24_4_2 : Bool) (x24_8_0 : List S64) (Ax24_8_0 : Option Addr) (cx24_8_0 : Nat) (x24_8_1 : Int) (x24_8_2 : Bool), m ≤ n0 ∧ spec_StepAggregator.j1 m x24_10 x24_13 x24_14 x24_19 x24_4_0 x24_4_1 x24_4_2 x24_8_0 x24_8_1 x24_8_2 = some (r0, r1, r2, r3, r4, r5) ∧ S = ⟨[(4, .pointer (some ⟨b4, 0, none⟩)), (8, .pointer (some ⟨b8, 0, none⟩)), (10, .slice Ax24_10 x24_10.length cx24_10), (13, .int .i64 x24_13), (14, .slice Ax24_14 x24_14.length cx24_14), (19, .slice Ax24_19 x24_19.length cx24_19)], [⟨b4, 54, [.slice Ax24_4_0 x24_4_0.length cx24_4_0, .int .i64 x24_4_1, .bool x24_4_2]⟩, ⟨b8, 54, [.slice Ax24_8_0 x24_8_0.length cx24_8_0, .int .i64 x24_8_1, .bool x24_8_2]⟩], [.sl 1 k64 Ax24_10 cx24_10 x24_10 1 true, .sl 2 k75 Ax24_14 cx24_14 x24_14 2 true, .sl 2 k64 Ax24_19 cx24_19 x24_19 3 true, .sl 2 k64 Ax24_4_0 cx24_4_0 x24_4_0 4 true, .sl 1 k64 Ax24_8_0 cx24_8_0 x24_8_0 1 true]⟩) (fun S hS => ?_) (fun jh1 => ?_)
        ·
         clear H
         obtain ⟨m39, x24_10, Ax24_10, cx24_10, x24_13, x24_14, Ax24_14, cx24_14, x24_19, Ax24_19, cx24_19, x24_4_0, Ax24_4_0, cx24_4_0, x24_4_1, x24_4_2, x24_8_0, Ax24_8_0, cx24_8_0, x24_8_1, x24_8_2, lm39, H, rfl⟩ := hS
         rcases m39 with _ | m39
         · rw [spec_StepAggregator.j1] at H; cases H
         rw [spec_StepAggregator.j1] at H
         refine rg (sv (EV.mv rfl) rfl (sv (EV.mv rfl) rfl ?_))
         revert H; refine ggI ?_; intro g40 H
         exact so rfl (op_app (k := k64) (s := 2) (by_ := 32) 2 0 rfl rfl rfl rfl (ap2 g40 dq) (ap2n g40 dq) (.inr ⟨dq, dq, rfl, dq⟩) true (fun _ => .inr ⟨rfl, rfl, dq⟩) rfl rfl fun A151_41 c151_41 => (nmE (en := [.sl 1 k64 Ax24_10 cx24_10 x24_10 3 true, .sl 2 k75 Ax24_14 cx24_14 x24_14 2 true, .sl 2 k64 Ax24_4_0 cx24_4_0 x24_4_0 4 true, .sl 1 k64 Ax24_8_0 cx24_8_0 x24_8_0 3 true, .sl 2 k64 A151_41 c151_41 (x24_19 ++ x24_10) 3 true]) (by kernel_rfl) (sv (EV.fa 0 rfl) rfl (so rfl (op_st (cs' := [.slice A151_41 (x24_19 ++ x24_10).length c151_41, .int .i64 x24_8_1, .bool x24_8_2]) 1 rfl rfl rfl rfl rfl rfl (re (pr [4, 8, 13, 14] [0, 1] [1, 2, 4] rfl rfl rfl rfl (wk [4, 8, 13, 14] [0, 1] [⟨0, 2, 1, true⟩, ⟨1, 2, 2, true⟩, ⟨2, 1, 3, true⟩] (jh0 _ ⟨_, x24_13, x24_14, Ax24_14, cx24_14, x24_4_0, Ax24_4_0, cx24_4_0, x24_4_1, x24_4_2, x24_19 ++ x24_10, A151_41, c151_41, x24_8_1, x24_8_2, by omega, H, rfl⟩)))))))))
        ·
         refine gs (rg (sv (EV.fa 1 rfl) rfl (sv (EV.ld 2 none rfl rfl rfl) rfl (sv (EV.lss rfl rfl) rfl (re (pr [4, 8, 9, 10, 13, 14, 15, 19, 130] [0, 1, 2] [0, 1, 2, 3, 4, 5] rfl rfl rfl rfl ?_))))))
         revert H; refine ifsI ?_ ?_ <;> intro c42 H
         ·
          refine gt rfl (dT c42) (gs (rg (sv (EV.mv rfl) rfl (sv (EV.fa 1 rfl) rfl (sv (EV.ld 2 none rfl rfl rfl) rfl ?_)))))
          revert H; refine bdI ?_; rintro ⟨t43_0, t43_1⟩ A43 H
          refine so rfl (op_call (spec_SplitByHashBit.ok n0 x10_15 Ax10_15 cx10_15 x10_9_1 _ _ A43) [⟨2, 0, 0, false⟩] 7 rfl rfl rfl rfl rfl ?_)
          rintro _ _ _ ⟨At43_0, ct43_0, At43_1, ct43_1, rfl, rfl, rfl⟩
          exact sv (EV.mv rfl) rfl (sv (EV.ex rfl rfl) rfl (sv (EV.ex rfl rfl) rfl (sv (EV.as rfl) rfl (sv (EV.as rfl) rfl (re (pr [4, 8, 9, 10, 13, 14, 20, 21] [0, 1, 2] [0, 1, 3, 4, 6, 7] rfl rfl rfl rfl (rg (sv (EV.mv rfl) rfl (sv (EV.fa 1 rfl) rfl (sv (EV.ld 2 none rfl rfl rfl) rfl (sv (EV.add rfl rfl) rfl (sv (EV.bd (v := .agg #[.slice At43_0 t43_0.length ct43_0, .int .i64 (wrap64 (x10_9_1 + 1))]) rfl (by kernel_rfl)) rfl (sv (EV.mv rfl) rfl (sv (EV.fa 1 rfl) rfl (sv (EV.ld 2 none rfl rfl rfl) rfl (sv (EV.add rfl rfl) rfl (sv (EV.bd (v := .agg #[.slice At43_1 t43_1.length ct43_1, .int .i64 (wrap64 (x10_9_1 + 1))]) rfl (by kernel_rfl)) rfl (so rfl (op_lit (s := 2) (by_ := 32) k64 ([(⟨t43_0, wrap64 (x10_9_1 + 1)⟩ : S64), (⟨t43_1, wrap64 (x10_9_1 + 1)⟩ : S64)] : List S64) [[(At43_0, ct43_0)], [(At43_1, ct43_1)]] [4, 5] 10 [.tmp 142, .tmp 147] rfl rfl rfl rfl rfl rfl rfl rfl rfl rfl rfl rfl rfl dq rfl fun A148_44 c148_44 => (nmE (en := [.sl 1 k64 Ax10_10 cx10_10 x10_10 1 true, .sl 2 k75 Ax10_14 cx10_14 x10_14 3 true, .sl 2 k64 Ax10_4_0 cx10_4_0 x10_4_0 5 true, .sl 1 k75 Ax10_9_0 cx10_9_0 x10_9_0 1 true, .sl 2 k75 At43_0 ct43_0 t43_0 10 true, .sl 2 k75 At43_1 ct43_1 t43_1 10 true, .sl 2 k64 A148_44 c148_44 ([(⟨t43_0, wrap64 (x10_9_1 + 1)⟩ : S64), (⟨t43_1, wrap64 (x10_9_1 + 1)⟩ : S64)] : List S64) 10 true]) (by kernel_rfl) (sv (EV.as rfl) rfl (re (pr [4, 8, 10, 13, 14, 19] [0, 1] [0, 1, 2, 6] rfl rfl rfl rfl (wk [4, 8, 10, 13, 14, 19] [0, 1] [⟨0, 1, 1, true⟩, ⟨1, 2, 2, true⟩, ⟨3, 2, 3, true⟩, ⟨2, 2, 4, true⟩, ⟨0, 1, 1, true⟩] (jh1 _ ⟨_, x10_10, Ax10_10, cx10_10, x10_13, x10_14, Ax10_14, cx10_14, ([(⟨t43_0, wrap64 (x10_9_1 + 1)⟩ : S64), (⟨t43_1, wrap64 (x10_9_1 + 1)⟩ : S64)] : List S64), A148_44, c148_44, x10_4_0, Ax10_4_0, cx10_4_0, x10_4_1, x10_4_2, x10_10, Ax10_10, cx10_10, wrap64 (x10_2_1 + t37), x10_8_2, by omega, H, rfl⟩)))))))))))))))))))))))))
         ·
          exact gf rfl (dF c42) (gk (wk [4, 8, 10, 13, 14, 19] [0, 1] [⟨0, 1, 1, true⟩, ⟨1, 2, 2, true⟩, ⟨5, 2, 3, true⟩, ⟨3, 2, 4, true⟩, ⟨0, 1, 1, true⟩] (jh1 _ ⟨_, x10_10, Ax10_10, cx10_10, x10_13, x10_14, Ax10_14, cx10_14, ([(⟨x10_15, x10_9_1⟩ : S64)] : List S64), A127_38, c127_38, x10_4_0, Ax10_4_0, cx10_4_0, x10_4_1, x10_4_2, x10_10, Ax10_10, cx10_10, wrap64 (x10_2_1 + t37), x10_8_2, by omega, H, rfl⟩)))
       ·
        exact gf rfl (dF c36) (gk (wk [4, 8, 13, 14] [1, 2] [⟨1, 2, 1, true⟩, ⟨3, 2, 2, true⟩, ⟨0, 1, 3, true⟩] (jh0 _ ⟨_, x10_13, x10_14, Ax10_14, cx10_14, x10_4_0, Ax10_4_0, cx10_4_0, x10_4_1, x10_4_2, x10_10, Ax10_10, cx10_10, x10_8_1, x10_8_2, by omega, H, rfl⟩)))
   ·
    obtain rfl := bF c7
    refine gt rfl rfl (gs (rg (sv (EV.ld (v := .agg #[.slice At1_0 t1_0.length ct1_0, .int .i64 t1_1, .bool t1_2]) 2 (some 3) rfl rfl rfl) rfl (so rfl (op_lit (s := 5) (by_ := 40) k49 ([] : List S49) [] [] 3 [] rfl rfl rfl rfl rfl rfl rfl rfl rfl rfl rfl rfl rfl dq rfl fun A39_45 c39_45 => (so rfl (op_st (cs' := [.slice At1_0 t1_0.length ct1_0, .int .i64 t1_1, .bool t1_2]) 1 rfl rfl rfl rfl rfl rfl (sv (EV.as rfl) rfl (sv (EV.as rfl) rfl (sv (EV.as rfl) rfl (re (pr [4, 5, 6, 7] [1] [1, 2] rfl rfl rfl rfl ?_))))))))))))
    cases H
    exact rt Try.func35 rfl (.cell 0 (some 3) rfl rfl rfl (.tmp rfl (.tmp rfl (.tmp rfl .nil)))) rfl [] [⟨0, 1, 1, true⟩, ⟨1, 2, 2, true⟩] rfl rfl rfl rfl rfl ⟨_, _, _, _, rfl, rfl, rfl⟩
 ·
  obtain rfl := bF c3
  refine ts 27 rfl rfl (sk rfl (sk rfl (sk rfl (sk rfl (sv (EV.pt rfl rfl rfl) rfl (sv (EV.mv rfl) rfl (sk rfl (sk rfl (sk rfl (sv (EV.pt rfl rfl rfl) rfl (re (pr [1, 2, 4, 8, 37] [0, 1, 2] [0, 1] rfl rfl rfl rfl (gt rfl rfl (gs (rg (sv (EV.ld (v := .agg #[.slice At1_0 t1_0.length ct1_0, .int .i64 t1_1, .bool t1_2]) 2 (some 3) rfl rfl rfl) rfl (so rfl (op_lit (s := 5) (by_ := 40) k49 ([] : List S49) [] [] 3 [] rfl rfl rfl rfl rfl rfl rfl rfl rfl rfl rfl rfl rfl dq rfl fun A39_46 c39_46 => (so rfl (op_st (cs' := [.slice At1_0 t1_0.length ct1_0, .int .i64 t1_1, .bool t1_2]) 1 rfl rfl rfl rfl rfl rfl (sv (EV.as rfl) rfl (sv (EV.as rfl) rfl (sv (EV.as rfl) rfl (re (pr [4, 5, 6, 7] [1] [1, 2] rfl rfl rfl rfl ?_)))))))))))))))))))))))))
  cases H
  exact rt Try.func35 rfl (.cell 0 (some 3) rfl rfl rfl (.tmp rfl (.tmp rfl (.tmp rfl .nil)))) rfl [] [⟨0, 1, 1, true⟩, ⟨1, 2, 2, true⟩] rfl rfl rfl rfl rfl ⟨_, _, _, _, rfl, rfl, rfl⟩
def spec_l1Byte.f (l0_0 : List Int) (a0_1 : Int) (a0_2 : Int) : Option (Int × Int × Int) := if a0_1 < (l0_0.length : Int) then (if 0 ≤ a0_1 then (some (andI (wrap64 ((andI (xorI (shrI (wrap64 ((wrap64 (a0_2 * 6364136223846793005)) + 1442695040888963407)) 33) (shrI (wrap64 ((wrap64 (a0_2 * 6364136223846793005)) + 1442695040888963407)) 45)) 255) + (IntKind.i64.wrap (rdOf 0 l0_0 a0_1)))) 255, wrap64 (a0_1 + 1), wrap64 ((wrap64 (a0_2 * 6364136223846793005)) + 1442695040888963407))) else none) else (some (andI (xorI (shrI (wrap64 ((wrap64 (a0_2 * 6364136223846793005)) + 1442695040888963407)) 33) (shrI (wrap64 ((wrap64 (a0_2 * 6364136223846793005)) + 1442695040888963407)) 45)) 255, a0_1, wrap64 ((wrap64 (a0_2 * 6364136223846793005)) + 1442695040888963407)))
set_option maxHeartbeats 4000000 in
set_option maxRecDepth 100000 in
theorem spec_l1Byte.ok (b1000 : Nat) (l0_0 : List Int) (Al0_0 : Option Addr) (cl0_0 : Nat) (a0_1 : Int) (a0_2 : Int) (r0 : Int) (r1 : Int) (r2 : Int) (H : spec_l1Byte.f l0_0 a0_1 a0_2 = some (r0, r1, r2)) : Fn Try.prog 88 [.pointer (some ⟨b1000, 0, none⟩)] [⟨b1000, 95, [.slice Al0_0 l0_0.length cl0_0, .int .i64 a0_1, .int .i64 a0_2]⟩] [.sl 0 (.int .u8) Al0_0 cl0_0 l0_0 0 false] (fun v bx en => v = .int .i64 r0 ∧ bx = [⟨b1000, 95, [.slice Al0_0 l0_0.length cl0_0, .int .i64 r1, .int .i64 r2]⟩] ∧ en = []) := by
 refine fn_ 58 Try.func88 rfl rfl rfl (fun base T w0 => ?_)
 rw [spec_l1Byte.f] at H
 refine gs (rg (sv (EV.as rfl) rfl (re (gs (rg (sv (EV.mv rfl) rfl (sv (EV.mv rfl) rfl (sv (EV.nc rfl) rfl (sv (EV.fa 2 rfl) rfl (sv (EV.ld 0 none rfl rfl rfl) rfl (sv (EV.mul rfl rfl) rfl (sv (EV.add rfl rfl) rfl (sv (EV.nc rfl) rfl (sv (EV.fa 2 rfl) rfl (so rfl (op_st (cs' := [.slice Al0_0 l0_0.length cl0_0, .int .i64 a0_1, .int .i64 (wrap64 ((wrap64 (a0_2 * 6364136223846793005)) + 1442695040888963407))]) 0 rfl rfl rfl rfl rfl rfl (re (pr [0] [0] [0] rfl rfl rfl rfl (gs (dr [0] [0] [] 13 rfl rfl rfl rfl (xv 0 [0] [0] rfl (EV.mv rfl) rfl rfl rfl rfl (xv 1 [0] [0] rfl (EV.nc rfl) rfl rfl rfl rfl (xv 2 [0] [0] rfl (EV.fa 2 rfl) rfl rfl rfl rfl (xv 3 [0] [0] rfl (EV.ld 0 none rfl rfl rfl) rfl rfl rfl rfl (xv 4 [0] [0] rfl (EV.shr rfl rfl dq) rfl rfl rfl rfl (xv 5 [0] [0] rfl (EV.mv rfl) rfl rfl rfl rfl (xv 6 [0] [0] rfl (EV.nc rfl) rfl rfl rfl rfl (xv 7 [0] [0] rfl (EV.fa 2 rfl) rfl rfl rfl rfl (xv 8 [0] [0] rfl (EV.ld 0 none rfl rfl rfl) rfl rfl rfl rfl ?_)))))))))))))))))))))))))))))
 refine xv 9 [0] [0] rfl (EV.shr rfl rfl dq) rfl rfl rfl rfl (xv 10 [0] [0] rfl (EV.xorI rfl rfl) rfl rfl rfl rfl (xv 11 [0] [0] rfl (EV.andI rfl rfl) rfl rfl rfl rfl (xv 12 [0] [0] rfl (EV.as rfl) rfl rfl rfl rfl (xd (pr [0, 3] [0] [0] rfl rfl rfl rfl (gs (gs (dr [0] [0] [] 10 rfl rfl rfl rfl (xv 0 [0] [0] rfl (EV.mv rfl) rfl rfl rfl rfl (xv 1 [0] [0] rfl (EV.nc rfl) rfl rfl rfl rfl (xv 2 [0] [0] rfl (EV.fa 1 rfl) rfl rfl rfl rfl (xv 3 [0] [0] rfl (EV.ld 0 none rfl rfl rfl) rfl rfl rfl rfl (xv 4 [0] [0] rfl (EV.mv rfl) rfl rfl rfl rfl (xv 5 [0] [0] rfl (EV.nc rfl) rfl rfl rfl rfl (xv 6 [0] [0] rfl (EV.fa 0 rfl) rfl rfl rfl rfl (xv 7 [0] [0] rfl (EV.ld 0 none rfl rfl rfl) rfl rfl rfl rfl (xv 8 [0] [0] rfl (EV.ln rfl) rfl rfl rfl rfl (xv 9 [0] [0] rfl (EV.lss rfl rfl) rfl rfl rfl rfl (xd (pr [0, 3, 34] [0] [0] rfl rfl rfl rfl ?_))))))))))))))))))))
 revert H; refine ifsI ?_ ?_ <;> intro c1 H
 ·
  refine gt rfl (dT c1) (gs ?_)
  revert H; refine ggI ?_; intro g2 H
  refine dr [0] [0] [] 15 rfl rfl rfl rfl (xv 0 [0] [0] rfl (EV.mv rfl) rfl rfl rfl rfl (xv 1 [0] [0] rfl (EV.mv rfl) rfl rfl rfl rfl (xv 2 [0] [0] rfl (EV.nc rfl) rfl rfl rfl rfl (xv 3 [0] [0] rfl (EV.fa 0 rfl) rfl rfl rfl rfl (xv 4 [0] [0] rfl (EV.ld 0 none rfl rfl rfl) rfl rfl rfl rfl (xv 5 [0] [0] rfl (EV.mv rfl) rfl rfl rfl rfl (xv 6 [0] [0] rfl (EV.nc rfl) rfl rfl rfl rfl (xv 7 [0] [0] rfl (EV.fa 1 rfl) rfl rfl rfl rfl (xv 8 [0] [0] rfl (EV.ld 0 none rfl rfl rfl) rfl rfl rfl rfl (xv 9 [0] [0] rfl (EV.ix 0 rfl rfl rfl g2 c1 rfl) rfl rfl rfl rfl (xv 10 [0] [0] rfl (EV.le (v := .int .u8 (rdOf 0 l0_0 a0_1)) a0_1 0 none 0 0 rfl rfl rfl g2 c1 rfl rfl rfl) rfl rfl rfl rfl (xv 11 [0] [0] rfl (EV.cv (k' := .i64) rfl) rfl rfl rfl rfl (xv 12 [0] [0] rfl (EV.add rfl rfl) rfl rfl rfl rfl (xv 13 [0] [0] rfl (EV.andI rfl rfl) rfl rfl rfl rfl (xv 14 [0] [0] rfl (EV.as rfl) rfl rfl rfl rfl (xd (pr [0, 3] [0] [0] rfl rfl rfl rfl (rg (sv (EV.mv rfl) rfl (sv (EV.mv rfl) rfl (sv (EV.nc rfl) rfl (sv (EV.fa 1 rfl) rfl (sv (EV.ld 0 none rfl rfl rfl) rfl (sv (EV.add rfl rfl) rfl (sv (EV.nc rfl) rfl (sv (EV.fa 1 rfl) rfl (so rfl (op_st (cs' := [.slice Al0_0 l0_0.length cl0_0, .int .i64 (wrap64 (a0_1 + 1)), .int .i64 (wrap64 ((wrap64 (a0_2 * 6364136223846793005)) + 1442695040888963407))]) 0 rfl rfl rfl rfl rfl rfl (re ?_)))))))))))))))))))))))))))))
  refine pr [3] [0] [0] rfl rfl rfl rfl (gs (rg (sv (EV.mv rfl) rfl (sv (EV.as rfl) rfl (re ?_)))))
  cases H
  exact rt Try.func88 rfl (.tmp rfl .nil) rfl [0] [] rfl rfl rfl rfl rfl ⟨rfl, rfl, rfl⟩
 ·
  refine gf rfl (dF c1) (gk (gs (rg (sv (EV.mv rfl) rfl (sv (EV.as rfl) rfl (re ?_))))))
  cases H
  exact rt Try.func88 rfl (.tmp rfl .nil) rfl [0] [] rfl rfl rfl rfl rfl ⟨rfl, rfl, rfl⟩
def spec_l1Below.f (l0_0 : List Int) (a0_1 : Int) (a0_2 : Int) (a1 : Int) : Option (Int × Int × Int) := if a1 ≤ 0 then (some (0, a0_1, a0_2)) else (if a1 ≤ 256 then ((spec_l1Byte.f l0_0 a0_1 a0_2).bind fun bt3 => (if a1 ≠ 0 then (some (Int.tmod bt3.1 a1, bt3.2.1, bt3.2.2)) else none)) else ((spec_l1Byte.f l0_0 a0_1 a0_2).bind fun bt5 => ((spec_l1Byte.f l0_0 bt5.2.1 bt5.2.2).bind fun bt6 => ((spec_l1Byte.f l0_0 bt6.2.1 bt6.2.2).bind fun bt7 => ((spec_l1Byte.f l0_0 bt7.2.1 bt7.2.2).bind fun bt8 => (if a1 ≠ 0 then (some (Int.tmod (wrap64 ((wrap64 ((wrap64 ((wrap64 (bt5.1 * 16777216)) + (wrap64 (bt6.1 * 65536)))) + (wrap64 (bt7.1 * 256)))) + bt8.1)) a1, bt8.2.1, bt8.2.2)) else none))))))
set_option maxHeartbeats 4000000 in
set_option maxRecDepth 100000 in
theorem spec_l1Below.ok (b1000 : Nat) (l0_0 : List Int) (Al0_0 : Option Addr) (cl0_0 : Nat) (a0_1 : Int) (a0_2 : Int) (a1 : Int) (r0 : Int) (r1 : Int) (r2 : Int) (H : spec_l1Below.f l0_0 a0_1 a0_2 a1 = some (r0, r1, r2)) : Fn Try.prog 58 [.pointer (some ⟨b1000, 0, none⟩), .int .i64 a1] [⟨b1000, 95, [.slice Al0_0 l0_0.length cl0_0, .int .i64 a0_1, .int .i64 a0_2]⟩] [.sl 0 (.int .u8) Al0_0 cl0_0 l0_0 0 false] (fun v bx en => v = .int .i64 r0 ∧ bx = [⟨b1000, 95, [.slice Al0_0 l0_0.length cl0_0, .int .i64 r1, .int .i64 r2]⟩] ∧ en = []) := by
 refine fn_ 37 Try.func58 rfl rfl rfl (fun base T w0 => ?_)
 rw [spec_l1Below.f] at H
 refine gs (rg (sv (EV.as rfl) rfl (re (gs (gs (rg (sv (EV.mv rfl) rfl (sv (EV.leq rfl rfl) rfl (re ?_)))))))))
 revert H; refine ifsI ?_ ?_ <;> intro c1 H
 ·
  refine gt rfl (dT c1) (gs (rg (sv (EV.as rfl) rfl (re ?_))))
  cases H
  exact rt Try.func58 rfl (.tmp rfl .nil) rfl [0] [] rfl rfl rfl rfl rfl ⟨rfl, rfl, rfl⟩
 ·
  refine gf rfl (dF c1) (gk (gs (gs (rg (sv (EV.mv rfl) rfl (sv (EV.leq rfl rfl) rfl (re ?_)))))))
  revert H; refine ifsI ?_ ?_ <;> intro c2 H
  ·
   refine gt rfl (dT c2) (gs (rg (sv (EV.mv rfl) rfl ?_)))
   revert H; refine bdI ?_; rintro ⟨t3_0, t3_1, t3_2⟩ A3 H
   refine so rfl (op_callM (spec_l1Byte.ok b1000 l0_0 Al0_0 cl0_0 a0_1 a0_2 _ _ _ A3) [⟨0, 0, 0, false⟩] [0] [] 1 rfl rfl rfl rfl rfl rfl rfl rfl ?_)
   rintro _ _ _ ⟨rfl, rfl, rfl⟩
   refine nmE (en := [.sl 0 (.int .u8) Al0_0 cl0_0 l0_0 0 false]) (by kernel_rfl) (sv (EV.mv rfl) rfl ?_)
   revert H; refine ggI ?_; intro g4 H
   refine sv (EV.rem rfl rfl g4) rfl (sv (EV.as rfl) rfl (re (pr [4] [0] [0] rfl rfl rfl rfl ?_)))
   cases H
   exact rt Try.func58 rfl (.tmp rfl .nil) rfl [0] [] rfl rfl rfl rfl rfl ⟨rfl, rfl, rfl⟩
  ·
   refine gf rfl (dF c2) (gk (gs (rg (sv (EV.mv rfl) rfl ?_))))
   revert H; refine bdI ?_; rintro ⟨t5_0, t5_1, t5_2⟩ A5 H
   refine so rfl (op_callM (spec_l1Byte.ok b1000 l0_0 Al0_0 cl0_0 a0_1 a0_2 _ _ _ A5) [⟨0, 0, 0, false⟩] [0] [] 1 rfl rfl rfl rfl rfl rfl rfl rfl ?_)
   rintro _ _ _ ⟨rfl, rfl, rfl⟩
   refine nmE (en := [.sl 0 (.int .u8) Al0_0 cl0_0 l0_0 0 false]) (by kernel_rfl) (sv (EV.as rfl) rfl (re (pr [0, 1, 5] [0] [0] rfl rfl rfl rfl (gs (rg (sv (EV.mv rfl) rfl ?_))))))
   revert H; refine bdI ?_; rintro ⟨t6_0, t6_1, t6_2⟩ A6 H
   refine so rfl (op_callM (spec_l1Byte.ok b1000 l0_0 Al0_0 cl0_0 t5_1 t5_2 _ _ _ A6) [⟨0, 0, 0, false⟩] [0] [] 1 rfl rfl rfl rfl rfl rfl rfl rfl ?_)
   rintro _ _ _ ⟨rfl, rfl, rfl⟩
   refine nmE (en := [.sl 0 (.int .u8) Al0_0 cl0_0 l0_0 0 false]) (by kernel_rfl) (sv (EV.as rfl) rfl (re (gs (rg (sv (EV.mv rfl) rfl ?_)))))
   revert H; refine bdI ?_; rintro ⟨t7_0, t7_1, t7_2⟩ A7 H
   refine so rfl (op_callM (spec_l1Byte.ok b1000 l0_0 Al0_0 cl0_0 t6_1 t6_2 _ _ _ A7) [⟨0, 0, 0, false⟩] [0] [] 1 rfl rfl rfl rfl rfl rfl rfl rfl ?_)
   rintro _ _ _ ⟨rfl, rfl, rfl⟩
   refine nmE (en := [.sl 0 (.int .u8) Al0_0 cl0_0 l0_0 0 false]) (by kernel_rfl) (sv (EV.as rfl) rfl (re (gs (rg (sv (EV.mv rfl) rfl ?_)))))
   revert H; refine bdI ?_; rintro ⟨t8_0, t8_1, t8_2⟩ A8 H
   refine so rfl (op_callM (spec_l1Byte.ok b1000 l0_0 Al0_0 cl0_0 t7_1 t7_2 _ _ _ A8) [⟨0, 0, 0, false⟩] [0] [] 1 rfl rfl rfl rfl rfl rfl rfl rfl ?_)
   rintro _ _ _ ⟨rfl, rfl, rfl⟩
   refine nmE (en := [.sl 0 (.int .u8) Al0_0 cl0_0 l0_0 0 false]) (by kernel_rfl) (sv (EV.as rfl) rfl (re (pr [1, 5, 6, 7, 8] [0] [0] rfl rfl rfl rfl (gs (rg (sv (EV.mv rfl) rfl (sv (EV.mul rfl rfl) rfl (sv (EV.mv rfl) rfl (sv (EV.mul rfl rfl) rfl (sv (EV.add rfl rfl) rfl (sv (EV.mv rfl) rfl (sv (EV.mul rfl rfl) rfl (sv (EV.add rfl rfl) rfl (sv (EV.mv rfl) rfl (sv (EV.add rfl rfl) rfl (sv (EV.mv rfl) rfl ?_))))))))))))))))
   revert H; refine ggI ?_; intro g9 H
   refine sv (EV.rem rfl rfl g9) rfl (sv (EV.as rfl) rfl (re (pr [4] [0] [0] rfl rfl rfl rfl ?_)))
   cases H
   exact rt Try.func58 rfl (.tmp rfl .nil) rfl [0] [] rfl rfl rfl rfl rfl ⟨rfl, rfl, rfl⟩
def spec_l1Once.f (l0_0 : List Int) (a0_1 : Int) (a0_2 : Int) (a1 : Int) : Option (Bool × Int × Int) := (spec_l1Below.f l0_0 a0_1 a0_2 a1).bind fun bt1 => (some (decide (bt1.1 = 0), bt1.2.1, bt1.2.2))
set_option maxHeartbeats 4000000 in
set_option maxRecDepth 100000 in
theorem spec_l1Once.ok (b1000 : Nat) (l0_0 : List Int) (Al0_0 : Option Addr) (cl0_0 : Nat) (a0_1 : Int) (a0_2 : Int) (a1 : Int) (r0 : Bool) (r1 : Int) (r2 : Int) (H : spec_l1Once.f l0_0 a0_1 a0_2 a1 = some (r0, r1, r2)) : Fn Try.prog 45 [.pointer (some ⟨b1000, 0, none⟩), .int .i64 a1] [⟨b1000, 95, [.slice Al0_0 l0_0.length cl0_0, .int .i64 a0_1, .int .i64 a0_2]⟩] [.sl 0 (.int .u8) Al0_0 cl0_0 l0_0 0 false] (fun v bx en => v = .bool r0 ∧ bx = [⟨b1000, 95, [.slice Al0_0 l0_0.length cl0_0, .int .i64 r1, .int .i64 r2]⟩] ∧ en = []) := by
 refine fn_ 9 Try.func45 rfl rfl rfl (fun base T w0 => ?_)
 rw [spec_l1Once.f] at H
 refine gs (rg (sv (EV.as rfl) rfl (re (gs (rg (sv (EV.mv rfl) rfl (sv (EV.mv rfl) rfl ?_)))))))
 revert H; refine bdI ?_; rintro ⟨t1_0, t1_1, t1_2⟩ A1 H
 refine so rfl (op_callM (spec_l1Below.ok b1000 l0_0 Al0_0 cl0_0 a0_1 a0_2 a1 _ _ _ A1) [⟨0, 0, 0, false⟩] [0] [] 1 rfl rfl rfl rfl rfl rfl rfl rfl ?_)
 rintro _ _ _ ⟨rfl, rfl, rfl⟩
 refine nmE (en := [.sl 0 (.int .u8) Al0_0 cl0_0 l0_0 0 false]) (by kernel_rfl) (sv (EV.eql rfl rfl) rfl (sv (EV.as rfl) rfl (re (pr [4] [0] [0] rfl rfl rfl rfl ?_))))
 cases H
 exact rt Try.func45 rfl (.tmp rfl .nil) rfl [0] [] rfl rfl rfl rfl rfl ⟨rfl, rfl, rfl⟩
def spec_l1PickInt.f (l0_0 : List Int) (a0_1 : Int) (a0_2 : Int) (l1 : List Int) : Option (Int × Int × Int) := (spec_l1Below.f l0_0 a0_1 a0_2 (l1.length : Int)).bind fun bt1 => (if 0 ≤ bt1.1 then (if bt1.1 < (l1.length : Int) then (some (rdOf 0 l1 bt1.1, bt1.2.1, bt1.2.2)) else none) else none)
set_option maxHeartbeats 4000000 in
set_option maxRecDepth 100000 in
theorem spec_l1PickInt.ok (b1000 : Nat) (l0_0 : List Int) (Al0_0 : Option Addr) (cl0_0 : Nat) (a0_1 : Int) (a0_2 : Int) (l1 : List Int) (Al1 : Option Addr) (cl1 : Nat) (r0 : Int) (r1 : Int) (r2 : Int) (H : spec_l1PickInt.f l0_0 a0_1 a0_2 l1 = some (r0, r1, r2)) : Fn Try.prog 79 [.pointer (some ⟨b1000, 0, none⟩), .slice Al1 l1.length cl1] [⟨b1000, 95, [.slice Al0_0 l0_0.length cl0_0, .int .i64 a0_1, .int .i64 a0_2]⟩] [.sl 0 (.int .u8) Al0_0 cl0_0 l0_0 0 false, .sl 0 (.int .i64) Al1 cl1 l1 0 false] (fun v bx en => v = .int .i64 r0 ∧ bx = [⟨b1000, 95, [.slice Al0_0 l0_0.length cl0_0, .int .i64 r1, .int .i64 r2]⟩] ∧ en = []) := by
 refine fn_ 12 Try.func79 rfl rfl rfl (fun base T w0 => ?_)
 rw [spec_l1PickInt.f] at H
 refine gs (rg (sv (EV.as rfl) rfl (re (gs (rg (sv (EV.mv rfl) rfl (sv (EV.mv rfl) rfl (sv (EV.mv rfl) rfl (sv (EV.ln rfl) rfl ?_)))))))))
 revert H; refine bdI ?_; rintro ⟨t1_0, t1_1, t1_2⟩ A1 H
 refine so rfl (op_callM (spec_l1Below.ok b1000 l0_0 Al0_0 cl0_0 a0_1 a0_2 (l1.length : Int) _ _ _ A1) [⟨0, 0, 0, false⟩] [0] [] 1 rfl rfl rfl rfl rfl rfl rfl rfl ?_)
 rintro _ _ _ ⟨rfl, rfl, rfl⟩
 refine nmE (en := [.sl 0 (.int .u8) Al0_0 cl0_0 l0_0 0 false, .sl 0 (.int .i64) Al1 cl1 l1 0 false]) (by kernel_rfl) ?_
 revert H; refine ggI ?_; intro g2 H
 revert H; refine ggI ?_; intro g3 H
 refine sv (EV.ix 1 rfl rfl rfl g2 g3 rfl) rfl (sv (EV.le (v := .int .i64 (rdOf 0 l1 t1_0)) t1_0 0 none 1 0 rfl rfl rfl g2 g3 rfl rfl rfl) rfl (sv (EV.as rfl) rfl (re (pr [4] [0] [0] rfl rfl rfl rfl ?_))))
 cases H
 exact rt Try.func79 rfl (.tmp rfl .nil) rfl [0] [] rfl rfl rfl rfl rfl ⟨rfl, rfl, rfl⟩
def spec_l2Row.f (l0_0 : List Int) (a0_1 : Int) (a0_2 : Int) (a1 : Int) : Option (Int × Int × Int × Int × Int) := (spec_l1Below.f l0_0 a0_1 a0_2 a1).bind fun bt1 => ((spec_l1Below.f l0_0 bt1.2.1 bt1.2.2 100).bind fun bt2 => ((spec_l1PickInt.f l0_0 bt2.2.1 bt2.2.2 ([0, 0, 1, 2, 3] : List Int)).bind fun bt4 => (some (bt1.1, bt2.1, bt4.1, bt4.2.1, bt4.2.2))))
set_option maxHeartbeats 4000000 in
set_option maxRecDepth 100000 in
theorem spec_l2Row.ok (b1000 : Nat) (l0_0 : List Int) (Al0_0 : Option Addr) (cl0_0 : Nat) (a0_1 : Int) (a0_2 : Int) (a1 : Int) (r0 : Int) (r1 : Int) (r2 : Int) (r3 : Int) (r4 : Int) (H : spec_l2Row.f l0_0 a0_1 a0_2 a1 = some (r0, r1, r2, r3, r4)) : Fn Try.prog 93 [.pointer (some ⟨b1000, 0, none⟩), .int .i64 a1] [⟨b1000, 95, [.slice Al0_0 l0_0.length cl0_0, .int .i64 a0_1, .int .i64 a0_2]⟩] [.sl 0 (.int .u8) Al0_0 cl0_0 l0_0 0 false] (fun v bx en => v = .agg #[.int .i64 r0, .int .i64 r1, .int .i64 r2] ∧ bx = [⟨b1000, 95, [.slice Al0_0 l0_0.length cl0_0, .int .i64 r3, .int .i64 r4]⟩] ∧ en = []) := by
 refine fn_ 14 Try.func93 rfl rfl rfl (fun base T w0 => ?_)
 rw [spec_l2Row.f] at H
 refine gs (rg (so rfl (op_alloc (cs := [.int .i64 0, .int .i64 0, .int .i64 0]) (by kernel_rfl) rfl fun b4 => (re (gs (rg (sv (EV.mv rfl) rfl (sv (EV.mv rfl) rfl ?_))))))))
 revert H; refine bdI ?_; rintro ⟨t1_0, t1_1, t1_2⟩ A1 H
 refine so rfl (op_callM (spec_l1Below.ok b1000 l0_0 Al0_0 cl0_0 a0_1 a0_2 a1 _ _ _ A1) [⟨0, 0, 0, false⟩] [0] [1] 1 rfl rfl rfl rfl rfl rfl rfl rfl ?_)
 rintro _ _ _ ⟨rfl, rfl, rfl⟩
 refine nmE (en := [.sl 0 (.int .u8) Al0_0 cl0_0 l0_0 0 false]) (by kernel_rfl) (sv (EV.mv rfl) rfl ?_)
 revert H; refine bdI ?_; rintro ⟨t2_0, t2_1, t2_2⟩ A2 H
 refine so rfl (op_callM (spec_l1Below.ok b1000 l0_0 Al0_0 cl0_0 t1_1 t1_2 100 _ _ _ A2) [⟨0, 0, 0, false⟩] [1] [0] 1 rfl rfl rfl rfl rfl rfl rfl rfl ?_)
 rintro _ _ _ ⟨rfl, rfl, rfl⟩
 refine nmE (en := [.sl 0 (.int .u8) Al0_0 cl0_0 l0_0 0 false]) (by kernel_rfl) (sv (EV.mv rfl) rfl (so rfl (op_lit (s := 1) (by_ := 8) (.int .i64) ([0, 0, 1, 2, 3] : List Int) [[], [], [], [], []] [] 1 [.const (.int .i64 0), .const (.int .i64 0), .const (.int .i64 1), .const (.int .i64 2), .const (.int .i64 3)] rfl rfl rfl rfl rfl rfl rfl rfl rfl rfl rfl rfl rfl dq rfl fun A11_3 c11_3 => ?_)))
 revert H; refine bdI ?_; rintro ⟨t4_0, t4_1, t4_2⟩ A4 H
 refine so rfl (op_callM (spec_l1PickInt.ok b1000 l0_0 Al0_0 cl0_0 t2_1 t2_2 ([0, 0, 1, 2, 3] : List Int) A11_3 c11_3 _ _ _ A4) [⟨0, 0, 0, false⟩, ⟨1, 0, 0, false⟩] [1] [0] 2 rfl rfl rfl rfl rfl rfl rfl rfl ?_)
 rintro _ _ _ ⟨rfl, rfl, rfl⟩
 refine nmE (en := [.sl 0 (.int .u8) Al0_0 cl0_0 l0_0 0 false, .sl 2 (.int .i64) A11_3 c11_3 ([0, 0, 1, 2, 3] : List Int) 1 true]) (by kernel_rfl) (sv (EV.bd (v := .agg #[.int .i64 t1_0, .int .i64 t2_0, .int .i64 t4_0]) rfl (by kernel_rfl)) rfl (so rfl (op_st (cs' := [.int .i64 t1_0, .int .i64 t2_0, .int .i64 t4_0]) 0 rfl rfl rfl rfl rfl rfl (re (pr [4] [0, 1] [0] rfl rfl rfl rfl ?_)))))
 cases H
 exact rt Try.func93 rfl (.cell 0 (some 3) rfl rfl rfl .nil) rfl [1] [] rfl rfl rfl rfl rfl ⟨rfl, rfl, rfl⟩
def spec_l2Rows.l0 : Nat → (List S75) → Int → Int → Int → Int → (List Int) → Option ((List S75) × Int × Int)
 | 0, _, _, _, _, _, _ => none
 | k + 1, x2_5, x2_6, x2_7, x2_1000_1, x2_1000_2, l0_0 => if x2_7 > 0 then ((spec_l2Row.f l0_0 x2_1000_1 x2_1000_2 x2_6).bind fun bt6 => (if x2_5.length < 5864062014805 then (spec_l2Rows.l0 k (x2_5 ++ ([(⟨bt6.1, bt6.2.1, bt6.2.2.1⟩ : S75)] : List S75)) x2_6 (wrap64 (x2_7 - 1)) bt6.2.2.2.1 bt6.2.2.2.2 l0_0) else none)) else (some (x2_5, x2_1000_1, x2_1000_2))
def spec_l2Rows.f (k : Nat) (l0_0 : List Int) (a0_1 : Int) (a0_2 : Int) (a1 : Int) : Option ((List S75) × Int × Int) := (spec_l1PickInt.f l0_0 a0_1 a0_2 ([1, 2, 4, 10] : List Int)).bind fun bt3 => ((spec_l1Below.f l0_0 bt3.2.1 bt3.2.2 (wrap64 (a1 + 1))).bind fun bt4 => (spec_l2Rows.l0 k [] bt3.1 bt4.1 bt4.2.1 bt4.2.2 l0_0))
set_option maxHeartbeats 4000000 in
set_option maxRecDepth 100000 in
theorem spec_l2Rows.ok (k : Nat) (b1000 : Nat) (l0_0 : List Int) (Al0_0 : Option Addr) (cl0_0 : Nat) (a0_1 : Int) (a0_2 : Int) (a1 : Int) (r0 : List S75) (r1 : Int) (r2 : Int) (H : spec_l2Rows.f k l0_0 a0_1 a0_2 a1 = some (r0, r1, r2)) : Fn Try.prog 77 [.pointer (some ⟨b1000, 0, none⟩), .int .i64 a1] [⟨b1000, 95, [.slice Al0_0 l0_0.length cl0_0, .int .i64 a0_1, .int .i64 a0_2]⟩] [.sl 0 (.int .u8) Al0_0 cl0_0 l0_0 0 false] (fun v bx en => ∃ A0 c0, v = .slice A0 r0.length c0 ∧ bx = [⟨b1000, 95, [.slice Al0_0 l0_0.length cl0_0, .int .i64 r1, .int .i64 r2]⟩] ∧ en = [.sl 2 k75 A0 c0 r0 1 true]) := by
 refine fn_ 27 Try.func77 rfl rfl rfl (fun base T w0 => ?_)
 rw [spec_l2Rows.f] at H
 refine gs (rg (sv (EV.as rfl) rfl (re (gs (rg (so rfl (op_lit (s := 3) (by_ := 24) k75 ([] : List S75) [] [] 1 [] rfl rfl rfl rfl rfl rfl rfl rfl rfl rfl rfl rfl rfl dq rfl fun A8_1 c8_1 => (sv (EV.as rfl) rfl (re (gs (rg (sv (EV.mv rfl) rfl (so rfl (op_lit (s := 1) (by_ := 8) (.int .i64) ([1, 2, 4, 10] : List Int) [[], [], [], []] [] 2 [.const (.int .i64 1), .const (.int .i64 2), .const (.int .i64 4), .const (.int .i64 10)] rfl rfl rfl rfl rfl rfl rfl rfl rfl rfl rfl rfl rfl dq rfl fun A10_2 c10_2 => ?_))))))))))))))
 revert H; refine bdI ?_; rintro ⟨t3_0, t3_1, t3_2⟩ A3 H
 refine so rfl (op_callM (spec_l1PickInt.ok b1000 l0_0 Al0_0 cl0_0 a0_1 a0_2 ([1, 2, 4, 10] : List Int) A10_2 c10_2 _ _ _ A3) [⟨0, 0, 0, false⟩, ⟨2, 0, 0, false⟩] [0] [] 3 rfl rfl rfl rfl rfl rfl rfl rfl ?_)
 rintro _ _ _ ⟨rfl, rfl, rfl⟩
 refine nmE (en := [.sl 0 (.int .u8) Al0_0 cl0_0 l0_0 0 false, .sl 2 k75 A8_1 c8_1 [] 1 true, .sl 2 (.int .i64) A10_2 c10_2 ([1, 2, 4, 10] : List Int) 2 true]) (by kernel_rfl) (sv (EV.as rfl) rfl (re (gs (gs (rg (sv (EV.mv rfl) rfl (sv (EV.mv rfl) rfl (sv (EV.add rfl rfl) rfl ?_))))))))
 revert H; refine bdI ?_; rintro ⟨t4_0, t4_1, t4_2⟩ A4 H
 refine so rfl (op_callM (spec_l1Below.ok b1000 l0_0 Al0_0 cl0_0 t3_1 t3_2 (wrap64 (a1 + 1)) _ _ _ A4) [⟨0, 0, 0, false⟩] [0] [] 3 rfl rfl rfl rfl rfl rfl rfl rfl ?_)
 rintro _ _ _ ⟨rfl, rfl, rfl⟩
 refine nmE (en := [.sl 0 (.int .u8) Al0_0 cl0_0 l0_0 0 false, .sl 2 k75 A8_1 c8_1 [] 1 true, .sl 2 (.int .i64) A10_2 c10_2 ([1, 2, 4, 10] : List Int) 2 true]) (by kernel_rfl) (sv (EV.as rfl) rfl (re (pr [0, 5, 6, 7] [0] [0, 1] rfl rfl rfl rfl (gb ?_))))
 refine lo (fun kk S => ∃ (x2_5 : List S75) (Ax2_5 : Option Addr) (cx2_5 : Nat) (x2_6 : Int) (x2_7 : Int) (x2_1000_1 : Int) (x2_1000_2 : Int), spec_l2Rows.l0 kk x2_5 x2_6 x2_7 x2_1000_1 x2_1000_2 l0_0 = some (r0, r1, r2) ∧ S = ⟨[(0, .pointer (some ⟨b1000, 0, none⟩)), (5, .slice Ax2_5 x2_5.length cx2_5), (6, .int .i64 x2_6), (7, .int .i64 x2_7)], [⟨b1000, 95, [.slice Al0_0 l0_0.length cl0_0, .int .i64 x2_1000_1, .int .i64 x2_1000_2]⟩], [.sl 2 k75 Ax2_5 cx2_5 x2_5 1 true, .sl 0 (.int .u8) Al0_0 cl0_0 l0_0 0 false]⟩) (fun S hS => ?_) (fun n0 ih0 S hS => ?_) ⟨[], A8_1, c8_1, t3_0, t4_0, t4_1, t4_2, H, rfl⟩ (fun h => wk [0, 5, 6, 7] [0] [⟨1, 2, 1, true⟩, ⟨0, 0, 0, false⟩] h)
 · clear H; obtain ⟨_, _, _, _, _, _, _, H, _⟩ := hS; rw [spec_l2Rows.l0] at H; cases H
 clear H
 obtain ⟨x2_5, Ax2_5, cx2_5, x2_6, x2_7, x2_1000_1, x2_1000_2, H, rfl⟩ := hS
 rw [spec_l2Rows.l0] at H
 refine gs (gs (rg (sv (EV.mv rfl) rfl (sv (EV.gtr rfl rfl) rfl (re ?_)))))
 revert H; refine ifsI ?_ ?_ <;> intro c5 H
 ·
  refine gt rfl (dT c5) (gk (gs (gb (rg (sv (EV.mv rfl) rfl (sv (EV.mv rfl) rfl (sv (EV.mv rfl) rfl ?_)))))))
  revert H; refine bdI ?_; rintro ⟨t6_0, t6_1, t6_2, t6_3, t6_4⟩ A6 H
  refine so rfl (op_callM (spec_l2Row.ok b1000 l0_0 Al0_0 cl0_0 x2_1000_1 x2_1000_2 x2_6 _ _ _ _ _ A6) [⟨1, 0, 0, false⟩] [0] [] 2 rfl rfl rfl rfl rfl rfl rfl rfl ?_)
  rintro _ _ _ ⟨rfl, rfl, rfl⟩
  refine nmE (en := [.sl 2 k75 Ax2_5 cx2_5 x2_5 1 true, .sl 0 (.int .u8) Al0_0 cl0_0 l0_0 0 false]) (by kernel_rfl) (so rfl (op_lit (s := 3) (by_ := 24) k75 ([(⟨t6_0, t6_1, t6_2⟩ : S75)] : List S75) [[]] [] 2 [.tmp 23] rfl rfl rfl rfl rfl rfl rfl rfl rfl rfl rfl rfl rfl dq rfl fun A24_7 c24_7 => ?_))
  revert H; refine ggI ?_; intro g8 H
  exact so rfl (op_app (k := k75) (s := 3) (by_ := 24) 0 2 rfl rfl rfl rfl (ap1 g8 dq) (ap1n g8 dq) (.inl rfl) true (fun _ => .inl rfl) rfl rfl fun A25_9 c25_9 => (nmE (en := [.sl 0 (.int .u8) Al0_0 cl0_0 l0_0 0 false, .sl 2 k75 A24_7 c24_7 ([(⟨t6_0, t6_1, t6_2⟩ : S75)] : List S75) 2 true, .sl 2 k75 A25_9 c25_9 (x2_5 ++ ([(⟨t6_0, t6_1, t6_2⟩ : S75)] : List S75)) 1 true]) (by kernel_rfl) (sv (EV.as rfl) rfl (re (pr [0, 5, 6, 7] [0] [0, 2] rfl rfl rfl rfl (ge (rg (sv (EV.mv rfl) rfl (sv (EV.sub rfl rfl) rfl (sv (EV.as rfl) rfl (re (wk [0, 5, 6, 7] [0] [⟨1, 2, 1, true⟩, ⟨0, 0, 0, false⟩] (ih0 _ (by omega) _ ⟨x2_5 ++ ([(⟨t6_0, t6_1, t6_2⟩ : S75)] : List S75), A25_9, c25_9, x2_6, wrap64 (x2_7 - 1), t6_3, t6_4, H, rfl⟩)))))))))))))
 ·
  refine gf rfl (dF c5) (gx rfl (gs (rg (sv (EV.mv rfl) rfl (sv (EV.as rfl) rfl (re (pr [4] [0] [0, 1] rfl rfl rfl rfl ?_)))))))
  cases H
  exact rt Try.func77 rfl (.tmp rfl .nil) rfl [0] [⟨0, 2, 1, true⟩] rfl rfl rfl rfl rfl ⟨_, _, rfl, rfl, rfl⟩
def spec_l2Any.f (l0_0 : List Int) (a0_1 : Int) (a0_2 : Int) : Option (Int × Int × Int × Int × Int) := (spec_l2Row.f l0_0 a0_1 a0_2 10).bind fun bt1 => ((spec_l1Below.f l0_0 bt1.2.2.2.1 bt1.2.2.2.2 8).bind fun bt2 => (if bt2.1 = 0 then ((spec_l1PickInt.f l0_0 bt2.2.1 bt2.2.2 ([(-1), 10] : List Int)).bind fun bt5 => (some (bt5.1, bt1.2.1, bt1.2.2.1, bt5.2.1, bt5.2.2))) else (if bt2.1 = 1 then ((spec_l1PickInt.f l0_0 bt2.2.1 bt2.2.2 ([(-1), 100, 99] : List Int)).bind fun bt8 => (some (bt1.1, bt8.1, bt1.2.2.1, bt8.2.1, bt8.2.2))) else (if bt2.1 = 2 then ((spec_l1PickInt.f l0_0 bt2.2.1 bt2.2.2 ([(-1), 4] : List Int)).bind fun bt11 => (some (bt1.1, bt1.2.1, bt11.1, bt11.2.1, bt11.2.2))) else (some (bt1.1, bt1.2.1, bt1.2.2.1, bt2.2.1, bt2.2.2))))))
set_option maxHeartbeats 4000000 in
set_option maxRecDepth 100000 in
theorem spec_l2Any.ok (b1000 : Nat) (l0_0 : List Int) (Al0_0 : Option Addr) (cl0_0 : Nat) (a0_1 : Int) (a0_2 : Int) (r0 : Int) (r1 : Int) (r2 : Int) (r3 : Int) (r4 : Int) (H : spec_l2Any.f l0_0 a0_1 a0_2 = some (r0, r1, r2, r3, r4)) : Fn Try.prog 78 [.pointer (some ⟨b1000, 0, none⟩)] [⟨b1000, 95, [.slice Al0_0 l0_0.length cl0_0, .int .i64 a0_1, .int .i64 a0_2]⟩] [.sl 0 (.int .u8) Al0_0 cl0_0 l0_0 0 false] (fun v bx en => v = .agg #[.int .i64 r0, .int .i64 r1, .int .i64 r2] ∧ bx = [⟨b1000, 95, [.slice Al0_0 l0_0.length cl0_0, .int .i64 r3, .int .i64 r4]⟩] ∧ en = []) := by
 refine fn_ 27 Try.func78 rfl rfl rfl (fun base T w0 => ?_)
 rw [spec_l2Any.f] at H
 refine gs (rg (so rfl (op_alloc (cs := [.int .i64 0, .int .i64 0, .int .i64 0]) (by kernel_rfl) rfl fun b2 => (re (gs (rg (sv (EV.mv rfl) rfl ?_)))))))
 revert H; refine bdI ?_; rintro ⟨t1_0, t1_1, t1_2, t1_3, t1_4⟩ A1 H
 refine so rfl (op_callM (spec_l2Row.ok b1000 l0_0 Al0_0 cl0_0 a0_1 a0_2 10 _ _ _ _ _ A1) [⟨0, 0, 0, false⟩] [0] [1] 1 rfl rfl rfl rfl rfl rfl rfl rfl ?_)
 rintro _ _ _ ⟨rfl, rfl, rfl⟩
 refine nmE (en := [.sl 0 (.int .u8) Al0_0 cl0_0 l0_0 0 false]) (by kernel_rfl) (so rfl (op_alloc (cs := [.int .i64 0, .int .i64 0, .int .i64 0]) (by kernel_rfl) rfl fun b3 => (so rfl (op_st (cs' := [.int .i64 t1_0, .int .i64 t1_1, .int .i64 t1_2]) 2 rfl rfl rfl rfl rfl rfl (re (gs (gs (rg (sv (EV.mv rfl) rfl ?_)))))))))
 revert H; refine bdI ?_; rintro ⟨t2_0, t2_1, t2_2⟩ A2 H
 refine so rfl (op_callM (spec_l1Below.ok b1000 l0_0 Al0_0 cl0_0 t1_3 t1_4 8 _ _ _ A2) [⟨0, 0, 0, false⟩] [1] [0, 2] 1 rfl rfl rfl rfl rfl rfl rfl rfl ?_)
 rintro _ _ _ ⟨rfl, rfl, rfl⟩
 refine nmE (en := [.sl 0 (.int .u8) Al0_0 cl0_0 l0_0 0 false]) (by kernel_rfl) (re (gb (gs (rg (sv (EV.eql rfl rfl) rfl (sv (EV.as rfl) rfl (re ?_)))))))
 revert H; refine ifsI ?_ ?_ <;> intro c3 H
 ·
  refine gt rfl (dT c3) (rg (sv (EV.mv rfl) rfl (so rfl (op_lit (s := 1) (by_ := 8) (.int .i64) ([(-1), 10] : List Int) [[], []] [] 1 [.const (.int .i64 (-1)), .const (.int .i64 10)] rfl rfl rfl rfl rfl rfl rfl rfl rfl rfl rfl rfl rfl dq rfl fun A11_4 c11_4 => ?_))))
  revert H; refine bdI ?_; rintro ⟨t5_0, t5_1, t5_2⟩ A5 H
  refine so rfl (op_callM (spec_l1PickInt.ok b1000 l0_0 Al0_0 cl0_0 t2_1 t2_2 ([(-1), 10] : List Int) A11_4 c11_4 _ _ _ A5) [⟨0, 0, 0, false⟩, ⟨1, 0, 0, false⟩] [2] [0, 1] 2 rfl rfl rfl rfl rfl rfl rfl rfl ?_)
  rintro _ _ _ ⟨rfl, rfl, rfl⟩
  refine nmE (en := [.sl 0 (.int .u8) Al0_0 cl0_0 l0_0 0 false, .sl 2 (.int .i64) A11_4 c11_4 ([(-1), 10] : List Int) 1 true]) (by kernel_rfl) (sv (EV.fa 0 rfl) rfl (so rfl (op_st (cs' := [.int .i64 t5_0, .int .i64 t1_1, .int .i64 t1_2]) 1 rfl rfl rfl rfl rfl rfl (re (pr [2, 3] [0, 1, 2] [0] rfl rfl rfl rfl (ge (gs (rg (sv (EV.ld (v := .agg #[.int .i64 t5_0, .int .i64 t1_1, .int .i64 t1_2]) 1 (some 3) rfl rfl rfl) rfl (so rfl (op_st (cs' := [.int .i64 t5_0, .int .i64 t1_1, .int .i64 t1_2]) 0 rfl rfl rfl rfl rfl rfl (re ?_))))))))))))
  cases H
  exact rt Try.func78 rfl (.cell 0 (some 3) rfl rfl rfl .nil) rfl [2] [] rfl rfl rfl rfl rfl ⟨rfl, rfl, rfl⟩
 ·
  refine gf rfl (dF c3) (gs (rg (sv (EV.eql rfl rfl) rfl (sv (EV.as rfl) rfl (re (pr [0, 2, 3, 7, 14] [0, 1, 2] [0] rfl rfl rfl rfl ?_))))))
  revert H; refine ifsI ?_ ?_ <;> intro c6 H
  ·
   refine gt rfl (dT c6) (rg (sv (EV.mv rfl) rfl (so rfl (op_lit (s := 1) (by_ := 8) (.int .i64) ([(-1), 100, 99] : List Int) [[], [], []] [] 1 [.const (.int .i64 (-1)), .const (.int .i64 100), .const (.int .i64 99)] rfl rfl rfl rfl rfl rfl rfl rfl rfl rfl rfl rfl rfl dq rfl fun A17_7 c17_7 => ?_))))
   revert H; refine bdI ?_; rintro ⟨t8_0, t8_1, t8_2⟩ A8 H
   refine so rfl (op_callM (spec_l1PickInt.ok b1000 l0_0 Al0_0 cl0_0 t2_1 t2_2 ([(-1), 100, 99] : List Int) A17_7 c17_7 _ _ _ A8) [⟨0, 0, 0, false⟩, ⟨1, 0, 0, false⟩] [2] [0, 1] 2 rfl rfl rfl rfl rfl rfl rfl rfl ?_)
   rintro _ _ _ ⟨rfl, rfl, rfl⟩
   refine nmE (en := [.sl 0 (.int .u8) Al0_0 cl0_0 l0_0 0 false, .sl 2 (.int .i64) A17_7 c17_7 ([(-1), 100, 99] : List Int) 1 true]) (by kernel_rfl) (sv (EV.fa 1 rfl) rfl (so rfl (op_st (cs' := [.int .i64 t1_0, .int .i64 t8_0, .int .i64 t1_2]) 1 rfl rfl rfl rfl rfl rfl (re (pr [2, 3] [0, 1, 2] [0] rfl rfl rfl rfl (ge (gs (rg (sv (EV.ld (v := .agg #[.int .i64 t1_0, .int .i64 t8_0, .int .i64 t1_2]) 1 (some 3) rfl rfl rfl) rfl (so rfl (op_st (cs' := [.int .i64 t1_0, .int .i64 t8_0, .int .i64 t1_2]) 0 rfl rfl rfl rfl rfl rfl (re ?_))))))))))))
   cases H
   exact rt Try.func78 rfl (.cell 0 (some 3) rfl rfl rfl .nil) rfl [2] [] rfl rfl rfl rfl rfl ⟨rfl, rfl, rfl⟩
  ·
   refine gf rfl (dF c6) (gs (rg (sv (EV.eql rfl rfl) rfl (sv (EV.as rfl) rfl (re ?_)))))
   revert H; refine ifsI ?_ ?_ <;> intro c9 H
   ·
    refine gt rfl (dT c9) (rg (sv (EV.mv rfl) rfl (so rfl (op_lit (s := 1) (by_ := 8) (.int .i64) ([(-1), 4] : List Int) [[], []] [] 1 [.const (.int .i64 (-1)), .const (.int .i64 4)] rfl rfl rfl rfl rfl rfl rfl rfl rfl rfl rfl rfl rfl dq rfl fun A23_10 c23_10 => ?_))))
    revert H; refine bdI ?_; rintro ⟨t11_0, t11_1, t11_2⟩ A11 H
    refine so rfl (op_callM (spec_l1PickInt.ok b1000 l0_0 Al0_0 cl0_0 t2_1 t2_2 ([(-1), 4] : List Int) A23_10 c23_10 _ _ _ A11) [⟨0, 0, 0, false⟩, ⟨1, 0, 0, false⟩] [2] [0, 1] 2 rfl rfl rfl rfl rfl rfl rfl rfl ?_)
    rintro _ _ _ ⟨rfl, rfl, rfl⟩
    refine nmE (en := [.sl 0 (.int .u8) Al0_0 cl0_0 l0_0 0 false, .sl 2 (.int .i64) A23_10 c23_10 ([(-1), 4] : List Int) 1 true]) (by kernel_rfl) (sv (EV.fa 2 rfl) rfl (so rfl (op_st (cs' := [.int .i64 t1_0, .int .i64 t1_1, .int .i64 t11_0]) 1 rfl rfl rfl rfl rfl rfl (re (pr [2, 3] [0, 1, 2] [0] rfl rfl rfl rfl (ge (gs (rg (sv (EV.ld (v := .agg #[.int .i64 t1_0, .int .i64 t1_1, .int .i64 t11_0]) 1 (some 3) rfl rfl rfl) rfl (so rfl (op_st (cs' := [.int .i64 t1_0, .int .i64 t1_1, .int .i64 t11_0]) 0 rfl rfl rfl rfl rfl rfl (re ?_))))))))))))
    cases H
    exact rt Try.func78 rfl (.cell 0 (some 3) rfl rfl rfl .nil) rfl [2] [] rfl rfl rfl rfl rfl ⟨rfl, rfl, rfl⟩
   ·
    refine gf rfl (dF c9) (gk (ge (gs (rg (sv (EV.ld (v := .agg #[.int .i64 t1_0, .int .i64 t1_1, .int .i64 t1_2]) 1 (some 3) rfl rfl rfl) rfl (so rfl (op_st (cs' := [.int .i64 t1_0, .int .i64 t1_1, .int .i64 t1_2]) 0 rfl rfl rfl rfl rfl rfl (re (pr [2] [0, 2] [0] rfl rfl rfl rfl ?_)))))))))
    cases H
    exact rt Try.func78 rfl (.cell 0 (some 3) rfl rfl rfl .nil) rfl [1] [] rfl rfl rfl rfl rfl ⟨rfl, rfl, rfl⟩
def spec_l2Bent.f (k : Nat) (l0_0 : List Int) (a0_1 : Int) (a0_2 : Int) (a1 : Int) : Option ((List S75) × Int × Int) := (spec_l2Rows.f k l0_0 a0_1 a0_2 a1).bind fun bt1 => ((spec_l1Once.f l0_0 bt1.2.1 bt1.2.2 14).bind fun bt2 => (if bt2.1 = true then ((spec_l2Any.f l0_0 bt2.2.1 bt2.2.2).bind fun bt4 => (if bt1.1.length < 5864062014805 then (some (bt1.1 ++ ([(⟨bt4.1, bt4.2.1, bt4.2.2.1⟩ : S75)] : List S75), bt4.2.2.2.1, bt4.2.2.2.2)) else none)) else (some (bt1.1, bt2.2.1, bt2.2.2))))
set_option maxHeartbeats 4000000 in
set_option maxRecDepth 100000 in
theorem spec_l2Bent.ok (k : Nat) (b1000 : Nat) (l0_0 : List Int) (Al0_0 : Option Addr) (cl0_0 : Nat) (a0_1 : Int) (a0_2 : Int) (a1 : Int) (r0 : List S75) (r1 : Int) (r2 : Int) (H : spec_l2Bent.f k l0_0 a0_1 a0_2 a1 = some (r0, r1, r2)) : Fn Try.prog 44 [.pointer (some ⟨b1000, 0, none⟩), .int .i64 a1] [⟨b1000, 95, [.slice Al0_0 l0_0.length cl0_0, .int .i64 a0_1, .int .i64 a0_2]⟩] [.sl 0 (.int .u8) Al0_0 cl0_0 l0_0 0 false] (fun v bx en => ∃ A0 c0, v = .slice A0 r0.length c0 ∧ bx = [⟨b1000, 95, [.slice Al0_0 l0_0.length cl0_0, .int .i64 r1, .int .i64 r2]⟩] ∧ en = [.sl 2 k75 A0 c0 r0 1 true]) := by
 refine fn_ 17 Try.func44 rfl rfl rfl (fun base T w0 => ?_)
 rw [spec_l2Bent.f] at H
 refine gs (rg (sv (EV.as rfl) rfl (re (gs (rg (sv (EV.mv rfl) rfl (sv (EV.mv rfl) rfl ?_)))))))
 revert H; refine bdI ?_; rintro ⟨t1_0, t1_1, t1_2⟩ A1 H
 refine so rfl (op_callM (spec_l2Rows.ok k b1000 l0_0 Al0_0 cl0_0 a0_1 a0_2 a1 _ _ _ A1) [⟨0, 0, 0, false⟩] [0] [] 1 rfl rfl rfl rfl rfl rfl rfl rfl ?_)
 rintro _ _ _ ⟨At1_0, ct1_0, rfl, rfl, rfl⟩
 refine nmE (en := [.sl 0 (.int .u8) Al0_0 cl0_0 l0_0 0 false, .sl 2 k75 At1_0 ct1_0 t1_0 2 true]) (by kernel_rfl) (sv (EV.as rfl) rfl (re (gs (gs (rg (sv (EV.mv rfl) rfl ?_))))))
 revert H; refine bdI ?_; rintro ⟨t2_0, t2_1, t2_2⟩ A2 H
 refine so rfl (op_callM (spec_l1Once.ok b1000 l0_0 Al0_0 cl0_0 t1_1 t1_2 14 _ _ _ A2) [⟨0, 0, 0, false⟩] [0] [] 3 rfl rfl rfl rfl rfl rfl rfl rfl ?_)
 rintro _ _ _ ⟨rfl, rfl, rfl⟩
 refine nmE (en := [.sl 0 (.int .u8) Al0_0 cl0_0 l0_0 0 false, .sl 2 k75 At1_0 ct1_0 t1_0 2 true]) (by kernel_rfl) (re (pr [0, 5, 10] [0] [0, 1] rfl rfl rfl rfl ?_))
 revert H; refine ifsI ?_ ?_ <;> intro c3 H
 ·
  subst c3
  refine gt rfl rfl (rg (sv (EV.mv rfl) rfl (sv (EV.mv rfl) rfl ?_)))
  revert H; refine bdI ?_; rintro ⟨t4_0, t4_1, t4_2, t4_3, t4_4⟩ A4 H
  refine so rfl (op_callM (spec_l2Any.ok b1000 l0_0 Al0_0 cl0_0 t2_1 t2_2 _ _ _ _ _ A4) [⟨0, 0, 0, false⟩] [0] [] 3 rfl rfl rfl rfl rfl rfl rfl rfl ?_)
  rintro _ _ _ ⟨rfl, rfl, rfl⟩
  refine nmE (en := [.sl 0 (.int .u8) Al0_0 cl0_0 l0_0 0 false, .sl 2 k75 At1_0 ct1_0 t1_0 2 true]) (by kernel_rfl) (so rfl (op_lit (s := 3) (by_ := 24) k75 ([(⟨t4_0, t4_1, t4_2⟩ : S75)] : List S75) [[]] [] 3 [.tmp 13] rfl rfl rfl rfl rfl rfl rfl rfl rfl rfl rfl rfl rfl dq rfl fun A14_5 c14_5 => ?_))
  revert H; refine ggI ?_; intro g6 H
  refine so rfl (op_app (k := k75) (s := 3) (by_ := 24) 1 2 rfl rfl rfl rfl (ap1 g6 dq) (ap1n g6 dq) (.inl rfl) true (fun _ => .inl rfl) rfl rfl fun A15_7 c15_7 => (nmE (en := [.sl 0 (.int .u8) Al0_0 cl0_0 l0_0 0 false, .sl 2 k75 A14_5 c14_5 ([(⟨t4_0, t4_1, t4_2⟩ : S75)] : List S75) 3 true, .sl 2 k75 A15_7 c15_7 (t1_0 ++ ([(⟨t4_0, t4_1, t4_2⟩ : S75)] : List S75)) 2 true]) (by kernel_rfl) (sv (EV.as rfl) rfl (re (pr [5] [0] [0, 2] rfl rfl rfl rfl (gs (rg (sv (EV.mv rfl) rfl (sv (EV.as rfl) rfl (re ?_))))))))))
  cases H
  exact rt Try.func44 rfl (.tmp rfl .nil) rfl [0] [⟨1, 2, 1, true⟩] rfl rfl rfl rfl rfl ⟨_, _, rfl, rfl, rfl⟩
 ·
  obtain rfl := bF c3
  refine gf rfl rfl (gk (gs (rg (sv (EV.mv rfl) rfl (sv (EV.as rfl) rfl (re ?_))))))
  cases H
  exact rt Try.func44 rfl (.tmp rfl .nil) rfl [0] [⟨1, 2, 1, true⟩] rfl rfl rfl rfl rfl ⟨_, _, rfl, rfl, rfl⟩
def spec_NewAggregator.f (k : Nat) (l0 : List S75) (a1 : Bool) : Option ((List S64) × Int × Bool × Bool) := (spec_AreValidRows.f k l0).bind fun t1 => (if t1 = true then (if l0.length ≤ 5864062014805 then (some (([(⟨l0, 0⟩ : S64)] : List S64), 0, a1, true)) else none) else (some ([], 0, false, false)))
set_option maxHeartbeats 4000000 in
set_option maxRecDepth 100000 in
theorem spec_NewAggregator.ok (k : Nat) (l0 : List S75) (Al0 : Option Addr) (cl0 : Nat) (a1 : Bool) (r0 : List S64) (r1 : Int) (r2 : Bool) (r3 : Bool) (H : spec_NewAggregator.f k l0 a1 = some (r0, r1, r2, r3)) : Fn Try.prog 50 [.slice Al0 l0.length cl0, .bool a1] [] [.sl 0 k75 Al0 cl0 l0 0 false] (fun v bx en => ∃ A0 c0, v = .tuple #[.agg #[.slice A0 r0.length c0, .int .i64 r1, .bool r2], .bool r3] ∧ bx = [] ∧ en = [.sl 2 k64 A0 c0 r0 1 true]) := by
 refine fn_ 17 Try.func50 rfl rfl rfl (fun base T w0 => ?_)
 rw [spec_NewAggregator.f] at H
 refine gs (rg (so rfl (op_alloc (cs := [.slice none 0 0, .int .i64 0, .bool false]) (by kernel_rfl) rfl fun b4 => (sv (EV.as rfl) rfl (re (gs (gs (rg (sv (EV.mv rfl) rfl ?_)))))))))
 revert H; refine bdI ?_; rintro t1 A1 H
 refine so rfl (op_call (spec_AreValidRows.ok k l0 Al0 cl0 _ A1) [⟨0, 0, 0, false⟩] 1 rfl rfl rfl rfl rfl ?_)
 rintro _ _ _ ⟨rfl, rfl, rfl⟩
 refine sv (EV.nt rfl) rfl (re ?_)
 revert H; refine ifsI ?_ ?_ <;> intro c2 H
 ·
  subst c2
  refine gf rfl rfl (gk (gs (rg (so rfl (op_lit (s := 3) (by_ := 24) k75 ([] : List S75) [] [] 1 [] rfl rfl rfl rfl rfl rfl rfl rfl rfl rfl rfl rfl rfl dq rfl fun A10_3 c10_3 => (sv (EV.mv rfl) rfl ?_))))))
  revert H; refine ggI ?_; intro g4 H
  refine so rfl (op_app (k := k75) (s := 3) (by_ := 24) 1 0 rfl rfl rfl rfl (ap0 g4 dq) (ap0n g4 dq) (.inl rfl) true (fun _ => .inl rfl) rfl rfl fun A12_5 c12_5 => (nmE (en := [.sl 0 k75 Al0 cl0 l0 0 false, .sl 2 k75 A12_5 c12_5 l0 1 true]) (by kernel_rfl) (sv (EV.bd (v := .agg #[.slice A12_5 l0.length c12_5, .int .i64 0]) rfl (by kernel_rfl)) rfl (so rfl (op_lit (s := 2) (by_ := 32) k64 ([(⟨l0, 0⟩ : S64)] : List S64) [[(A12_5, c12_5)]] [1] 2 [.tmp 13] rfl rfl rfl rfl rfl rfl rfl rfl rfl rfl rfl rfl rfl dq rfl fun A14_6 c14_6 => (nmE (en := [.sl 0 k75 Al0 cl0 l0 0 false, .sl 2 k75 A12_5 c12_5 l0 2 true, .sl 2 k64 A14_6 c14_6 ([(⟨l0, 0⟩ : S64)] : List S64) 2 true]) (by kernel_rfl) (sv (EV.mv rfl) rfl (sv (EV.bd (v := .agg #[.slice A14_6 ([(⟨l0, 0⟩ : S64)] : List S64).length c14_6, .int .i64 0, .bool a1]) rfl (by kernel_rfl)) rfl (so rfl (op_st (cs' := [.slice A14_6 ([(⟨l0, 0⟩ : S64)] : List S64).length c14_6, .int .i64 0, .bool a1]) 0 rfl rfl rfl rfl rfl rfl (sv (EV.as rfl) rfl (re (pr [4, 5] [0] [2] rfl rfl rfl rfl ?_)))))))))))))
  cases H
  exact rt Try.func50 rfl (.cell 0 (some 3) rfl rfl rfl (.tmp rfl .nil)) rfl [] [⟨0, 2, 1, true⟩] rfl rfl rfl rfl rfl ⟨_, _, rfl, rfl, rfl⟩
 ·
  obtain rfl := bF c2
  refine gt rfl rfl (gs (rg (sv (EV.bd (v := .agg #[.slice none 0 0, .int .i64 0, .bool false]) rfl (by kernel_rfl)) rfl (so rfl (op_st (cs' := [.slice none 0 0, .int .i64 0, .bool false]) 0 rfl rfl rfl rfl rfl rfl (sv (EV.as rfl) rfl (re (pr [4, 5] [0] [] rfl rfl rfl rfl (nil_ k64 1 dq ?_)))))))))
  cases H
  exact rt Try.func50 rfl (.cell 0 (some 3) rfl rfl rfl (.tmp rfl .nil)) rfl [] [⟨0, 2, 1, true⟩] rfl rfl rfl rfl rfl ⟨_, _, rfl, rfl, rfl⟩
end Go.Proofs.Ytgpencaijhbolaa.K
