/- Walks: what the functions compute. Printed by gen.py; no condition. -/
import Derived.Test.YtgpencaijhbolaaProg
import Derived.Test.YtgpencaijhbolaaSB
namespace Go.Proofs.Ytgpencaijhbolaa.K
open Go Go.RowKit
set_option linter.unusedVariables false
set_option linter.unusedSimpArgs false
structure S49 where
  f0 : Int
  f1 : Int
  f2 : Int
  f3 : Int
  f4 : Int
def z49 : S49 := ⟨0, 0, 0, 0, 0⟩
def k49 : Kd S49 := .iso (fun p => ⟨p.1, p.2.1, p.2.2.1, p.2.2.2.1, p.2.2.2.2⟩) (fun x => (x.f0, x.f1, x.f2, x.f3, x.f4)) (fun _ => rfl) (.pair (.int .i64) (.pair (.int .i64) (.pair (.int .i64) (.pair (.int .i64) (.int .i64)))))
def rd_T49 (xs : List S49) (i : Int) : S49 := xs.getD i.toNat z49
structure S30 where
  f0 : List S49
  f1 : Int
  f2 : Int
  f3 : Int
def z30 : S30 := ⟨[], 0, 0, 0⟩
def k30 : Kd S30 := .iso (fun p => ⟨p.1, p.2.1, p.2.2.1, p.2.2.2⟩) (fun x => (x.f0, x.f1, x.f2, x.f3)) (fun _ => rfl) (.pair (.slice k49) (.pair (.int .i64) (.pair (.int .i64) (.int .i64))))
def rd_T30 (xs : List S30) (i : Int) : S30 := xs.getD i.toNat z30
structure S51 where
  f0 : Int
  f1 : S49
def z51 : S51 := ⟨0, z49⟩
def k51 : Kd S51 := .iso (fun p => ⟨p.1, p.2⟩) (fun x => (x.f0, x.f1)) (fun _ => rfl) (.pair (.int .i64) k49)
def rd_T51 (xs : List S51) (i : Int) : S51 := xs.getD i.toNat z51
structure S75 where
  f0 : Int
  f1 : Int
  f2 : Int
def z75 : S75 := ⟨0, 0, 0⟩
def k75 : Kd S75 := .iso (fun p => ⟨p.1, p.2.1, p.2.2⟩) (fun x => (x.f0, x.f1, x.f2)) (fun _ => rfl) (.pair (.int .i64) (.pair (.int .i64) (.int .i64)))
def rd_T75 (xs : List S75) (i : Int) : S75 := xs.getD i.toNat z75
structure S64 where
  f0 : List S75
  f1 : Int
def z64 : S64 := ⟨[], 0⟩
def k64 : Kd S64 := .iso (fun p => ⟨p.1, p.2⟩) (fun x => (x.f0, x.f1)) (fun _ => rfl) (.pair (.slice k75) (.int .i64))
def rd_T64 (xs : List S64) (i : Int) : S64 := xs.getD i.toNat z64
structure S54 where
  f0 : List S64
  f1 : Int
  f2 : Bool
def z54 : S54 := ⟨[], 0, false⟩
def k54 : Kd S54 := .iso (fun p => ⟨p.1, p.2.1, p.2.2⟩) (fun x => (x.f0, x.f1, x.f2)) (fun _ => rfl) (.pair (.slice k64) (.pair (.int .i64) .bool))
def rd_T54 (xs : List S54) (i : Int) : S54 := xs.getD i.toNat z54
structure S95 where
  f0 : List Int
  f1 : Int
  f2 : Int
def z95 : S95 := ⟨[], 0, 0⟩
def k95 : Kd S95 := .iso (fun p => ⟨p.1, p.2.1, p.2.2⟩) (fun x => (x.f0, x.f1, x.f2)) (fun _ => rfl) (.pair (.slice (.int .u8)) (.pair (.int .i64) (.int .i64)))
def rd_T95 (xs : List S95) (i : Int) : S95 := xs.getD i.toNat z95
theorem eqD49 (d : Nat) (w : World) (x0 y0 : Int) (x1 y1 : Int) (x2 y2 : Int) (x3 y3 : Int) (x4 y4 : Int) : (Op.equalIn (d + 2) 49 (.agg #[.int .i64 x0, .int .i64 x1, .int .i64 x2, .int .i64 x3, .int .i64 x4]) (.agg #[.int .i64 y0, .int .i64 y1, .int .i64 y2, .int .i64 y3, .int .i64 y4])).run Try.prog w = .ok (x0 == y0 && (x1 == y1 && (x2 == y2 && (x3 == y3 && (x4 == y4))))) w := by
  refine eq_of (d := d + 1) Try.underlying49 (by kernel_rfl) ?_
  refine eq_cons (by rfl) (by first | (go_simp; done) | (go_simp; rfl)) (by first | (go_simp; done) | (go_simp; rfl)) (by go_simp) ?_
  refine eq_cons (by rfl) (by first | (go_simp; done) | (go_simp; rfl)) (by first | (go_simp; done) | (go_simp; rfl)) (by go_simp) ?_
  refine eq_cons (by rfl) (by first | (go_simp; done) | (go_simp; rfl)) (by first | (go_simp; done) | (go_simp; rfl)) (by go_simp) ?_
  refine eq_cons (by rfl) (by first | (go_simp; done) | (go_simp; rfl)) (by first | (go_simp; done) | (go_simp; rfl)) (by go_simp) ?_
  exact eq_last (by rfl) (by first | (go_simp; done) | (go_simp; rfl)) (by first | (go_simp; done) | (go_simp; rfl)) (by go_simp)
theorem eq49 (d : Nat) (w : World) (x0 y0 : Int) (x1 y1 : Int) (x2 y2 : Int) (x3 y3 : Int) (x4 y4 : Int) : (Op.equalIn (d + 20) 49 (.agg #[.int .i64 x0, .int .i64 x1, .int .i64 x2, .int .i64 x3, .int .i64 x4]) (.agg #[.int .i64 y0, .int .i64 y1, .int .i64 y2, .int .i64 y3, .int .i64 y4])).run Try.prog w = .ok (x0 == y0 && (x1 == y1 && (x2 == y2 && (x3 == y3 && (x4 == y4))))) w := eqD49 (d + 18) w x0 y0 x1 y1 x2 y2 x3 y3 x4 y4
theorem eqD51 (d : Nat) (w : World) (x0 y0 : Int) (x1 y1 : Int) (x2 y2 : Int) (x3 y3 : Int) (x4 y4 : Int) (x5 y5 : Int) : (Op.equalIn (d + 3) 51 (.agg #[.int .i64 x0, .int .i64 x1, .int .i64 x2, .int .i64 x3, .int .i64 x4, .int .i64 x5]) (.agg #[.int .i64 y0, .int .i64 y1, .int .i64 y2, .int .i64 y3, .int .i64 y4, .int .i64 y5])).run Try.prog w = .ok (x0 == y0 && ((x1 == y1 && (x2 == y2 && (x3 == y3 && (x4 == y4 && (x5 == y5))))))) w := by
  refine eq_of (d := d + 2) Try.underlying51 (by kernel_rfl) ?_
  refine eq_cons (by rfl) (by first | (go_simp; done) | (go_simp; rfl)) (by first | (go_simp; done) | (go_simp; rfl)) (by go_simp) ?_
  exact eq_last (by rfl) (by first | (go_simp; done) | (go_simp; rfl)) (by first | (go_simp; done) | (go_simp; rfl)) (eqD49 _ w x1 y1 x2 y2 x3 y3 x4 y4 x5 y5)
theorem eq51 (d : Nat) (w : World) (x0 y0 : Int) (x1 y1 : Int) (x2 y2 : Int) (x3 y3 : Int) (x4 y4 : Int) (x5 y5 : Int) : (Op.equalIn (d + 20) 51 (.agg #[.int .i64 x0, .int .i64 x1, .int .i64 x2, .int .i64 x3, .int .i64 x4, .int .i64 x5]) (.agg #[.int .i64 y0, .int .i64 y1, .int .i64 y2, .int .i64 y3, .int .i64 y4, .int .i64 y5])).run Try.prog w = .ok (x0 == y0 && ((x1 == y1 && (x2 == y2 && (x3 == y3 && (x4 == y4 && (x5 == y5))))))) w := eqD51 (d + 17) w x0 y0 x1 y1 x2 y2 x3 y3 x4 y4 x5 y5
theorem eqD75 (d : Nat) (w : World) (x0 y0 : Int) (x1 y1 : Int) (x2 y2 : Int) : (Op.equalIn (d + 2) 75 (.agg #[.int .i64 x0, .int .i64 x1, .int .i64 x2]) (.agg #[.int .i64 y0, .int .i64 y1, .int .i64 y2])).run Try.prog w = .ok (x0 == y0 && (x1 == y1 && (x2 == y2))) w := by
  refine eq_of (d := d + 1) Try.underlying75 (by kernel_rfl) ?_
  refine eq_cons (by rfl) (by first | (go_simp; done) | (go_simp; rfl)) (by first | (go_simp; done) | (go_simp; rfl)) (by go_simp) ?_
  refine eq_cons (by rfl) (by first | (go_simp; done) | (go_simp; rfl)) (by first | (go_simp; done) | (go_simp; rfl)) (by go_simp) ?_
  exact eq_last (by rfl) (by first | (go_simp; done) | (go_simp; rfl)) (by first | (go_simp; done) | (go_simp; rfl)) (by go_simp)
theorem eq75 (d : Nat) (w : World) (x0 y0 : Int) (x1 y1 : Int) (x2 y2 : Int) : (Op.equalIn (d + 20) 75 (.agg #[.int .i64 x0, .int .i64 x1, .int .i64 x2]) (.agg #[.int .i64 y0, .int .i64 y1, .int .i64 y2])).run Try.prog w = .ok (x0 == y0 && (x1 == y1 && (x2 == y2))) w := eqD75 (d + 18) w x0 y0 x1 y1 x2 y2

mutual
def spec_l1New.j0 : Nat → Int → (List Int) → Option (Int × Int)
 | 0, _, _ => none
 | k + 1, x2_3, l0 => some (0, x2_3)
def spec_l1New.l0 : Nat → Int → Int → (List Int) → Option (Int × Int)
 | 0, _, _, _ => none
 | k + 1, x3_3, x3_4, l0 => if x3_4 < (l0.length : Int) then (if x3_4 < 4000 then (if 0 ≤ x3_4 then (spec_l1New.l0 k (andI (wrap64 ((wrap64 ((wrap64 (x3_3 * 131)) + (IntKind.i64.wrap (rdOf 0 l0 x3_4)))) + 7)) 1073741823) (wrap64 (x3_4 + 1)) l0) else none) else (spec_l1New.j0 k x3_3 l0)) else (spec_l1New.j0 k x3_3 l0)
end
def spec_l1New.f (k : Nat) (l0 : List Int) : Option (Int × Int) := spec_l1New.l0 k (wrap64 (10101 + (l0.length : Int))) 0 l0
set_option maxHeartbeats 4000000 in
set_option maxRecDepth 100000 in
theorem spec_l1New.ok (k : Nat) (l0 : List Int) (Al0 : Option Addr) (cl0 : Nat) (r0 : Int) (r1 : Int) (H : spec_l1New.f k l0 = some (r0, r1)) : Fn Try.prog 43 [.slice Al0 l0.length cl0] [] [.sl 0 (.int .u8) Al0 cl0 l0 0 false] (fun v bx en => ∃ rb0, v = .pointer (some ⟨rb0, 0, none⟩) ∧ bx = [⟨rb0, 95, [.slice Al0 l0.length cl0, .int .i64 r0, .int .i64 r1]⟩] ∧ en = []) := by
 refine fn_ 32 Try.func43 rfl rfl rfl (fun base T w0 => ?_)
 rw [spec_l1New.f] at H
 refine gs (rg (sv (EV.as rfl) rfl (re (gs (rg (sv (EV.mv rfl) rfl (sv (EV.ln rfl) rfl (sv (EV.add rfl rfl) rfl (sv (EV.as rfl) rfl (re ?_))))))))))
 refine jo (fun S => ∃ (m : Nat) (x2_3 : Int), spec_l1New.j0 m x2_3 l0 = some (r0, r1) ∧ S = ⟨[(0, .slice Al0 l0.length cl0), (3, .int .i64 x2_3)], [], [.sl 0 (.int .u8) Al0 cl0 l0 0 false]⟩) (fun S hS => ?_) (fun jh0 => ?_)
 ·
  clear H
  obtain ⟨m1, x2_3, H, rfl⟩ := hS
  rcases m1 with _ | m1
  · rw [spec_l1New.j0] at H; cases H
  rw [spec_l1New.j0] at H
  refine gs (rg (sv (EV.mv rfl) rfl (sv (EV.mv rfl) rfl (sv (EV.bd (v := .agg #[.slice Al0 l0.length cl0, .int .i64 0, .int .i64 x2_3]) rfl (by kernel_rfl)) rfl (so rfl (op_box (cs := [.slice Al0 l0.length cl0, .int .i64 0, .int .i64 x2_3]) rfl rfl rfl fun b31 => (sv (EV.as rfl) rfl (re (pr [2] [0] [0] rfl rfl rfl rfl ?_)))))))))
  cases H
  exact rt Try.func43 rfl (.tmp rfl .nil) rfl [0] [] rfl rfl rfl rfl rfl ⟨_, rfl, rfl, rfl⟩
 ·
  refine gs (rg (sv (EV.as rfl) rfl (re (gb ?_))))
  refine lo (fun kk S => ∃ (x3_3 : Int) (x3_4 : Int), spec_l1New.l0 kk x3_3 x3_4 l0 = some (r0, r1) ∧ S = ⟨[(0, .slice Al0 l0.length cl0), (3, .int .i64 x3_3), (4, .int .i64 x3_4)], [], [.sl 0 (.int .u8) Al0 cl0 l0 0 false]⟩) (fun S hS => ?_) (fun n0 ih0 S hS => ?_) ⟨wrap64 (10101 + (l0.length : Int)), 0, H, rfl⟩ (fun h => wk [0, 3, 4] [] [⟨0, 0, 0, false⟩] h)
  · clear H; obtain ⟨_, _, H, _⟩ := hS; rw [spec_l1New.l0] at H; cases H
  clear H
  obtain ⟨x3_3, x3_4, H, rfl⟩ := hS
  rw [spec_l1New.l0] at H
  refine gs (gs (rg (sv (EV.mv rfl) rfl (sv (EV.mv rfl) rfl (sv (EV.ln rfl) rfl (sv (EV.lss rfl rfl) rfl (sv (EV.mv rfl) rfl ?_)))))))
  revert H; refine ifsI ?_ ?_ <;> intro c2 H
  ·
   refine ts 12 rfl (dT c2) (sv (EV.mv rfl) rfl (sv (EV.lss rfl rfl) rfl (sv (EV.pt rfl rfl rfl) rfl (re ?_))))
   revert H; refine ifsI ?_ ?_ <;> intro c3 H
   ·
    refine gt rfl (dT c3) (gk (gs (gb (rg (sv (EV.mv rfl) rfl (sv (EV.mul rfl rfl) rfl (sv (EV.mv rfl) rfl (sv (EV.mv rfl) rfl ?_))))))))
    revert H; refine ggI ?_; intro g4 H
    exact sv (EV.ix 0 rfl rfl rfl g4 c2 rfl) rfl (sv (EV.le (v := .int .u8 (rdOf 0 l0 x3_4)) x3_4 0 none 0 0 rfl rfl rfl g4 c2 rfl rfl rfl) rfl (sv (EV.cv (k' := .i64) rfl) rfl (sv (EV.add rfl rfl) rfl (sv (EV.add rfl rfl) rfl (sv (EV.andI rfl rfl) rfl (sv (EV.as rfl) rfl (re (pr [0, 3, 4, 13, 14] [] [0] rfl rfl rfl rfl (ge (rg (sv (EV.mv rfl) rfl (sv (EV.add rfl rfl) rfl (sv (EV.as rfl) rfl (re (wk [0, 3, 4] [] [⟨0, 0, 0, false⟩] (ih0 _ (by omega) _ ⟨andI (wrap64 ((wrap64 ((wrap64 (x3_3 * 131)) + (IntKind.i64.wrap (rdOf 0 l0 x3_4)))) + 7)) 1073741823, wrap64 (x3_4 + 1), H, rfl⟩))))))))))))))))
   ·
    exact gf rfl (dF c3) (gx rfl (wk [0, 3] [] [⟨0, 0, 0, false⟩] (jh0 _ ⟨_, x3_3, H, rfl⟩)))
  ·
   exact ts 12 rfl (dF c2) (sk rfl (sk rfl (sv (EV.pf rfl rfl rfl) rfl (re (pr [0, 3, 4, 15] [] [0] rfl rfl rfl rfl (gf rfl rfl (gx rfl (wk [0, 3] [] [⟨0, 0, 0, false⟩] (jh0 _ ⟨_, x3_3, H, rfl⟩)))))))))
def spec_l1Byte.f (l0_0 : List Int) (a0_1 : Int) (a0_2 : Int) : Option (Int × Int × Int) := if a0_1 < (l0_0.length : Int) then (if 0 ≤ a0_1 then (some (andI (wrap64 ((andI (xorI (shrI (wrap64 ((wrap64 (a0_2 * 6364136223846793005)) + 1442695040888963407)) 33) (shrI (wrap64 ((wrap64 (a0_2 * 6364136223846793005)) + 1442695040888963407)) 45)) 255) + (IntKind.i64.wrap (rdOf 0 l0_0 a0_1)))) 255, wrap64 (a0_1 + 1), wrap64 ((wrap64 (a0_2 * 6364136223846793005)) + 1442695040888963407))) else none) else (some (andI (xorI (shrI (wrap64 ((wrap64 (a0_2 * 6364136223846793005)) + 1442695040888963407)) 33) (shrI (wrap64 ((wrap64 (a0_2 * 6364136223846793005)) + 1442695040888963407)) 45)) 255, a0_1, wrap64 ((wrap64 (a0_2 * 6364136223846793005)) + 1442695040888963407)))
set_option maxHeartbeats 4000000 in
set_option maxRecDepth 100000 in
theorem spec_l1Byte.ok (b1000 : Nat) (l0_0 : List Int) (Al0_0 : Option Addr) (cl0_0 : Nat) (a0_1 : Int) (a0_2 : Int) (r0 : Int) (r1 : Int) (r2 : Int) (H : spec_l1Byte.f l0_0 a0_1 a0_2 = some (r0, r1, r2)) : Fn Try.prog 88 [.pointer (some ⟨b1000, 0, none⟩)] [⟨b1000, 95, [.slice Al0_0 l0_0.length cl0_0, .int .i64 a0_1, .int .i64 a0_2]⟩] [.sl 0 (.int .u8) Al0_0 cl0_0 l0_0 0 false] (fun v bx en => v = .int .i64 r0 ∧ bx = [⟨b1000, 95, [.slice Al0_0 l0_0.length cl0_0, .int .i64 r1, .int .i64 r2]⟩] ∧ en = []) := by
 refine fn_ 58 Try.func88 rfl rfl rfl (fun base T w0 => ?_)
 rw [spec_l1Byte.f] at H
 refine gs (rg (sv (EV.as rfl) rfl (re (gs (rg (sv (EV.mv rfl) rfl (sv (EV.mv rfl) rfl (sv (EV.nc rfl) rfl (sv (EV.fa 2 rfl) rfl (sv (EV.ld 0 none rfl rfl rfl) rfl (sv (EV.mul rfl rfl) rfl (sv (EV.add rfl rfl) rfl (sv (EV.nc rfl) rfl (sv (EV.fa 2 rfl) rfl (so rfl (op_st (cs' := [.slice Al0_0 l0_0.length cl0_0, .int .i64 a0_1, .int .i64 (wrap64 ((wrap64 (a0_2 * 6364136223846793005)) + 1442695040888963407))]) 0 rfl rfl rfl rfl rfl rfl (re (pr [0] [0] [0] rfl rfl rfl rfl (gs (dr [0] [0] [] 13 rfl rfl rfl rfl (xv 0 [0] [0] rfl (EV.mv rfl) rfl rfl rfl rfl (xv 1 [0] [0] rfl (EV.nc rfl) rfl rfl rfl rfl (xv 2 [0] [0] rfl (EV.fa 2 rfl) rfl rfl rfl rfl (xv 3 [0] [0] rfl (EV.ld 0 none rfl rfl rfl) rfl rfl rfl rfl (xv 4 [0] [0] rfl (EV.shr rfl rfl dq) rfl rfl rfl rfl (xv 5 [0] [0] rfl (EV.mv rfl) rfl rfl rfl rfl (xv 6 [0] [0] rfl (EV.nc rfl) rfl rfl rfl rfl (xv 7 [0] [0] rfl (EV.fa 2 rfl) rfl rfl rfl rfl (xv 8 [0] [0] rfl (EV.ld 0 none rfl rfl rfl) rfl rfl rfl rfl ?_)))))))))))))))))))))))))))))
 refine xv 9 [0] [0] rfl (EV.shr rfl rfl dq) rfl rfl rfl rfl (xv 10 [0] [0] rfl (EV.xorI rfl rfl) rfl rfl rfl rfl (xv 11 [0] [0] rfl (EV.andI rfl rfl) rfl rfl rfl rfl (xv 12 [0] [0] rfl (EV.as rfl) rfl rfl rfl rfl (xd (pr [0, 3] [0] [0] rfl rfl rfl rfl (gs (gs (dr [0] [0] [] 10 rfl rfl rfl rfl (xv 0 [0] [0] rfl (EV.mv rfl) rfl rfl rfl rfl (xv 1 [0] [0] rfl (EV.nc rfl) rfl rfl rfl rfl (xv 2 [0] [0] rfl (EV.fa 1 rfl) rfl rfl rfl rfl (xv 3 [0] [0] rfl (EV.ld 0 none rfl rfl rfl) rfl rfl rfl rfl (xv 4 [0] [0] rfl (EV.mv rfl) rfl rfl rfl rfl (xv 5 [0] [0] rfl (EV.nc rfl) rfl rfl rfl rfl (xv 6 [0] [0] rfl (EV.fa 0 rfl) rfl rfl rfl rfl (xv 7 [0] [0] rfl (EV.ld 0 none rfl rfl rfl) rfl rfl rfl rfl (xv 8 [0] [0] rfl (EV.ln rfl) rfl rfl rfl rfl (xv 9 [0] [0] rfl (EV.lss rfl rfl) rfl rfl rfl rfl (xd (pr [0, 3, 34] [0] [0] rfl rfl rfl rfl ?_))))))))))))))))))))
 revert H; refine ifsI ?_ ?_ <;> intro c1 H
 ·
  refine gt rfl (dT c1) (gs ?_)
  revert H; refine ggI ?_; intro g2 H
  refine dr [0] [0] [] 15 rfl rfl rfl rfl (xv 0 [0] [0] rfl (EV.mv rfl) rfl rfl rfl rfl (xv 1 [0] [0] rfl (EV.mv rfl) rfl rfl rfl rfl (xv 2 [0] [0] rfl (EV.nc rfl) rfl rfl rfl rfl (xv 3 [0] [0] rfl (EV.fa 0 rfl) rfl rfl rfl rfl (xv 4 [0] [0] rfl (EV.ld 0 none rfl rfl rfl) rfl rfl rfl rfl (xv 5 [0] [0] rfl (EV.mv rfl) rfl rfl rfl rfl (xv 6 [0] [0] rfl (EV.nc rfl) rfl rfl rfl rfl (xv 7 [0] [0] rfl (EV.fa 1 rfl) rfl rfl rfl rfl (xv 8 [0] [0] rfl (EV.ld 0 none rfl rfl rfl) rfl rfl rfl rfl (xv 9 [0] [0] rfl (EV.ix 0 rfl rfl rfl g2 c1 rfl) rfl rfl rfl rfl (xv 10 [0] [0] rfl (EV.le (v := .int .u8 (rdOf 0 l0_0 a0_1)) a0_1 0 none 0 0 rfl rfl rfl g2 c1 rfl rfl rfl) rfl rfl rfl rfl (xv 11 [0] [0] rfl (EV.cv (k' := .i64) rfl) rfl rfl rfl rfl (xv 12 [0] [0] rfl (EV.add rfl rfl) rfl rfl rfl rfl (xv 13 [0] [0] rfl (EV.andI rfl rfl) rfl rfl rfl rfl (xv 14 [0] [0] rfl (EV.as rfl) rfl rfl rfl rfl (xd (pr [0, 3] [0] [0] rfl rfl rfl rfl (rg (sv (EV.mv rfl) rfl (sv (EV.mv rfl) rfl (sv (EV.nc rfl) rfl (sv (EV.fa 1 rfl) rfl (sv (EV.ld 0 none rfl rfl rfl) rfl (sv (EV.add rfl rfl) rfl (sv (EV.nc rfl) rfl (sv (EV.fa 1 rfl) rfl (so rfl (op_st (cs' := [.slice Al0_0 l0_0.length cl0_0, .int .i64 (wrap64 (a0_1 + 1)), .int .i64 (wrap64 ((wrap64 (a0_2 * 6364136223846793005)) + 1442695040888963407))]) 0 rfl rfl rfl rfl rfl rfl (re ?_)))))))))))))))))))))))))))))
  refine pr [3] [0] [0] rfl rfl rfl rfl (gs (rg (sv (EV.mv rfl) rfl (sv (EV.as rfl) rfl (re ?_)))))
  cases H
  exact rt Try.func88 rfl (.tmp rfl .nil) rfl [0] [] rfl rfl rfl rfl rfl ⟨rfl, rfl, rfl⟩
 ·
  refine gf rfl (dF c1) (gk (gs (rg (sv (EV.mv rfl) rfl (sv (EV.as rfl) rfl (re ?_))))))
  cases H
  exact rt Try.func88 rfl (.tmp rfl .nil) rfl [0] [] rfl rfl rfl rfl rfl ⟨rfl, rfl, rfl⟩
def spec_l1Below.f (l0_0 : List Int) (a0_1 : Int) (a0_2 : Int) (a1 : Int) : Option (Int × Int × Int) := if a1 ≤ 0 then (some (0, a0_1, a0_2)) else (if a1 ≤ 256 then ((spec_l1Byte.f l0_0 a0_1 a0_2).bind fun bt3 => (if a1 ≠ 0 then (some (Int.tmod bt3.1 a1, bt3.2.1, bt3.2.2)) else none)) else ((spec_l1Byte.f l0_0 a0_1 a0_2).bind fun bt5 => ((spec_l1Byte.f l0_0 bt5.2.1 bt5.2.2).bind fun bt6 => ((spec_l1Byte.f l0_0 bt6.2.1 bt6.2.2).bind fun bt7 => ((spec_l1Byte.f l0_0 bt7.2.1 bt7.2.2).bind fun bt8 => (if a1 ≠ 0 then (some (Int.tmod (wrap64 ((wrap64 ((wrap64 ((wrap64 (bt5.1 * 16777216)) + (wrap64 (bt6.1 * 65536)))) + (wrap64 (bt7.1 * 256)))) + bt8.1)) a1, bt8.2.1, bt8.2.2)) else none))))))
set_option maxHeartbeats 4000000 in
set_option maxRecDepth 100000 in
theorem spec_l1Below.ok (b1000 : Nat) (l0_0 : List Int) (Al0_0 : Option Addr) (cl0_0 : Nat) (a0_1 : Int) (a0_2 : Int) (a1 : Int) (r0 : Int) (r1 : Int) (r2 : Int) (H : spec_l1Below.f l0_0 a0_1 a0_2 a1 = some (r0, r1, r2)) : Fn Try.prog 58 [.pointer (some ⟨b1000, 0, none⟩), .int .i64 a1] [⟨b1000, 95, [.slice Al0_0 l0_0.length cl0_0, .int .i64 a0_1, .int .i64 a0_2]⟩] [.sl 0 (.int .u8) Al0_0 cl0_0 l0_0 0 false] (fun v bx en => v = .int .i64 r0 ∧ bx = [⟨b1000, 95, [.slice Al0_0 l0_0.length cl0_0, .int .i64 r1, .int .i64 r2]⟩] ∧ en = []) := by
 refine fn_ 37 Try.func58 rfl rfl rfl (fun base T w0 => ?_)
 rw [spec_l1Below.f] at H
 refine gs (rg (sv (EV.as rfl) rfl (re (gs (gs (rg (sv (EV.mv rfl) rfl (sv (EV.leq rfl rfl) rfl (re ?_)))))))))
 revert H; refine ifsI ?_ ?_ <;> intro c1 H
 ·
  refine gt rfl (dT c1) (gs (rg (sv (EV.as rfl) rfl (re ?_))))
  cases H
  exact rt Try.func58 rfl (.tmp rfl .nil) rfl [0] [] rfl rfl rfl rfl rfl ⟨rfl, rfl, rfl⟩
 ·
  refine gf rfl (dF c1) (gk (gs (gs (rg (sv (EV.mv rfl) rfl (sv (EV.leq rfl rfl) rfl (re ?_)))))))
  revert H; refine ifsI ?_ ?_ <;> intro c2 H
  ·
   refine gt rfl (dT c2) (gs (rg (sv (EV.mv rfl) rfl ?_)))
   revert H; refine bdI ?_; rintro ⟨t3_0, t3_1, t3_2⟩ A3 H
   refine so rfl (op_callM (spec_l1Byte.ok b1000 l0_0 Al0_0 cl0_0 a0_1 a0_2 _ _ _ A3) [⟨0, 0, 0, false⟩] [0] [] 1 rfl rfl rfl rfl rfl rfl rfl rfl ?_)
   rintro _ _ _ ⟨rfl, rfl, rfl⟩
   refine nmE (en := [.sl 0 (.int .u8) Al0_0 cl0_0 l0_0 0 false]) (by kernel_rfl) (sv (EV.mv rfl) rfl ?_)
   revert H; refine ggI ?_; intro g4 H
   refine sv (EV.rem rfl rfl g4) rfl (sv (EV.as rfl) rfl (re (pr [4] [0] [0] rfl rfl rfl rfl ?_)))
   cases H
   exact rt Try.func58 rfl (.tmp rfl .nil) rfl [0] [] rfl rfl rfl rfl rfl ⟨rfl, rfl, rfl⟩
  ·
   refine gf rfl (dF c2) (gk (gs (rg (sv (EV.mv rfl) rfl ?_))))
   revert H; refine bdI ?_; rintro ⟨t5_0, t5_1, t5_2⟩ A5 H
   refine so rfl (op_callM (spec_l1Byte.ok b1000 l0_0 Al0_0 cl0_0 a0_1 a0_2 _ _ _ A5) [⟨0, 0, 0, false⟩] [0] [] 1 rfl rfl rfl rfl rfl rfl rfl rfl ?_)
   rintro _ _ _ ⟨rfl, rfl, rfl⟩
   refine nmE (en := [.sl 0 (.int .u8) Al0_0 cl0_0 l0_0 0 false]) (by kernel_rfl) (sv (EV.as rfl) rfl (re (pr [0, 1, 5] [0] [0] rfl rfl rfl rfl (gs (rg (sv (EV.mv rfl) rfl ?_))))))
   revert H; refine bdI ?_; rintro ⟨t6_0, t6_1, t6_2⟩ A6 H
   refine so rfl (op_callM (spec_l1Byte.ok b1000 l0_0 Al0_0 cl0_0 t5_1 t5_2 _ _ _ A6) [⟨0, 0, 0, false⟩] [0] [] 1 rfl rfl rfl rfl rfl rfl rfl rfl ?_)
   rintro _ _ _ ⟨rfl, rfl, rfl⟩
   refine nmE (en := [.sl 0 (.int .u8) Al0_0 cl0_0 l0_0 0 false]) (by kernel_rfl) (sv (EV.as rfl) rfl (re (gs (rg (sv (EV.mv rfl) rfl ?_)))))
   revert H; refine bdI ?_; rintro ⟨t7_0, t7_1, t7_2⟩ A7 H
   refine so rfl (op_callM (spec_l1Byte.ok b1000 l0_0 Al0_0 cl0_0 t6_1 t6_2 _ _ _ A7) [⟨0, 0, 0, false⟩] [0] [] 1 rfl rfl rfl rfl rfl rfl rfl rfl ?_)
   rintro _ _ _ ⟨rfl, rfl, rfl⟩
   refine nmE (en := [.sl 0 (.int .u8) Al0_0 cl0_0 l0_0 0 false]) (by kernel_rfl) (sv (EV.as rfl) rfl (re (gs (rg (sv (EV.mv rfl) rfl ?_)))))
   revert H; refine bdI ?_; rintro ⟨t8_0, t8_1, t8_2⟩ A8 H
   refine so rfl (op_callM (spec_l1Byte.ok b1000 l0_0 Al0_0 cl0_0 t7_1 t7_2 _ _ _ A8) [⟨0, 0, 0, false⟩] [0] [] 1 rfl rfl rfl rfl rfl rfl rfl rfl ?_)
   rintro _ _ _ ⟨rfl, rfl, rfl⟩
   refine nmE (en := [.sl 0 (.int .u8) Al0_0 cl0_0 l0_0 0 false]) (by kernel_rfl) (sv (EV.as rfl) rfl (re (pr [1, 5, 6, 7, 8] [0] [0] rfl rfl rfl rfl (gs (rg (sv (EV.mv rfl) rfl (sv (EV.mul rfl rfl) rfl (sv (EV.mv rfl) rfl (sv (EV.mul rfl rfl) rfl (sv (EV.add rfl rfl) rfl (sv (EV.mv rfl) rfl (sv (EV.mul rfl rfl) rfl (sv (EV.add rfl rfl) rfl (sv (EV.mv rfl) rfl (sv (EV.add rfl rfl) rfl (sv (EV.mv rfl) rfl ?_))))))))))))))))
   revert H; refine ggI ?_; intro g9 H
   refine sv (EV.rem rfl rfl g9) rfl (sv (EV.as rfl) rfl (re (pr [4] [0] [0] rfl rfl rfl rfl ?_)))
   cases H
   exact rt Try.func58 rfl (.tmp rfl .nil) rfl [0] [] rfl rfl rfl rfl rfl ⟨rfl, rfl, rfl⟩
def spec_l1Once.f (l0_0 : List Int) (a0_1 : Int) (a0_2 : Int) (a1 : Int) : Option (Bool × Int × Int) := (spec_l1Below.f l0_0 a0_1 a0_2 a1).bind fun bt1 => (some (decide (bt1.1 = 0), bt1.2.1, bt1.2.2))
set_option maxHeartbeats 4000000 in
set_option maxRecDepth 100000 in
theorem spec_l1Once.ok (b1000 : Nat) (l0_0 : List Int) (Al0_0 : Option Addr) (cl0_0 : Nat) (a0_1 : Int) (a0_2 : Int) (a1 : Int) (r0 : Bool) (r1 : Int) (r2 : Int) (H : spec_l1Once.f l0_0 a0_1 a0_2 a1 = some (r0, r1, r2)) : Fn Try.prog 45 [.pointer (some ⟨b1000, 0, none⟩), .int .i64 a1] [⟨b1000, 95, [.slice Al0_0 l0_0.length cl0_0, .int .i64 a0_1, .int .i64 a0_2]⟩] [.sl 0 (.int .u8) Al0_0 cl0_0 l0_0 0 false] (fun v bx en => v = .bool r0 ∧ bx = [⟨b1000, 95, [.slice Al0_0 l0_0.length cl0_0, .int .i64 r1, .int .i64 r2]⟩] ∧ en = []) := by
 refine fn_ 9 Try.func45 rfl rfl rfl (fun base T w0 => ?_)
 rw [spec_l1Once.f] at H
 refine gs (rg (sv (EV.as rfl) rfl (re (gs (rg (sv (EV.mv rfl) rfl (sv (EV.mv rfl) rfl ?_)))))))
 revert H; refine bdI ?_; rintro ⟨t1_0, t1_1, t1_2⟩ A1 H
 refine so rfl (op_callM (spec_l1Below.ok b1000 l0_0 Al0_0 cl0_0 a0_1 a0_2 a1 _ _ _ A1) [⟨0, 0, 0, false⟩] [0] [] 1 rfl rfl rfl rfl rfl rfl rfl rfl ?_)
 rintro _ _ _ ⟨rfl, rfl, rfl⟩
 refine nmE (en := [.sl 0 (.int .u8) Al0_0 cl0_0 l0_0 0 false]) (by kernel_rfl) (sv (EV.eql rfl rfl) rfl (sv (EV.as rfl) rfl (re (pr [4] [0] [0] rfl rfl rfl rfl ?_))))
 cases H
 exact rt Try.func45 rfl (.tmp rfl .nil) rfl [0] [] rfl rfl rfl rfl rfl ⟨rfl, rfl, rfl⟩
def spec_l1PickInt.f (l0_0 : List Int) (a0_1 : Int) (a0_2 : Int) (l1 : List Int) : Option (Int × Int × Int) := (spec_l1Below.f l0_0 a0_1 a0_2 (l1.length : Int)).bind fun bt1 => (if 0 ≤ bt1.1 then (if bt1.1 < (l1.length : Int) then (some (rdOf 0 l1 bt1.1, bt1.2.1, bt1.2.2)) else none) else none)
set_option maxHeartbeats 4000000 in
set_option maxRecDepth 100000 in
theorem spec_l1PickInt.ok (b1000 : Nat) (l0_0 : List Int) (Al0_0 : Option Addr) (cl0_0 : Nat) (a0_1 : Int) (a0_2 : Int) (l1 : List Int) (Al1 : Option Addr) (cl1 : Nat) (r0 : Int) (r1 : Int) (r2 : Int) (H : spec_l1PickInt.f l0_0 a0_1 a0_2 l1 = some (r0, r1, r2)) : Fn Try.prog 79 [.pointer (some ⟨b1000, 0, none⟩), .slice Al1 l1.length cl1] [⟨b1000, 95, [.slice Al0_0 l0_0.length cl0_0, .int .i64 a0_1, .int .i64 a0_2]⟩] [.sl 0 (.int .u8) Al0_0 cl0_0 l0_0 0 false, .sl 0 (.int .i64) Al1 cl1 l1 0 false] (fun v bx en => v = .int .i64 r0 ∧ bx = [⟨b1000, 95, [.slice Al0_0 l0_0.length cl0_0, .int .i64 r1, .int .i64 r2]⟩] ∧ en = []) := by
 refine fn_ 12 Try.func79 rfl rfl rfl (fun base T w0 => ?_)
 rw [spec_l1PickInt.f] at H
 refine gs (rg (sv (EV.as rfl) rfl (re (gs (rg (sv (EV.mv rfl) rfl (sv (EV.mv rfl) rfl (sv (EV.mv rfl) rfl (sv (EV.ln rfl) rfl ?_)))))))))
 revert H; refine bdI ?_; rintro ⟨t1_0, t1_1, t1_2⟩ A1 H
 refine so rfl (op_callM (spec_l1Below.ok b1000 l0_0 Al0_0 cl0_0 a0_1 a0_2 (l1.length : Int) _ _ _ A1) [⟨0, 0, 0, false⟩] [0] [] 1 rfl rfl rfl rfl rfl rfl rfl rfl ?_)
 rintro _ _ _ ⟨rfl, rfl, rfl⟩
 refine nmE (en := [.sl 0 (.int .u8) Al0_0 cl0_0 l0_0 0 false, .sl 0 (.int .i64) Al1 cl1 l1 0 false]) (by kernel_rfl) ?_
 revert H; refine ggI ?_; intro g2 H
 revert H; refine ggI ?_; intro g3 H
 refine sv (EV.ix 1 rfl rfl rfl g2 g3 rfl) rfl (sv (EV.le (v := .int .i64 (rdOf 0 l1 t1_0)) t1_0 0 none 1 0 rfl rfl rfl g2 g3 rfl rfl rfl) rfl (sv (EV.as rfl) rfl (re (pr [4] [0] [0] rfl rfl rfl rfl ?_))))
 cases H
 exact rt Try.func79 rfl (.tmp rfl .nil) rfl [0] [] rfl rfl rfl rfl rfl ⟨rfl, rfl, rfl⟩
def spec_l2Row.f (l0_0 : List Int) (a0_1 : Int) (a0_2 : Int) (a1 : Int) : Option (Int × Int × Int × Int × Int) := (spec_l1Below.f l0_0 a0_1 a0_2 a1).bind fun bt1 => ((spec_l1Below.f l0_0 bt1.2.1 bt1.2.2 100).bind fun bt2 => ((spec_l1PickInt.f l0_0 bt2.2.1 bt2.2.2 ([0, 0, 1, 2, 3] : List Int)).bind fun bt4 => (some (bt1.1, bt2.1, bt4.1, bt4.2.1, bt4.2.2))))
set_option maxHeartbeats 4000000 in
set_option maxRecDepth 100000 in
theorem spec_l2Row.ok (b1000 : Nat) (l0_0 : List Int) (Al0_0 : Option Addr) (cl0_0 : Nat) (a0_1 : Int) (a0_2 : Int) (a1 : Int) (r0 : Int) (r1 : Int) (r2 : Int) (r3 : Int) (r4 : Int) (H : spec_l2Row.f l0_0 a0_1 a0_2 a1 = some (r0, r1, r2, r3, r4)) : Fn Try.prog 93 [.pointer (some ⟨b1000, 0, none⟩), .int .i64 a1] [⟨b1000, 95, [.slice Al0_0 l0_0.length cl0_0, .int .i64 a0_1, .int .i64 a0_2]⟩] [.sl 0 (.int .u8) Al0_0 cl0_0 l0_0 0 false] (fun v bx en => v = .agg #[.int .i64 r0, .int .i64 r1, .int .i64 r2] ∧ bx = [⟨b1000, 95, [.slice Al0_0 l0_0.length cl0_0, .int .i64 r3, .int .i64 r4]⟩] ∧ en = []) := by
 refine fn_ 14 Try.func93 rfl rfl rfl (fun base T w0 => ?_)
 rw [spec_l2Row.f] at H
 refine gs (rg (so rfl (op_alloc (cs := [.int .i64 0, .int .i64 0, .int .i64 0]) (by kernel_rfl) rfl fun b4 => (re (gs (rg (sv (EV.mv rfl) rfl (sv (EV.mv rfl) rfl ?_))))))))
 revert H; refine bdI ?_; rintro ⟨t1_0, t1_1, t1_2⟩ A1 H
 refine so rfl (op_callM (spec_l1Below.ok b1000 l0_0 Al0_0 cl0_0 a0_1 a0_2 a1 _ _ _ A1) [⟨0, 0, 0, false⟩] [0] [1] 1 rfl rfl rfl rfl rfl rfl rfl rfl ?_)
 rintro _ _ _ ⟨rfl, rfl, rfl⟩
 refine nmE (en := [.sl 0 (.int .u8) Al0_0 cl0_0 l0_0 0 false]) (by kernel_rfl) (sv (EV.mv rfl) rfl ?_)
 revert H; refine bdI ?_; rintro ⟨t2_0, t2_1, t2_2⟩ A2 H
 refine so rfl (op_callM (spec_l1Below.ok b1000 l0_0 Al0_0 cl0_0 t1_1 t1_2 100 _ _ _ A2) [⟨0, 0, 0, false⟩] [1] [0] 1 rfl rfl rfl rfl rfl rfl rfl rfl ?_)
 rintro _ _ _ ⟨rfl, rfl, rfl⟩
 refine nmE (en := [.sl 0 (.int .u8) Al0_0 cl0_0 l0_0 0 false]) (by kernel_rfl) (sv (EV.mv rfl) rfl (so rfl (op_lit (s := 1) (by_ := 8) (.int .i64) ([0, 0, 1, 2, 3] : List Int) [[], [], [], [], []] [] 1 [.const (.int .i64 0), .const (.int .i64 0), .const (.int .i64 1), .const (.int .i64 2), .const (.int .i64 3)] rfl rfl rfl rfl rfl rfl rfl rfl rfl rfl rfl rfl rfl dq rfl fun A11_3 c11_3 => ?_)))
 revert H; refine bdI ?_; rintro ⟨t4_0, t4_1, t4_2⟩ A4 H
 refine so rfl (op_callM (spec_l1PickInt.ok b1000 l0_0 Al0_0 cl0_0 t2_1 t2_2 ([0, 0, 1, 2, 3] : List Int) A11_3 c11_3 _ _ _ A4) [⟨0, 0, 0, false⟩, ⟨1, 0, 0, false⟩] [1] [0] 2 rfl rfl rfl rfl rfl rfl rfl rfl ?_)
 rintro _ _ _ ⟨rfl, rfl, rfl⟩
 refine nmE (en := [.sl 0 (.int .u8) Al0_0 cl0_0 l0_0 0 false, .sl 2 (.int .i64) A11_3 c11_3 ([0, 0, 1, 2, 3] : List Int) 1 true]) (by kernel_rfl) (sv (EV.bd (v := .agg #[.int .i64 t1_0, .int .i64 t2_0, .int .i64 t4_0]) rfl (by kernel_rfl)) rfl (so rfl (op_st (cs' := [.int .i64 t1_0, .int .i64 t2_0, .int .i64 t4_0]) 0 rfl rfl rfl rfl rfl rfl (re (pr [4] [0, 1] [0] rfl rfl rfl rfl ?_)))))
 cases H
 exact rt Try.func93 rfl (.cell 0 (some 3) rfl rfl rfl .nil) rfl [1] [] rfl rfl rfl rfl rfl ⟨rfl, rfl, rfl⟩
def spec_l2Rows.l0 : Nat → (List S75) → Int → Int → Int → Int → (List Int) → Option ((List S75) × Int × Int)
 | 0, _, _, _, _, _, _ => none
 | k + 1, x2_5, x2_6, x2_7, x2_1000_1, x2_1000_2, l0_0 => if x2_7 > 0 then ((spec_l2Row.f l0_0 x2_1000_1 x2_1000_2 x2_6).bind fun bt6 => (if x2_5.length < 5864062014805 then (spec_l2Rows.l0 k (x2_5 ++ ([(⟨bt6.1, bt6.2.1, bt6.2.2.1⟩ : S75)] : List S75)) x2_6 (wrap64 (x2_7 - 1)) bt6.2.2.2.1 bt6.2.2.2.2 l0_0) else none)) else (some (x2_5, x2_1000_1, x2_1000_2))
def spec_l2Rows.f (k : Nat) (l0_0 : List Int) (a0_1 : Int) (a0_2 : Int) (a1 : Int) : Option ((List S75) × Int × Int) := (spec_l1PickInt.f l0_0 a0_1 a0_2 ([1, 2, 4, 10] : List Int)).bind fun bt3 => ((spec_l1Below.f l0_0 bt3.2.1 bt3.2.2 (wrap64 (a1 + 1))).bind fun bt4 => (spec_l2Rows.l0 k [] bt3.1 bt4.1 bt4.2.1 bt4.2.2 l0_0))
set_option maxHeartbeats 4000000 in
set_option maxRecDepth 100000 in
theorem spec_l2Rows.ok (k : Nat) (b1000 : Nat) (l0_0 : List Int) (Al0_0 : Option Addr) (cl0_0 : Nat) (a0_1 : Int) (a0_2 : Int) (a1 : Int) (r0 : List S75) (r1 : Int) (r2 : Int) (H : spec_l2Rows.f k l0_0 a0_1 a0_2 a1 = some (r0, r1, r2)) : Fn Try.prog 77 [.pointer (some ⟨b1000, 0, none⟩), .int .i64 a1] [⟨b1000, 95, [.slice Al0_0 l0_0.length cl0_0, .int .i64 a0_1, .int .i64 a0_2]⟩] [.sl 0 (.int .u8) Al0_0 cl0_0 l0_0 0 false] (fun v bx en => ∃ A0 c0, v = .slice A0 r0.length c0 ∧ bx = [⟨b1000, 95, [.slice Al0_0 l0_0.length cl0_0, .int .i64 r1, .int .i64 r2]⟩] ∧ en = [.sl 2 k75 A0 c0 r0 1 true]) := by
 refine fn_ 27 Try.func77 rfl rfl rfl (fun base T w0 => ?_)
 rw [spec_l2Rows.f] at H
 refine gs (rg (sv (EV.as rfl) rfl (re (gs (rg (so rfl (op_lit (s := 3) (by_ := 24) k75 ([] : List S75) [] [] 1 [] rfl rfl rfl rfl rfl rfl rfl rfl rfl rfl rfl rfl rfl dq rfl fun A8_1 c8_1 => (sv (EV.as rfl) rfl (re (gs (rg (sv (EV.mv rfl) rfl (so rfl (op_lit (s := 1) (by_ := 8) (.int .i64) ([1, 2, 4, 10] : List Int) [[], [], [], []] [] 2 [.const (.int .i64 1), .const (.int .i64 2), .const (.int .i64 4), .const (.int .i64 10)] rfl rfl rfl rfl rfl rfl rfl rfl rfl rfl rfl rfl rfl dq rfl fun A10_2 c10_2 => ?_))))))))))))))
 revert H; refine bdI ?_; rintro ⟨t3_0, t3_1, t3_2⟩ A3 H
 refine so rfl (op_callM (spec_l1PickInt.ok b1000 l0_0 Al0_0 cl0_0 a0_1 a0_2 ([1, 2, 4, 10] : List Int) A10_2 c10_2 _ _ _ A3) [⟨0, 0, 0, false⟩, ⟨2, 0, 0, false⟩] [0] [] 3 rfl rfl rfl rfl rfl rfl rfl rfl ?_)
 rintro _ _ _ ⟨rfl, rfl, rfl⟩
 refine nmE (en := [.sl 0 (.int .u8) Al0_0 cl0_0 l0_0 0 false, .sl 2 k75 A8_1 c8_1 [] 1 true, .sl 2 (.int .i64) A10_2 c10_2 ([1, 2, 4, 10] : List Int) 2 true]) (by kernel_rfl) (sv (EV.as rfl) rfl (re (gs (gs (rg (sv (EV.mv rfl) rfl (sv (EV.mv rfl) rfl (sv (EV.add rfl rfl) rfl ?_))))))))
 revert H; refine bdI ?_; rintro ⟨t4_0, t4_1, t4_2⟩ A4 H
 refine so rfl (op_callM (spec_l1Below.ok b1000 l0_0 Al0_0 cl0_0 t3_1 t3_2 (wrap64 (a1 + 1)) _ _ _ A4) [⟨0, 0, 0, false⟩] [0] [] 3 rfl rfl rfl rfl rfl rfl rfl rfl ?_)
 rintro _ _ _ ⟨rfl, rfl, rfl⟩
 refine nmE (en := [.sl 0 (.int .u8) Al0_0 cl0_0 l0_0 0 false, .sl 2 k75 A8_1 c8_1 [] 1 true, .sl 2 (.int .i64) A10_2 c10_2 ([1, 2, 4, 10] : List Int) 2 true]) (by kernel_rfl) (sv (EV.as rfl) rfl (re (pr [0, 5, 6, 7] [0] [0, 1] rfl rfl rfl rfl (gb ?_))))
 refine lo (fun kk S => ∃ (x2_5 : List S75) (Ax2_5 : Option Addr) (cx2_5 : Nat) (x2_6 : Int) (x2_7 : Int) (x2_1000_1 : Int) (x2_1000_2 : Int), spec_l2Rows.l0 kk x2_5 x2_6 x2_7 x2_1000_1 x2_1000_2 l0_0 = some (r0, r1, r2) ∧ S = ⟨[(0, .pointer (some ⟨b1000, 0, none⟩)), (5, .slice Ax2_5 x2_5.length cx2_5), (6, .int .i64 x2_6), (7, .int .i64 x2_7)], [⟨b1000, 95, [.slice Al0_0 l0_0.length cl0_0, .int .i64 x2_1000_1, .int .i64 x2_1000_2]⟩], [.sl 2 k75 Ax2_5 cx2_5 x2_5 1 true, .sl 0 (.int .u8) Al0_0 cl0_0 l0_0 0 false]⟩) (fun S hS => ?_) (fun n0 ih0 S hS => ?_) ⟨[], A8_1, c8_1, t3_0, t4_0, t4_1, t4_2, H, rfl⟩ (fun h => wk [0, 5, 6, 7] [0] [⟨1, 2, 1, true⟩, ⟨0, 0, 0, false⟩] h)
 · clear H; obtain ⟨_, _, _, _, _, _, _, H, _⟩ := hS; rw [spec_l2Rows.l0] at H; cases H
 clear H
 obtain ⟨x2_5, Ax2_5, cx2_5, x2_6, x2_7, x2_1000_1, x2_1000_2, H, rfl⟩ := hS
 rw [spec_l2Rows.l0] at H
 refine gs (gs (rg (sv (EV.mv rfl) rfl (sv (EV.gtr rfl rfl) rfl (re ?_)))))
 revert H; refine ifsI ?_ ?_ <;> intro c5 H
 ·
  refine gt rfl (dT c5) (gk (gs (gb (rg (sv (EV.mv rfl) rfl (sv (EV.mv rfl) rfl (sv (EV.mv rfl) rfl ?_)))))))
  revert H; refine bdI ?_; rintro ⟨t6_0, t6_1, t6_2, t6_3, t6_4⟩ A6 H
  refine so rfl (op_callM (spec_l2Row.ok b1000 l0_0 Al0_0 cl0_0 x2_1000_1 x2_1000_2 x2_6 _ _ _ _ _ A6) [⟨1, 0, 0, false⟩] [0] [] 2 rfl rfl rfl rfl rfl rfl rfl rfl ?_)
  rintro _ _ _ ⟨rfl, rfl, rfl⟩
  refine nmE (en := [.sl 2 k75 Ax2_5 cx2_5 x2_5 1 true, .sl 0 (.int .u8) Al0_0 cl0_0 l0_0 0 false]) (by kernel_rfl) (so rfl (op_lit (s := 3) (by_ := 24) k75 ([(⟨t6_0, t6_1, t6_2⟩ : S75)] : List S75) [[]] [] 2 [.tmp 23] rfl rfl rfl rfl rfl rfl rfl rfl rfl rfl rfl rfl rfl dq rfl fun A24_7 c24_7 => ?_))
  revert H; refine ggI ?_; intro g8 H
  exact so rfl (op_app (k := k75) (s := 3) (by_ := 24) 0 2 rfl rfl rfl rfl (ap1 g8 dq) (ap1n g8 dq) (.inl rfl) true (fun _ => .inl rfl) rfl rfl fun A25_9 c25_9 => (nmE (en := [.sl 0 (.int .u8) Al0_0 cl0_0 l0_0 0 false, .sl 2 k75 A24_7 c24_7 ([(⟨t6_0, t6_1, t6_2⟩ : S75)] : List S75) 2 true, .sl 2 k75 A25_9 c25_9 (x2_5 ++ ([(⟨t6_0, t6_1, t6_2⟩ : S75)] : List S75)) 1 true]) (by kernel_rfl) (sv (EV.as rfl) rfl (re (pr [0, 5, 6, 7] [0] [0, 2] rfl rfl rfl rfl (ge (rg (sv (EV.mv rfl) rfl (sv (EV.sub rfl rfl) rfl (sv (EV.as rfl) rfl (re (wk [0, 5, 6, 7] [0] [⟨1, 2, 1, true⟩, ⟨0, 0, 0, false⟩] (ih0 _ (by omega) _ ⟨x2_5 ++ ([(⟨t6_0, t6_1, t6_2⟩ : S75)] : List S75), A25_9, c25_9, x2_6, wrap64 (x2_7 - 1), t6_3, t6_4, H, rfl⟩)))))))))))))
 ·
  refine gf rfl (dF c5) (gx rfl (gs (rg (sv (EV.mv rfl) rfl (sv (EV.as rfl) rfl (re (pr [4] [0] [0, 1] rfl rfl rfl rfl ?_)))))))
  cases H
  exact rt Try.func77 rfl (.tmp rfl .nil) rfl [0] [⟨0, 2, 1, true⟩] rfl rfl rfl rfl rfl ⟨_, _, rfl, rfl, rfl⟩
def spec_l2Any.f (l0_0 : List Int) (a0_1 : Int) (a0_2 : Int) : Option (Int × Int × Int × Int × Int) := (spec_l2Row.f l0_0 a0_1 a0_2 10).bind fun bt1 => ((spec_l1Below.f l0_0 bt1.2.2.2.1 bt1.2.2.2.2 8).bind fun bt2 => (if bt2.1 = 0 then ((spec_l1PickInt.f l0_0 bt2.2.1 bt2.2.2 ([(-1), 10] : List Int)).bind fun bt5 => (some (bt5.1, bt1.2.1, bt1.2.2.1, bt5.2.1, bt5.2.2))) else (if bt2.1 = 1 then ((spec_l1PickInt.f l0_0 bt2.2.1 bt2.2.2 ([(-1), 100, 99] : List Int)).bind fun bt8 => (some (bt1.1, bt8.1, bt1.2.2.1, bt8.2.1, bt8.2.2))) else (if bt2.1 = 2 then ((spec_l1PickInt.f l0_0 bt2.2.1 bt2.2.2 ([(-1), 4] : List Int)).bind fun bt11 => (some (bt1.1, bt1.2.1, bt11.1, bt11.2.1, bt11.2.2))) else (some (bt1.1, bt1.2.1, bt1.2.2.1, bt2.2.1, bt2.2.2))))))
set_option maxHeartbeats 4000000 in
set_option maxRecDepth 100000 in
theorem spec_l2Any.ok (b1000 : Nat) (l0_0 : List Int) (Al0_0 : Option Addr) (cl0_0 : Nat) (a0_1 : Int) (a0_2 : Int) (r0 : Int) (r1 : Int) (r2 : Int) (r3 : Int) (r4 : Int) (H : spec_l2Any.f l0_0 a0_1 a0_2 = some (r0, r1, r2, r3, r4)) : Fn Try.prog 78 [.pointer (some ⟨b1000, 0, none⟩)] [⟨b1000, 95, [.slice Al0_0 l0_0.length cl0_0, .int .i64 a0_1, .int .i64 a0_2]⟩] [.sl 0 (.int .u8) Al0_0 cl0_0 l0_0 0 false] (fun v bx en => v = .agg #[.int .i64 r0, .int .i64 r1, .int .i64 r2] ∧ bx = [⟨b1000, 95, [.slice Al0_0 l0_0.length cl0_0, .int .i64 r3, .int .i64 r4]⟩] ∧ en = []) := by
 refine fn_ 27 Try.func78 rfl rfl rfl (fun base T w0 => ?_)
 rw [spec_l2Any.f] at H
 refine gs (rg (so rfl (op_alloc (cs := [.int .i64 0, .int .i64 0, .int .i64 0]) (by kernel_rfl) rfl fun b2 => (re (gs (rg (sv (EV.mv rfl) rfl ?_)))))))
 revert H; refine bdI ?_; rintro ⟨t1_0, t1_1, t1_2, t1_3, t1_4⟩ A1 H
 refine so rfl (op_callM (spec_l2Row.ok b1000 l0_0 Al0_0 cl0_0 a0_1 a0_2 10 _ _ _ _ _ A1) [⟨0, 0, 0, false⟩] [0] [1] 1 rfl rfl rfl rfl rfl rfl rfl rfl ?_)
 rintro _ _ _ ⟨rfl, rfl, rfl⟩
 refine nmE (en := [.sl 0 (.int .u8) Al0_0 cl0_0 l0_0 0 false]) (by kernel_rfl) (so rfl (op_alloc (cs := [.int .i64 0, .int .i64 0, .int .i64 0]) (by kernel_rfl) rfl fun b3 => (so rfl (op_st (cs' := [.int .i64 t1_0, .int .i64 t1_1, .int .i64 t1_2]) 2 rfl rfl rfl rfl rfl rfl (re (gs (gs (rg (sv (EV.mv rfl) rfl ?_)))))))))
 revert H; refine bdI ?_; rintro ⟨t2_0, t2_1, t2_2⟩ A2 H
 refine so rfl (op_callM (spec_l1Below.ok b1000 l0_0 Al0_0 cl0_0 t1_3 t1_4 8 _ _ _ A2) [⟨0, 0, 0, false⟩] [1] [0, 2] 1 rfl rfl rfl rfl rfl rfl rfl rfl ?_)
 rintro _ _ _ ⟨rfl, rfl, rfl⟩
 refine nmE (en := [.sl 0 (.int .u8) Al0_0 cl0_0 l0_0 0 false]) (by kernel_rfl) (re (gb (gs (rg (sv (EV.eql rfl rfl) rfl (sv (EV.as rfl) rfl (re ?_)))))))
 revert H; refine ifsI ?_ ?_ <;> intro c3 H
 ·
  refine gt rfl (dT c3) (rg (sv (EV.mv rfl) rfl (so rfl (op_lit (s := 1) (by_ := 8) (.int .i64) ([(-1), 10] : List Int) [[], []] [] 1 [.const (.int .i64 (-1)), .const (.int .i64 10)] rfl rfl rfl rfl rfl rfl rfl rfl rfl rfl rfl rfl rfl dq rfl fun A11_4 c11_4 => ?_))))
  revert H; refine bdI ?_; rintro ⟨t5_0, t5_1, t5_2⟩ A5 H
  refine so rfl (op_callM (spec_l1PickInt.ok b1000 l0_0 Al0_0 cl0_0 t2_1 t2_2 ([(-1), 10] : List Int) A11_4 c11_4 _ _ _ A5) [⟨0, 0, 0, false⟩, ⟨1, 0, 0, false⟩] [2] [0, 1] 2 rfl rfl rfl rfl rfl rfl rfl rfl ?_)
  rintro _ _ _ ⟨rfl, rfl, rfl⟩
  refine nmE (en := [.sl 0 (.int .u8) Al0_0 cl0_0 l0_0 0 false, .sl 2 (.int .i64) A11_4 c11_4 ([(-1), 10] : List Int) 1 true]) (by kernel_rfl) (sv (EV.fa 0 rfl) rfl (so rfl (op_st (cs' := [.int .i64 t5_0, .int .i64 t1_1, .int .i64 t1_2]) 1 rfl rfl rfl rfl rfl rfl (re (pr [2, 3] [0, 1, 2] [0] rfl rfl rfl rfl (ge (gs (rg (sv (EV.ld (v := .agg #[.int .i64 t5_0, .int .i64 t1_1, .int .i64 t1_2]) 1 (some 3) rfl rfl rfl) rfl (so rfl (op_st (cs' := [.int .i64 t5_0, .int .i64 t1_1, .int .i64 t1_2]) 0 rfl rfl rfl rfl rfl rfl (re ?_))))))))))))
  cases H
  exact rt Try.func78 rfl (.cell 0 (some 3) rfl rfl rfl .nil) rfl [2] [] rfl rfl rfl rfl rfl ⟨rfl, rfl, rfl⟩
 ·
  refine gf rfl (dF c3) (gs (rg (sv (EV.eql rfl rfl) rfl (sv (EV.as rfl) rfl (re (pr [0, 2, 3, 7, 14] [0, 1, 2] [0] rfl rfl rfl rfl ?_))))))
  revert H; refine ifsI ?_ ?_ <;> intro c6 H
  ·
   refine gt rfl (dT c6) (rg (sv (EV.mv rfl) rfl (so rfl (op_lit (s := 1) (by_ := 8) (.int .i64) ([(-1), 100, 99] : List Int) [[], [], []] [] 1 [.const (.int .i64 (-1)), .const (.int .i64 100), .const (.int .i64 99)] rfl rfl rfl rfl rfl rfl rfl rfl rfl rfl rfl rfl rfl dq rfl fun A17_7 c17_7 => ?_))))
   revert H; refine bdI ?_; rintro ⟨t8_0, t8_1, t8_2⟩ A8 H
   refine so rfl (op_callM (spec_l1PickInt.ok b1000 l0_0 Al0_0 cl0_0 t2_1 t2_2 ([(-1), 100, 99] : List Int) A17_7 c17_7 _ _ _ A8) [⟨0, 0, 0, false⟩, ⟨1, 0, 0, false⟩] [2] [0, 1] 2 rfl rfl rfl rfl rfl rfl rfl rfl ?_)
   rintro _ _ _ ⟨rfl, rfl, rfl⟩
   refine nmE (en := [.sl 0 (.int .u8) Al0_0 cl0_0 l0_0 0 false, .sl 2 (.int .i64) A17_7 c17_7 ([(-1), 100, 99] : List Int) 1 true]) (by kernel_rfl) (sv (EV.fa 1 rfl) rfl (so rfl (op_st (cs' := [.int .i64 t1_0, .int .i64 t8_0, .int .i64 t1_2]) 1 rfl rfl rfl rfl rfl rfl (re (pr [2, 3] [0, 1, 2] [0] rfl rfl rfl rfl (ge (gs (rg (sv (EV.ld (v := .agg #[.int .i64 t1_0, .int .i64 t8_0, .int .i64 t1_2]) 1 (some 3) rfl rfl rfl) rfl (so rfl (op_st (cs' := [.int .i64 t1_0, .int .i64 t8_0, .int .i64 t1_2]) 0 rfl rfl rfl rfl rfl rfl (re ?_))))))))))))
   cases H
   exact rt Try.func78 rfl (.cell 0 (some 3) rfl rfl rfl .nil) rfl [2] [] rfl rfl rfl rfl rfl ⟨rfl, rfl, rfl⟩
  ·
   refine gf rfl (dF c6) (gs (rg (sv (EV.eql rfl rfl) rfl (sv (EV.as rfl) rfl (re ?_)))))
   revert H; refine ifsI ?_ ?_ <;> intro c9 H
   ·
    refine gt rfl (dT c9) (rg (sv (EV.mv rfl) rfl (so rfl (op_lit (s := 1) (by_ := 8) (.int .i64) ([(-1), 4] : List Int) [[], []] [] 1 [.const (.int .i64 (-1)), .const (.int .i64 4)] rfl rfl rfl rfl rfl rfl rfl rfl rfl rfl rfl rfl rfl dq rfl fun A23_10 c23_10 => ?_))))
    revert H; refine bdI ?_; rintro ⟨t11_0, t11_1, t11_2⟩ A11 H
    refine so rfl (op_callM (spec_l1PickInt.ok b1000 l0_0 Al0_0 cl0_0 t2_1 t2_2 ([(-1), 4] : List Int) A23_10 c23_10 _ _ _ A11) [⟨0, 0, 0, false⟩, ⟨1, 0, 0, false⟩] [2] [0, 1] 2 rfl rfl rfl rfl rfl rfl rfl rfl ?_)
    rintro _ _ _ ⟨rfl, rfl, rfl⟩
    refine nmE (en := [.sl 0 (.int .u8) Al0_0 cl0_0 l0_0 0 false, .sl 2 (.int .i64) A23_10 c23_10 ([(-1), 4] : List Int) 1 true]) (by kernel_rfl) (sv (EV.fa 2 rfl) rfl (so rfl (op_st (cs' := [.int .i64 t1_0, .int .i64 t1_1, .int .i64 t11_0]) 1 rfl rfl rfl rfl rfl rfl (re (pr [2, 3] [0, 1, 2] [0] rfl rfl rfl rfl (ge (gs (rg (sv (EV.ld (v := .agg #[.int .i64 t1_0, .int .i64 t1_1, .int .i64 t11_0]) 1 (some 3) rfl rfl rfl) rfl (so rfl (op_st (cs' := [.int .i64 t1_0, .int .i64 t1_1, .int .i64 t11_0]) 0 rfl rfl rfl rfl rfl rfl (re ?_))))))))))))
    cases H
    exact rt Try.func78 rfl (.cell 0 (some 3) rfl rfl rfl .nil) rfl [2] [] rfl rfl rfl rfl rfl ⟨rfl, rfl, rfl⟩
   ·
    refine gf rfl (dF c9) (gk (ge (gs (rg (sv (EV.ld (v := .agg #[.int .i64 t1_0, .int .i64 t1_1, .int .i64 t1_2]) 1 (some 3) rfl rfl rfl) rfl (so rfl (op_st (cs' := [.int .i64 t1_0, .int .i64 t1_1, .int .i64 t1_2]) 0 rfl rfl rfl rfl rfl rfl (re (pr [2] [0, 2] [0] rfl rfl rfl rfl ?_)))))))))
    cases H
    exact rt Try.func78 rfl (.cell 0 (some 3) rfl rfl rfl .nil) rfl [1] [] rfl rfl rfl rfl rfl ⟨rfl, rfl, rfl⟩
def spec_l2Bent.f (k : Nat) (l0_0 : List Int) (a0_1 : Int) (a0_2 : Int) (a1 : Int) : Option ((List S75) × Int × Int) := (spec_l2Rows.f k l0_0 a0_1 a0_2 a1).bind fun bt1 => ((spec_l1Once.f l0_0 bt1.2.1 bt1.2.2 14).bind fun bt2 => (if bt2.1 = true then ((spec_l2Any.f l0_0 bt2.2.1 bt2.2.2).bind fun bt4 => (if bt1.1.length < 5864062014805 then (some (bt1.1 ++ ([(⟨bt4.1, bt4.2.1, bt4.2.2.1⟩ : S75)] : List S75), bt4.2.2.2.1, bt4.2.2.2.2)) else none)) else (some (bt1.1, bt2.2.1, bt2.2.2))))
set_option maxHeartbeats 4000000 in
set_option maxRecDepth 100000 in
theorem spec_l2Bent.ok (k : Nat) (b1000 : Nat) (l0_0 : List Int) (Al0_0 : Option Addr) (cl0_0 : Nat) (a0_1 : Int) (a0_2 : Int) (a1 : Int) (r0 : List S75) (r1 : Int) (r2 : Int) (H : spec_l2Bent.f k l0_0 a0_1 a0_2 a1 = some (r0, r1, r2)) : Fn Try.prog 44 [.pointer (some ⟨b1000, 0, none⟩), .int .i64 a1] [⟨b1000, 95, [.slice Al0_0 l0_0.length cl0_0, .int .i64 a0_1, .int .i64 a0_2]⟩] [.sl 0 (.int .u8) Al0_0 cl0_0 l0_0 0 false] (fun v bx en => ∃ A0 c0, v = .slice A0 r0.length c0 ∧ bx = [⟨b1000, 95, [.slice Al0_0 l0_0.length cl0_0, .int .i64 r1, .int .i64 r2]⟩] ∧ en = [.sl 2 k75 A0 c0 r0 1 true]) := by
 refine fn_ 17 Try.func44 rfl rfl rfl (fun base T w0 => ?_)
 rw [spec_l2Bent.f] at H
 refine gs (rg (sv (EV.as rfl) rfl (re (gs (rg (sv (EV.mv rfl) rfl (sv (EV.mv rfl) rfl ?_)))))))
 revert H; refine bdI ?_; rintro ⟨t1_0, t1_1, t1_2⟩ A1 H
 refine so rfl (op_callM (spec_l2Rows.ok k b1000 l0_0 Al0_0 cl0_0 a0_1 a0_2 a1 _ _ _ A1) [⟨0, 0, 0, false⟩] [0] [] 1 rfl rfl rfl rfl rfl rfl rfl rfl ?_)
 rintro _ _ _ ⟨At1_0, ct1_0, rfl, rfl, rfl⟩
 refine nmE (en := [.sl 0 (.int .u8) Al0_0 cl0_0 l0_0 0 false, .sl 2 k75 At1_0 ct1_0 t1_0 2 true]) (by kernel_rfl) (sv (EV.as rfl) rfl (re (gs (gs (rg (sv (EV.mv rfl) rfl ?_))))))
 revert H; refine bdI ?_; rintro ⟨t2_0, t2_1, t2_2⟩ A2 H
 refine so rfl (op_callM (spec_l1Once.ok b1000 l0_0 Al0_0 cl0_0 t1_1 t1_2 14 _ _ _ A2) [⟨0, 0, 0, false⟩] [0] [] 3 rfl rfl rfl rfl rfl rfl rfl rfl ?_)
 rintro _ _ _ ⟨rfl, rfl, rfl⟩
 refine nmE (en := [.sl 0 (.int .u8) Al0_0 cl0_0 l0_0 0 false, .sl 2 k75 At1_0 ct1_0 t1_0 2 true]) (by kernel_rfl) (re (pr [0, 5, 10] [0] [0, 1] rfl rfl rfl rfl ?_))
 revert H; refine ifsI ?_ ?_ <;> intro c3 H
 ·
  subst c3
  refine gt rfl rfl (rg (sv (EV.mv rfl) rfl (sv (EV.mv rfl) rfl ?_)))
  revert H; refine bdI ?_; rintro ⟨t4_0, t4_1, t4_2, t4_3, t4_4⟩ A4 H
  refine so rfl (op_callM (spec_l2Any.ok b1000 l0_0 Al0_0 cl0_0 t2_1 t2_2 _ _ _ _ _ A4) [⟨0, 0, 0, false⟩] [0] [] 3 rfl rfl rfl rfl rfl rfl rfl rfl ?_)
  rintro _ _ _ ⟨rfl, rfl, rfl⟩
  refine nmE (en := [.sl 0 (.int .u8) Al0_0 cl0_0 l0_0 0 false, .sl 2 k75 At1_0 ct1_0 t1_0 2 true]) (by kernel_rfl) (so rfl (op_lit (s := 3) (by_ := 24) k75 ([(⟨t4_0, t4_1, t4_2⟩ : S75)] : List S75) [[]] [] 3 [.tmp 13] rfl rfl rfl rfl rfl rfl rfl rfl rfl rfl rfl rfl rfl dq rfl fun A14_5 c14_5 => ?_))
  revert H; refine ggI ?_; intro g6 H
  refine so rfl (op_app (k := k75) (s := 3) (by_ := 24) 1 2 rfl rfl rfl rfl (ap1 g6 dq) (ap1n g6 dq) (.inl rfl) true (fun _ => .inl rfl) rfl rfl fun A15_7 c15_7 => (nmE (en := [.sl 0 (.int .u8) Al0_0 cl0_0 l0_0 0 false, .sl 2 k75 A14_5 c14_5 ([(⟨t4_0, t4_1, t4_2⟩ : S75)] : List S75) 3 true, .sl 2 k75 A15_7 c15_7 (t1_0 ++ ([(⟨t4_0, t4_1, t4_2⟩ : S75)] : List S75)) 2 true]) (by kernel_rfl) (sv (EV.as rfl) rfl (re (pr [5] [0] [0, 2] rfl rfl rfl rfl (gs (rg (sv (EV.mv rfl) rfl (sv (EV.as rfl) rfl (re ?_))))))))))
  cases H
  exact rt Try.func44 rfl (.tmp rfl .nil) rfl [0] [⟨1, 2, 1, true⟩] rfl rfl rfl rfl rfl ⟨_, _, rfl, rfl, rfl⟩
 ·
  obtain rfl := bF c3
  refine gf rfl rfl (gk (gs (rg (sv (EV.mv rfl) rfl (sv (EV.as rfl) rfl (re ?_))))))
  cases H
  exact rt Try.func44 rfl (.tmp rfl .nil) rfl [0] [⟨1, 2, 1, true⟩] rfl rfl rfl rfl rfl ⟨_, _, rfl, rfl, rfl⟩
def spec_DrawRollupRows.f (k : Nat) (l0 : List Int) : Option ((List S75)) := (spec_l1New.f k l0).bind fun bt1 => ((spec_l2Bent.f k l0 bt1.1 bt1.2 12).bind fun bt2 => (some bt2.1))
set_option maxHeartbeats 4000000 in
set_option maxRecDepth 100000 in
theorem spec_DrawRollupRows.ok (k : Nat) (l0 : List Int) (Al0 : Option Addr) (cl0 : Nat) (r0 : List S75) (H : spec_DrawRollupRows.f k l0 = some r0) : Fn Try.prog 21 [.slice Al0 l0.length cl0] [] [.sl 0 (.int .u8) Al0 cl0 l0 0 false] (fun v bx en => ∃ A0 c0, v = .slice A0 r0.length c0 ∧ bx = [] ∧ en = [.sl 2 k75 A0 c0 r0 1 true]) := by
 refine fn_ 6 Try.func21 rfl rfl rfl (fun base T w0 => ?_)
 rw [spec_DrawRollupRows.f] at H
 refine gs (rg (sv (EV.as rfl) rfl (re (gs (rg (sv (EV.mv rfl) rfl ?_))))))
 revert H; refine bdI ?_; rintro ⟨t1_0, t1_1⟩ A1 H
 refine so rfl (op_callM (spec_l1New.ok k l0 Al0 cl0 _ _ A1) [⟨0, 0, 0, false⟩] [] [] 1 rfl rfl rfl rfl rfl rfl rfl rfl ?_)
 rintro _ _ _ ⟨b2001, rfl, rfl, rfl⟩
 refine nmE (en := [.sl 0 (.int .u8) Al0 cl0 l0 0 false]) (by kernel_rfl) ?_
 revert H; refine bdI ?_; rintro ⟨t2_0, t2_1, t2_2⟩ A2 H
 refine so rfl (op_callM (spec_l2Bent.ok k b2001 l0 Al0 cl0 t1_0 t1_1 12 _ _ _ A2) [⟨0, 0, 0, false⟩] [0] [] 1 rfl rfl rfl rfl rfl rfl rfl rfl ?_)
 rintro _ _ _ ⟨At2_0, ct2_0, rfl, rfl, rfl⟩
 refine nmE (en := [.sl 0 (.int .u8) Al0 cl0 l0 0 false, .sl 2 k75 At2_0 ct2_0 t2_0 2 true]) (by kernel_rfl) (sv (EV.as rfl) rfl (re ?_))
 cases H
 exact rt Try.func21 rfl (.tmp rfl .nil) rfl [] [⟨1, 2, 1, true⟩] rfl rfl rfl rfl rfl ⟨_, _, rfl, rfl, rfl⟩
def impl_RollupKey.f (a0 : Int) (a1 : Int) : Option (Int) := if a1 = 0 then (some a0) else (if a1 = 1 then (some (wrap64 (Int.tdiv a0 5))) else (some 0))
set_option maxHeartbeats 4000000 in
set_option maxRecDepth 100000 in
theorem impl_RollupKey.ok (a0 : Int) (a1 : Int) (r0 : Int) (H : impl_RollupKey.f a0 a1 = some r0) : Fn Try.prog 28 [.int .i64 a0, .int .i64 a1] [] [] (fun v bx en => v = .int .i64 r0 ∧ bx = [] ∧ en = []) := by
 refine fn_ 13 Try.func28 rfl rfl rfl (fun base T w0 => ?_)
 rw [impl_RollupKey.f] at H
 refine gs (rg (sv (EV.as rfl) rfl (re (gs (gs (rg (sv (EV.mv rfl) rfl (re (gb (gs (rg (sv (EV.eql rfl rfl) rfl (sv (EV.as rfl) rfl (re ?_))))))))))))))
 revert H; refine ifsI ?_ ?_ <;> intro c1 H
 ·
  refine gt rfl (dT c1) (gs (rg (sv (EV.mv rfl) rfl (sv (EV.as rfl) rfl (re (pr [4] [] [] rfl rfl rfl rfl ?_))))))
  cases H
  exact rt Try.func28 rfl (.tmp rfl .nil) rfl [] [] rfl rfl rfl rfl rfl ⟨rfl, rfl, rfl⟩
 ·
  refine gf rfl (dF c1) (gs (rg (sv (EV.eql rfl rfl) rfl (sv (EV.as rfl) rfl (re (pr [0, 9] [] [] rfl rfl rfl rfl ?_))))))
  revert H; refine ifsI ?_ ?_ <;> intro c2 H
  ·
   refine gt rfl (dT c2) (gs (rg (sv (EV.mv rfl) rfl (sv (EV.quo rfl rfl dq) rfl (sv (EV.as rfl) rfl (re ?_))))))
   cases H
   exact rt Try.func28 rfl (.tmp rfl .nil) rfl [] [] rfl rfl rfl rfl rfl ⟨rfl, rfl, rfl⟩
  ·
   refine gf rfl (dF c2) (gk (ge (gs (rg (sv (EV.as rfl) rfl (re ?_))))))
   cases H
   exact rt Try.func28 rfl (.tmp rfl .nil) rfl [] [] rfl rfl rfl rfl rfl ⟨rfl, rfl, rfl⟩
def impl_order.f (a0 : Int) (a1 : Int) : Option (Int) := if a0 < a1 then (some (-1)) else (if a0 > a1 then (some 1) else (some 0))
set_option maxHeartbeats 4000000 in
set_option maxRecDepth 100000 in
theorem impl_order.ok (a0 : Int) (a1 : Int) (r0 : Int) (H : impl_order.f a0 a1 = some r0) : Fn Try.prog 84 [.int .i64 a0, .int .i64 a1] [] [] (fun v bx en => v = .int .i64 r0 ∧ bx = [] ∧ en = []) := by
 refine fn_ 13 Try.func84 rfl rfl rfl (fun base T w0 => ?_)
 rw [impl_order.f] at H
 refine gs (rg (sv (EV.as rfl) rfl (re (gs (gb (gs (rg (sv (EV.mv rfl) rfl (sv (EV.mv rfl) rfl (sv (EV.lss rfl rfl) rfl (sv (EV.as rfl) rfl (re ?_))))))))))))
 revert H; refine ifsI ?_ ?_ <;> intro c1 H
 ·
  refine gt rfl (dT c1) (gs (rg (sv (EV.as rfl) rfl (re (pr [4] [] [] rfl rfl rfl rfl ?_)))))
  cases H
  exact rt Try.func84 rfl (.tmp rfl .nil) rfl [] [] rfl rfl rfl rfl rfl ⟨rfl, rfl, rfl⟩
 ·
  refine gf rfl (dF c1) (gs (rg (sv (EV.mv rfl) rfl (sv (EV.mv rfl) rfl (sv (EV.gtr rfl rfl) rfl (sv (EV.as rfl) rfl (re (pr [9] [] [] rfl rfl rfl rfl ?_))))))))
  revert H; refine ifsI ?_ ?_ <;> intro c2 H
  ·
   refine gt rfl (dT c2) (gs (rg (sv (EV.as rfl) rfl (re ?_))))
   cases H
   exact rt Try.func84 rfl (.tmp rfl .nil) rfl [] [] rfl rfl rfl rfl rfl ⟨rfl, rfl, rfl⟩
  ·
   refine gf rfl (dF c2) (gk (ge (gs (rg (sv (EV.as rfl) rfl (re ?_))))))
   cases H
   exact rt Try.func84 rfl (.tmp rfl .nil) rfl [] [] rfl rfl rfl rfl rfl ⟨rfl, rfl, rfl⟩
def impl_MergeGroups_1.f (a0_0 : Int) (a0_1 : Int) (a0_2 : Int) (a0_3 : Int) (a0_4 : Int) (a1_0 : Int) (a1_1 : Int) (a1_2 : Int) (a1_3 : Int) (a1_4 : Int) : Option (Int) := (impl_order.f a0_0 a1_0).bind fun t1 => (some t1)
set_option maxHeartbeats 4000000 in
set_option maxRecDepth 100000 in
theorem impl_MergeGroups_1.ok (a0_0 : Int) (a0_1 : Int) (a0_2 : Int) (a0_3 : Int) (a0_4 : Int) (a1_0 : Int) (a1_1 : Int) (a1_2 : Int) (a1_3 : Int) (a1_4 : Int) (r0 : Int) (H : impl_MergeGroups_1.f a0_0 a0_1 a0_2 a0_3 a0_4 a1_0 a1_1 a1_2 a1_3 a1_4 = some r0) : Fn Try.prog 83 [.agg #[.int .i64 a0_0, .int .i64 a0_1, .int .i64 a0_2, .int .i64 a0_3, .int .i64 a0_4], .agg #[.int .i64 a1_0, .int .i64 a1_1, .int .i64 a1_2, .int .i64 a1_3, .int .i64 a1_4]] [] [] (fun v bx en => v = .int .i64 r0 ∧ bx = [] ∧ en = []) := by
 refine fn_ 10 Try.func83 rfl rfl rfl (fun base T w0 => ?_)
 rw [impl_MergeGroups_1.f] at H
 refine gs (rg (so rfl (op_box (cs := [.int .i64 a0_0, .int .i64 a0_1, .int .i64 a0_2, .int .i64 a0_3, .int .i64 a0_4]) rfl rfl rfl fun b2 => (so rfl (op_box (cs := [.int .i64 a1_0, .int .i64 a1_1, .int .i64 a1_2, .int .i64 a1_3, .int .i64 a1_4]) rfl rfl rfl fun b3 => (sv (EV.as rfl) rfl (re (gs (rg (sv (EV.fa 0 rfl) rfl (sv (EV.ld 0 none rfl rfl rfl) rfl (sv (EV.fa 0 rfl) rfl (sv (EV.ld 1 none rfl rfl rfl) rfl ?_)))))))))))))
 revert H; refine bdI ?_; rintro t1 A1 H
 refine so rfl (op_call (impl_order.ok a0_0 a1_0 _ A1) [] 1 rfl rfl rfl rfl rfl ?_)
 rintro _ _ _ ⟨rfl, rfl, rfl⟩
 refine sv (EV.as rfl) rfl (re (pr [4] [] [] rfl rfl rfl rfl ?_))
 cases H
 exact rt Try.func83 rfl (.tmp rfl .nil) rfl [] [] rfl rfl rfl rfl rfl ⟨rfl, rfl, rfl⟩
mutual
def slices_insertionSortCmpFunc_impl_Group_at83.l1 : Nat → (List S49) → Int → Int → Int → Int → Option ((List S49))
 | 0, _, _, _, _, _ => none
 | k + 1, x5_ml0, x5_1, x5_2, x5_8, x5_9 => if x5_9 > x5_1 then (if 0 ≤ x5_9 then (if x5_9 < (x5_ml0.length : Int) then (if 0 ≤ (wrap64 (x5_9 - 1)) then (if (wrap64 (x5_9 - 1)) < (x5_ml0.length : Int) then ((impl_MergeGroups_1.f ((rd_T49 x5_ml0 x5_9).f0) ((rd_T49 x5_ml0 x5_9).f1) ((rd_T49 x5_ml0 x5_9).f2) ((rd_T49 x5_ml0 x5_9).f3) ((rd_T49 x5_ml0 x5_9).f4) ((rd_T49 x5_ml0 (wrap64 (x5_9 - 1))).f0) ((rd_T49 x5_ml0 (wrap64 (x5_9 - 1))).f1) ((rd_T49 x5_ml0 (wrap64 (x5_9 - 1))).f2) ((rd_T49 x5_ml0 (wrap64 (x5_9 - 1))).f3) ((rd_T49 x5_ml0 (wrap64 (x5_9 - 1))).f4)).bind fun t7 => (if t7 < 0 then ((some (x5_ml0.set x5_9.toNat (⟨(rd_T49 x5_ml0 (wrap64 (x5_9 - 1))).f0, (rd_T49 x5_ml0 (wrap64 (x5_9 - 1))).f1, (rd_T49 x5_ml0 (wrap64 (x5_9 - 1))).f2, (rd_T49 x5_ml0 (wrap64 (x5_9 - 1))).f3, (rd_T49 x5_ml0 (wrap64 (x5_9 - 1))).f4⟩ : S49))).bind fun s9 => (if (wrap64 (x5_9 - 1)) < (s9.length : Int) then ((some (s9.set (wrap64 (x5_9 - 1)).toNat (⟨(rd_T49 x5_ml0 x5_9).f0, (rd_T49 x5_ml0 x5_9).f1, (rd_T49 x5_ml0 x5_9).f2, (rd_T49 x5_ml0 x5_9).f3, (rd_T49 x5_ml0 x5_9).f4⟩ : S49))).bind fun s11 => (slices_insertionSortCmpFunc_impl_Group_at83.l1 k s11 x5_1 x5_2 x5_8 (wrap64 (x5_9 - 1)))) else none)) else (slices_insertionSortCmpFunc_impl_Group_at83.l0 k x5_ml0 x5_1 x5_2 (wrap64 (x5_8 + 1))))) else none) else none) else none) else none) else (slices_insertionSortCmpFunc_impl_Group_at83.l0 k x5_ml0 x5_1 x5_2 (wrap64 (x5_8 + 1)))
def slices_insertionSortCmpFunc_impl_Group_at83.l0 : Nat → (List S49) → Int → Int → Int → Option ((List S49))
 | 0, _, _, _, _ => none
 | k + 1, x1_ml0, x1_1, x1_2, x1_8 => if x1_8 < x1_2 then (slices_insertionSortCmpFunc_impl_Group_at83.l1 k x1_ml0 x1_1 x1_2 x1_8 x1_8) else (some x1_ml0)
end
def slices_insertionSortCmpFunc_impl_Group_at83.f (k : Nat) (l0 : List S49) (a1 : Int) (a2 : Int) : Option ((List S49)) := slices_insertionSortCmpFunc_impl_Group_at83.l0 k l0 a1 a2 (wrap64 (a1 + 1))
set_option maxHeartbeats 4000000 in
set_option maxRecDepth 100000 in
theorem slices_insertionSortCmpFunc_impl_Group_at83.ok (k : Nat) (l0 : List S49) (Al0 : Option Addr) (cl0 : Nat) (a1 : Int) (a2 : Int) (r0 : List S49) (H : slices_insertionSortCmpFunc_impl_Group_at83.f k l0 a1 a2 = some r0) : Fn Try.prog 97 [.slice Al0 l0.length cl0, .int .i64 a1, .int .i64 a2, .func (.func 83) #[] #[]] [] [.sl 1 k49 Al0 cl0 l0 1 false] (fun v bx en => v = .tuple #[] ∧ bx = [] ∧ en = [.sl 1 k49 Al0 cl0 r0 1 false] ∧ r0.length = l0.length) := by
 refine fn_ 53 Try.func97 rfl rfl rfl (fun base T w0 => ?_)
 rw [slices_insertionSortCmpFunc_impl_Group_at83.f] at H
 refine gs (rg (sv (EV.mv rfl) rfl (sv (EV.add rfl rfl) rfl (sv (EV.as rfl) rfl (re (gb ?_))))))
 refine lo (fun kk S => ∃ (x1_ml0 : List S49) (x1_1 : Int) (x1_2 : Int) (x1_8 : Int), slices_insertionSortCmpFunc_impl_Group_at83.l0 kk x1_ml0 x1_1 x1_2 x1_8 = some r0 ∧ x1_ml0.length = l0.length ∧ S = ⟨[(0, .slice Al0 x1_ml0.length cl0), (1, .int .i64 x1_1), (2, .int .i64 x1_2), (3, .func (.func 83) #[] #[]), (8, .int .i64 x1_8)], [], [.sl 1 k49 Al0 cl0 x1_ml0 1 false]⟩) (fun S hS => ?_) (fun n0 ih0 S hS => ?_) ⟨l0, a1, a2, wrap64 (a1 + 1), H, (by first | rfl | assumption | omega | (simp only [List.length_set]; first | done | assumption | omega)), rfl⟩ (fun h => wk [0, 1, 2, 3, 8] [] [⟨0, 1, 1, false⟩] h)
 · clear H; obtain ⟨_, _, _, _, H, _⟩ := hS; rw [slices_insertionSortCmpFunc_impl_Group_at83.l0] at H; cases H
 clear H
 obtain ⟨x1_ml0, x1_1, x1_2, x1_8, H, ex1_ml0, rfl⟩ := hS
 rw [slices_insertionSortCmpFunc_impl_Group_at83.l0] at H
 refine gs (gs (rg (sv (EV.mv rfl) rfl (sv (EV.mv rfl) rfl (sv (EV.lss rfl rfl) rfl (re ?_))))))
 revert H; refine ifsI ?_ ?_ <;> intro c1 H
 ·
  refine gt rfl (dT c1) (gk (gs (gb (gs (rg (sv (EV.mv rfl) rfl (sv (EV.as rfl) rfl (re (gb ?_)))))))))
  refine lo (fun kk S => ∃ (x5_ml0 : List S49) (x5_1 : Int) (x5_2 : Int) (x5_8 : Int) (x5_9 : Int), kk ≤ n0 ∧ slices_insertionSortCmpFunc_impl_Group_at83.l1 kk x5_ml0 x5_1 x5_2 x5_8 x5_9 = some r0 ∧ x5_ml0.length = l0.length ∧ S = ⟨[(0, .slice Al0 x5_ml0.length cl0), (1, .int .i64 x5_1), (2, .int .i64 x5_2), (3, .func (.func 83) #[] #[]), (8, .int .i64 x5_8), (9, .int .i64 x5_9)], [], [.sl 1 k49 Al0 cl0 x5_ml0 1 false]⟩) (fun S hS => ?_) (fun n1 ih1 S hS => ?_) ⟨x1_ml0, x1_1, x1_2, x1_8, x1_8, by omega, H, (by first | rfl | assumption | omega | (simp only [List.length_set]; first | done | assumption | omega)), rfl⟩ (fun h => wk [0, 1, 2, 3, 8, 9] [] [⟨0, 1, 1, false⟩] h)
  · clear H; obtain ⟨_, _, _, _, _, _, H, _⟩ := hS; rw [slices_insertionSortCmpFunc_impl_Group_at83.l1] at H; cases H
  clear H
  obtain ⟨x5_ml0, x5_1, x5_2, x5_8, x5_9, lk1, H, ex5_ml0, rfl⟩ := hS
  rw [slices_insertionSortCmpFunc_impl_Group_at83.l1] at H
  refine gs (gs (dr [] [0] [] 17 rfl rfl rfl rfl (xv 0 [] [0] rfl (EV.mv rfl) rfl rfl rfl rfl (xv 1 [] [0] rfl (EV.mv rfl) rfl rfl rfl rfl (xv 2 [] [0] rfl (EV.gtr rfl rfl) rfl rfl rfl rfl (xv 3 [] [0] rfl (EV.mv rfl) rfl rfl rfl rfl ?_))))))
  revert H; refine ifsI ?_ ?_ <;> intro c2 H
  ·
   refine ts 21 rfl (dT c2) (xv 4 [] [0] rfl (EV.mv rfl) rfl rfl rfl rfl (xv 5 [] [0] rfl (EV.mv rfl) rfl rfl rfl rfl (xv 6 [] [0] rfl (EV.mv rfl) rfl rfl rfl rfl ?_)))
   revert H; refine ggI ?_; intro g3 H
   revert H; refine ggI ?_; intro g4 H
   refine xv 7 [] [0] rfl (EV.ix 0 rfl rfl rfl g3 g4 rfl) rfl rfl rfl rfl (xv 8 [] [0] rfl (EV.le (v := .agg #[.int .i64 ((rd_T49 x5_ml0 x5_9).f0), .int .i64 ((rd_T49 x5_ml0 x5_9).f1), .int .i64 ((rd_T49 x5_ml0 x5_9).f2), .int .i64 ((rd_T49 x5_ml0 x5_9).f3), .int .i64 ((rd_T49 x5_ml0 x5_9).f4)]) x5_9 0 (some 5) 0 z49 rfl rfl rfl g3 g4 rfl rfl rfl) rfl rfl rfl rfl (xv 9 [] [0] rfl (EV.mv rfl) rfl rfl rfl rfl (xv 10 [] [0] rfl (EV.mv rfl) rfl rfl rfl rfl (xv 11 [] [0] rfl (EV.sub rfl rfl) rfl rfl rfl rfl ?_))))
   revert H; refine ggI ?_; intro g5 H
   revert H; refine ggI ?_; intro g6 H
   refine xv 12 [] [0] rfl (EV.ix 0 rfl rfl rfl g5 g6 rfl) rfl rfl rfl rfl (xv 13 [] [0] rfl (EV.le (v := .agg #[.int .i64 ((rd_T49 x5_ml0 (wrap64 (x5_9 - 1))).f0), .int .i64 ((rd_T49 x5_ml0 (wrap64 (x5_9 - 1))).f1), .int .i64 ((rd_T49 x5_ml0 (wrap64 (x5_9 - 1))).f2), .int .i64 ((rd_T49 x5_ml0 (wrap64 (x5_9 - 1))).f3), .int .i64 ((rd_T49 x5_ml0 (wrap64 (x5_9 - 1))).f4)]) (wrap64 (x5_9 - 1)) 0 (some 5) 0 z49 rfl rfl rfl g5 g6 rfl rfl rfl) rfl rfl rfl rfl (one1 14 rfl rfl ?_))
   revert H; refine bdI ?_; rintro t7 A7 H
   refine cvf (f := 83) rfl (op_call (impl_MergeGroups_1.ok ((rd_T49 x5_ml0 x5_9).f0) ((rd_T49 x5_ml0 x5_9).f1) ((rd_T49 x5_ml0 x5_9).f2) ((rd_T49 x5_ml0 x5_9).f3) ((rd_T49 x5_ml0 x5_9).f4) ((rd_T49 x5_ml0 (wrap64 (x5_9 - 1))).f0) ((rd_T49 x5_ml0 (wrap64 (x5_9 - 1))).f1) ((rd_T49 x5_ml0 (wrap64 (x5_9 - 1))).f2) ((rd_T49 x5_ml0 (wrap64 (x5_9 - 1))).f3) ((rd_T49 x5_ml0 (wrap64 (x5_9 - 1))).f4) _ A7) [] 2 rfl rfl rfl rfl rfl ?_)
   rintro _ _ _ ⟨rfl, rfl, rfl⟩
   refine xs [] [0] rfl rfl rfl (xv 15 [] [0] rfl (EV.lss rfl rfl) rfl rfl rfl rfl (xv 16 [] [0] rfl (EV.pt rfl rfl rfl) rfl rfl rfl rfl (xd ?_)))
   revert H; refine ifsI ?_ ?_ <;> intro c8 H
   ·
    refine gt rfl (dT c8) (gk (gs (gb (dr [] [] [16, 17] 18 rfl rfl rfl rfl (xv 0 [] [] rfl (EV.mv rfl) rfl rfl rfl rfl (xv 1 [] [] rfl (EV.mv rfl) rfl rfl rfl rfl (xv 2 [] [] rfl (EV.mv rfl) rfl rfl rfl rfl (xv 3 [] [] rfl (EV.mv rfl) rfl rfl rfl rfl (xv 4 [] [] rfl (EV.sub rfl rfl) rfl rfl rfl rfl (xv 5 [] [] rfl (EV.mv rfl) rfl rfl rfl rfl (xv 6 [] [] rfl (EV.mv rfl) rfl rfl rfl rfl (xv 7 [] [] rfl (EV.sub rfl rfl) rfl rfl rfl rfl (xv 10 [] [] rfl (EV.mv rfl) rfl rfl rfl rfl (xv 11 [] [] rfl (EV.mv rfl) rfl rfl rfl rfl ?_))))))))))))))
    refine one2 8 12 rfl rfl rfl rfl ?_ ?_
    ·
     refine ov (EV.ix 0 rfl rfl rfl g5 g6 rfl) rfl (xs [] [] rfl rfl rfl ?_)
     refine one2 9 12 rfl rfl rfl rfl ?_ ?_
     ·
      refine ov (EV.le (v := .agg #[.int .i64 ((rd_T49 x5_ml0 (wrap64 (x5_9 - 1))).f0), .int .i64 ((rd_T49 x5_ml0 (wrap64 (x5_9 - 1))).f1), .int .i64 ((rd_T49 x5_ml0 (wrap64 (x5_9 - 1))).f2), .int .i64 ((rd_T49 x5_ml0 (wrap64 (x5_9 - 1))).f3), .int .i64 ((rd_T49 x5_ml0 (wrap64 (x5_9 - 1))).f4)]) (wrap64 (x5_9 - 1)) 0 (some 5) 0 z49 rfl rfl rfl g5 g6 rfl rfl rfl) rfl (xs [] [] rfl rfl rfl (one1 12 rfl rfl (ov (EV.ix 0 rfl rfl rfl g3 g4 rfl) rfl (xs [] [] rfl rfl rfl (one1 13 rfl rfl (ov (EV.le (v := .agg #[.int .i64 ((rd_T49 x5_ml0 x5_9).f0), .int .i64 ((rd_T49 x5_ml0 x5_9).f1), .int .i64 ((rd_T49 x5_ml0 x5_9).f2), .int .i64 ((rd_T49 x5_ml0 x5_9).f3), .int .i64 ((rd_T49 x5_ml0 x5_9).f4)]) x5_9 0 (some 5) 0 z49 rfl rfl rfl g3 g4 rfl rfl rfl) rfl (xs [] [] rfl rfl rfl (one1 14 rfl rfl (ov (EV.ix 0 rfl rfl rfl g3 g4 rfl) rfl (xs [] [] rfl rfl rfl (one1 15 rfl rfl ?_)))))))))))
      revert H; refine bdI ?_; intro s9 A9 H; have q9 := stl (Option.some.inj A9)
      refine op_stg x5_9 0 0 z49 (⟨(rd_T49 x5_ml0 (wrap64 (x5_9 - 1))).f0, (rd_T49 x5_ml0 (wrap64 (x5_9 - 1))).f1, (rd_T49 x5_ml0 (wrap64 (x5_9 - 1))).f2, (rd_T49 x5_ml0 (wrap64 (x5_9 - 1))).f3, (rd_T49 x5_ml0 (wrap64 (x5_9 - 1))).f4⟩ : S49) (Option.some.inj A9) rfl rfl rfl rfl g3 g4 rfl rfl rfl rfl dq rfl (rlT 0 (v' := .slice Al0 s9.length cl0) rfl (slq _ _ q9) (rlT 23 (v' := .slice Al0 s9.length cl0) rfl (slq _ _ q9) (rlT 27 (v' := .slice Al0 s9.length cl0) rfl (slq _ _ q9) (rlT 37 (v' := .slice Al0 s9.length cl0) rfl (slq _ _ q9) (rlT 39 (v' := .slice Al0 s9.length cl0) rfl (slq _ _ q9) (rlT 42 (v' := .slice Al0 s9.length cl0) rfl (slq _ _ q9) (rlT 47 (v' := .slice Al0 s9.length cl0) rfl (slq _ _ q9) (nmE (en := [.sl 1 k49 Al0 cl0 s9 1 true]) (by kernel_rfl) (xs [] [] rfl rfl rfl (one1 16 rfl rfl ?_))))))))))
      revert H; refine ggI ?_; intro g10 H
      refine ov (EV.ix 0 rfl rfl rfl g5 g10 rfl) rfl (xn rfl (one1 17 rfl rfl ?_))
      revert H; refine bdI ?_; intro s11 A11 H; have q11 := stl (Option.some.inj A11)
      exact op_stg (wrap64 (x5_9 - 1)) 0 0 z49 (⟨(rd_T49 x5_ml0 x5_9).f0, (rd_T49 x5_ml0 x5_9).f1, (rd_T49 x5_ml0 x5_9).f2, (rd_T49 x5_ml0 x5_9).f3, (rd_T49 x5_ml0 x5_9).f4⟩ : S49) (Option.some.inj A11) rfl rfl rfl rfl g5 g10 rfl rfl rfl rfl dq rfl (rlT 0 (v' := .slice Al0 s11.length cl0) rfl (slq _ _ q11) (rlT 23 (v' := .slice Al0 s11.length cl0) rfl (slq _ _ q11) (rlT 27 (v' := .slice Al0 s11.length cl0) rfl (slq _ _ q11) (rlT 37 (v' := .slice Al0 s11.length cl0) rfl (slq _ _ q11) (rlT 39 (v' := .slice Al0 s11.length cl0) rfl (slq _ _ q11) (rlT 42 (v' := .slice Al0 s11.length cl0) rfl (slq _ _ q11) (rlT 47 (v' := .slice Al0 s11.length cl0) rfl (slq _ _ q11) (nmE (en := [.sl 1 k49 Al0 cl0 s11 1 true]) (by kernel_rfl) (xn rfl (xd (pr [0, 1, 2, 3, 8, 9, 22, 23, 24, 26, 27, 28, 29, 31, 32, 33] [] [0] rfl rfl rfl rfl (ge (rg (sv (EV.mv rfl) rfl (sv (EV.sub rfl rfl) rfl (sv (EV.as rfl) rfl (re (wk [0, 1, 2, 3, 8, 9] [] [⟨0, 1, 1, false⟩] (ih1 _ (by omega) _ ⟨s11, x5_1, x5_2, x5_8, wrap64 (x5_9 - 1), by omega, H, (by first | rfl | assumption | omega | (simp only [List.length_set]; first | done | assumption | omega)), rfl⟩)))))))))))))))))))
     ·
      refine ov (EV.ix 0 rfl rfl rfl g3 g4 rfl) rfl (xs [] [] rfl rfl rfl ?_)
      refine one2 9 13 rfl rfl rfl rfl ?_ ?_
      ·
       refine ov (EV.le (v := .agg #[.int .i64 ((rd_T49 x5_ml0 (wrap64 (x5_9 - 1))).f0), .int .i64 ((rd_T49 x5_ml0 (wrap64 (x5_9 - 1))).f1), .int .i64 ((rd_T49 x5_ml0 (wrap64 (x5_9 - 1))).f2), .int .i64 ((rd_T49 x5_ml0 (wrap64 (x5_9 - 1))).f3), .int .i64 ((rd_T49 x5_ml0 (wrap64 (x5_9 - 1))).f4)]) (wrap64 (x5_9 - 1)) 0 (some 5) 0 z49 rfl rfl rfl g5 g6 rfl rfl rfl) rfl (xs [] [] rfl rfl rfl (one1 13 rfl rfl (ov (EV.le (v := .agg #[.int .i64 ((rd_T49 x5_ml0 x5_9).f0), .int .i64 ((rd_T49 x5_ml0 x5_9).f1), .int .i64 ((rd_T49 x5_ml0 x5_9).f2), .int .i64 ((rd_T49 x5_ml0 x5_9).f3), .int .i64 ((rd_T49 x5_ml0 x5_9).f4)]) x5_9 0 (some 5) 0 z49 rfl rfl rfl g3 g4 rfl rfl rfl) rfl (xs [] [] rfl rfl rfl (one1 14 rfl rfl (ov (EV.ix 0 rfl rfl rfl g3 g4 rfl) rfl (xs [] [] rfl rfl rfl (one1 15 rfl rfl ?_))))))))
       revert H; refine bdI ?_; intro s12 A12 H; have q12 := stl (Option.some.inj A12)
       refine op_stg x5_9 0 0 z49 (⟨(rd_T49 x5_ml0 (wrap64 (x5_9 - 1))).f0, (rd_T49 x5_ml0 (wrap64 (x5_9 - 1))).f1, (rd_T49 x5_ml0 (wrap64 (x5_9 - 1))).f2, (rd_T49 x5_ml0 (wrap64 (x5_9 - 1))).f3, (rd_T49 x5_ml0 (wrap64 (x5_9 - 1))).f4⟩ : S49) (Option.some.inj A12) rfl rfl rfl rfl g3 g4 rfl rfl rfl rfl dq rfl (rlT 0 (v' := .slice Al0 s12.length cl0) rfl (slq _ _ q12) (rlT 23 (v' := .slice Al0 s12.length cl0) rfl (slq _ _ q12) (rlT 27 (v' := .slice Al0 s12.length cl0) rfl (slq _ _ q12) (rlT 37 (v' := .slice Al0 s12.length cl0) rfl (slq _ _ q12) (rlT 39 (v' := .slice Al0 s12.length cl0) rfl (slq _ _ q12) (rlT 42 (v' := .slice Al0 s12.length cl0) rfl (slq _ _ q12) (rlT 47 (v' := .slice Al0 s12.length cl0) rfl (slq _ _ q12) (nmE (en := [.sl 1 k49 Al0 cl0 s12 1 true]) (by kernel_rfl) (xs [] [] rfl rfl rfl (one1 16 rfl rfl ?_))))))))))
       revert H; refine ggI ?_; intro g13 H
       refine ov (EV.ix 0 rfl rfl rfl g5 g13 rfl) rfl (xn rfl (one1 17 rfl rfl ?_))
       revert H; refine bdI ?_; intro s14 A14 H; have q14 := stl (Option.some.inj A14)
       exact op_stg (wrap64 (x5_9 - 1)) 0 0 z49 (⟨(rd_T49 x5_ml0 x5_9).f0, (rd_T49 x5_ml0 x5_9).f1, (rd_T49 x5_ml0 x5_9).f2, (rd_T49 x5_ml0 x5_9).f3, (rd_T49 x5_ml0 x5_9).f4⟩ : S49) (Option.some.inj A14) rfl rfl rfl rfl g5 g13 rfl rfl rfl rfl dq rfl (rlT 0 (v' := .slice Al0 s14.length cl0) rfl (slq _ _ q14) (rlT 23 (v' := .slice Al0 s14.length cl0) rfl (slq _ _ q14) (rlT 27 (v' := .slice Al0 s14.length cl0) rfl (slq _ _ q14) (rlT 37 (v' := .slice Al0 s14.length cl0) rfl (slq _ _ q14) (rlT 39 (v' := .slice Al0 s14.length cl0) rfl (slq _ _ q14) (rlT 42 (v' := .slice Al0 s14.length cl0) rfl (slq _ _ q14) (rlT 47 (v' := .slice Al0 s14.length cl0) rfl (slq _ _ q14) (nmE (en := [.sl 1 k49 Al0 cl0 s14 1 true]) (by kernel_rfl) (xn rfl (xd (pr [0, 1, 2, 3, 8, 9, 22, 23, 24, 26, 27, 28, 29, 31, 32, 33] [] [0] rfl rfl rfl rfl (ge (rg (sv (EV.mv rfl) rfl (sv (EV.sub rfl rfl) rfl (sv (EV.as rfl) rfl (re (wk [0, 1, 2, 3, 8, 9] [] [⟨0, 1, 1, false⟩] (ih1 _ (by omega) _ ⟨s14, x5_1, x5_2, x5_8, wrap64 (x5_9 - 1), by omega, H, (by first | rfl | assumption | omega | (simp only [List.length_set]; first | done | assumption | omega)), rfl⟩)))))))))))))))))))
      ·
       refine ov (EV.le (v := .agg #[.int .i64 ((rd_T49 x5_ml0 x5_9).f0), .int .i64 ((rd_T49 x5_ml0 x5_9).f1), .int .i64 ((rd_T49 x5_ml0 x5_9).f2), .int .i64 ((rd_T49 x5_ml0 x5_9).f3), .int .i64 ((rd_T49 x5_ml0 x5_9).f4)]) x5_9 0 (some 5) 0 z49 rfl rfl rfl g3 g4 rfl rfl rfl) rfl (xs [] [] rfl rfl rfl (one1 9 rfl rfl (ov (EV.le (v := .agg #[.int .i64 ((rd_T49 x5_ml0 (wrap64 (x5_9 - 1))).f0), .int .i64 ((rd_T49 x5_ml0 (wrap64 (x5_9 - 1))).f1), .int .i64 ((rd_T49 x5_ml0 (wrap64 (x5_9 - 1))).f2), .int .i64 ((rd_T49 x5_ml0 (wrap64 (x5_9 - 1))).f3), .int .i64 ((rd_T49 x5_ml0 (wrap64 (x5_9 - 1))).f4)]) (wrap64 (x5_9 - 1)) 0 (some 5) 0 z49 rfl rfl rfl g5 g6 rfl rfl rfl) rfl (xs [] [] rfl rfl rfl (one1 14 rfl rfl (ov (EV.ix 0 rfl rfl rfl g3 g4 rfl) rfl (xs [] [] rfl rfl rfl (one1 15 rfl rfl ?_))))))))
       revert H; refine bdI ?_; intro s15 A15 H; have q15 := stl (Option.some.inj A15)
       refine op_stg x5_9 0 0 z49 (⟨(rd_T49 x5_ml0 (wrap64 (x5_9 - 1))).f0, (rd_T49 x5_ml0 (wrap64 (x5_9 - 1))).f1, (rd_T49 x5_ml0 (wrap64 (x5_9 - 1))).f2, (rd_T49 x5_ml0 (wrap64 (x5_9 - 1))).f3, (rd_T49 x5_ml0 (wrap64 (x5_9 - 1))).f4⟩ : S49) (Option.some.inj A15) rfl rfl rfl rfl g3 g4 rfl rfl rfl rfl dq rfl (rlT 0 (v' := .slice Al0 s15.length cl0) rfl (slq _ _ q15) (rlT 23 (v' := .slice Al0 s15.length cl0) rfl (slq _ _ q15) (rlT 27 (v' := .slice Al0 s15.length cl0) rfl (slq _ _ q15) (rlT 37 (v' := .slice Al0 s15.length cl0) rfl (slq _ _ q15) (rlT 39 (v' := .slice Al0 s15.length cl0) rfl (slq _ _ q15) (rlT 42 (v' := .slice Al0 s15.length cl0) rfl (slq _ _ q15) (rlT 47 (v' := .slice Al0 s15.length cl0) rfl (slq _ _ q15) (nmE (en := [.sl 1 k49 Al0 cl0 s15 1 true]) (by kernel_rfl) (xs [] [] rfl rfl rfl (one1 16 rfl rfl ?_))))))))))
       revert H; refine ggI ?_; intro g16 H
       refine ov (EV.ix 0 rfl rfl rfl g5 g16 rfl) rfl (xn rfl (one1 17 rfl rfl ?_))
       revert H; refine bdI ?_; intro s17 A17 H; have q17 := stl (Option.some.inj A17)
       exact op_stg (wrap64 (x5_9 - 1)) 0 0 z49 (⟨(rd_T49 x5_ml0 x5_9).f0, (rd_T49 x5_ml0 x5_9).f1, (rd_T49 x5_ml0 x5_9).f2, (rd_T49 x5_ml0 x5_9).f3, (rd_T49 x5_ml0 x5_9).f4⟩ : S49) (Option.some.inj A17) rfl rfl rfl rfl g5 g16 rfl rfl rfl rfl dq rfl (rlT 0 (v' := .slice Al0 s17.length cl0) rfl (slq _ _ q17) (rlT 23 (v' := .slice Al0 s17.length cl0) rfl (slq _ _ q17) (rlT 27 (v' := .slice Al0 s17.length cl0) rfl (slq _ _ q17) (rlT 37 (v' := .slice Al0 s17.length cl0) rfl (slq _ _ q17) (rlT 39 (v' := .slice Al0 s17.length cl0) rfl (slq _ _ q17) (rlT 42 (v' := .slice Al0 s17.length cl0) rfl (slq _ _ q17) (rlT 47 (v' := .slice Al0 s17.length cl0) rfl (slq _ _ q17) (nmE (en := [.sl 1 k49 Al0 cl0 s17 1 true]) (by kernel_rfl) (xn rfl (xd (pr [0, 1, 2, 3, 8, 9, 22, 23, 24, 26, 27, 28, 29, 31, 32, 33] [] [0] rfl rfl rfl rfl (ge (rg (sv (EV.mv rfl) rfl (sv (EV.sub rfl rfl) rfl (sv (EV.as rfl) rfl (re (wk [0, 1, 2, 3, 8, 9] [] [⟨0, 1, 1, false⟩] (ih1 _ (by omega) _ ⟨s17, x5_1, x5_2, x5_8, wrap64 (x5_9 - 1), by omega, H, (by first | rfl | assumption | omega | (simp only [List.length_set]; first | done | assumption | omega)), rfl⟩)))))))))))))))))))
    ·
     refine ov (EV.ix 0 rfl rfl rfl g3 g4 rfl) rfl (xs [] [] rfl rfl rfl ?_)
     refine one2 8 13 rfl rfl rfl rfl ?_ ?_
     ·
      refine ov (EV.ix 0 rfl rfl rfl g5 g6 rfl) rfl (xs [] [] rfl rfl rfl ?_)
      refine one2 9 13 rfl rfl rfl rfl ?_ ?_
      ·
       refine ov (EV.le (v := .agg #[.int .i64 ((rd_T49 x5_ml0 (wrap64 (x5_9 - 1))).f0), .int .i64 ((rd_T49 x5_ml0 (wrap64 (x5_9 - 1))).f1), .int .i64 ((rd_T49 x5_ml0 (wrap64 (x5_9 - 1))).f2), .int .i64 ((rd_T49 x5_ml0 (wrap64 (x5_9 - 1))).f3), .int .i64 ((rd_T49 x5_ml0 (wrap64 (x5_9 - 1))).f4)]) (wrap64 (x5_9 - 1)) 0 (some 5) 0 z49 rfl rfl rfl g5 g6 rfl rfl rfl) rfl (xs [] [] rfl rfl rfl (one1 13 rfl rfl (ov (EV.le (v := .agg #[.int .i64 ((rd_T49 x5_ml0 x5_9).f0), .int .i64 ((rd_T49 x5_ml0 x5_9).f1), .int .i64 ((rd_T49 x5_ml0 x5_9).f2), .int .i64 ((rd_T49 x5_ml0 x5_9).f3), .int .i64 ((rd_T49 x5_ml0 x5_9).f4)]) x5_9 0 (some 5) 0 z49 rfl rfl rfl g3 g4 rfl rfl rfl) rfl (xs [] [] rfl rfl rfl (one1 14 rfl rfl (ov (EV.ix 0 rfl rfl rfl g3 g4 rfl) rfl (xs [] [] rfl rfl rfl (one1 15 rfl rfl ?_))))))))
       revert H; refine bdI ?_; intro s18 A18 H; have q18 := stl (Option.some.inj A18)
       refine op_stg x5_9 0 0 z49 (⟨(rd_T49 x5_ml0 (wrap64 (x5_9 - 1))).f0, (rd_T49 x5_ml0 (wrap64 (x5_9 - 1))).f1, (rd_T49 x5_ml0 (wrap64 (x5_9 - 1))).f2, (rd_T49 x5_ml0 (wrap64 (x5_9 - 1))).f3, (rd_T49 x5_ml0 (wrap64 (x5_9 - 1))).f4⟩ : S49) (Option.some.inj A18) rfl rfl rfl rfl g3 g4 rfl rfl rfl rfl dq rfl (rlT 0 (v' := .slice Al0 s18.length cl0) rfl (slq _ _ q18) (rlT 23 (v' := .slice Al0 s18.length cl0) rfl (slq _ _ q18) (rlT 27 (v' := .slice Al0 s18.length cl0) rfl (slq _ _ q18) (rlT 37 (v' := .slice Al0 s18.length cl0) rfl (slq _ _ q18) (rlT 39 (v' := .slice Al0 s18.length cl0) rfl (slq _ _ q18) (rlT 42 (v' := .slice Al0 s18.length cl0) rfl (slq _ _ q18) (rlT 47 (v' := .slice Al0 s18.length cl0) rfl (slq _ _ q18) (nmE (en := [.sl 1 k49 Al0 cl0 s18 1 true]) (by kernel_rfl) (xs [] [] rfl rfl rfl (one1 16 rfl rfl ?_))))))))))
       revert H; refine ggI ?_; intro g19 H
       refine ov (EV.ix 0 rfl rfl rfl g5 g19 rfl) rfl (xn rfl (one1 17 rfl rfl ?_))
       revert H; refine bdI ?_; intro s20 A20 H; have q20 := stl (Option.some.inj A20)
       exact op_stg (wrap64 (x5_9 - 1)) 0 0 z49 (⟨(rd_T49 x5_ml0 x5_9).f0, (rd_T49 x5_ml0 x5_9).f1, (rd_T49 x5_ml0 x5_9).f2, (rd_T49 x5_ml0 x5_9).f3, (rd_T49 x5_ml0 x5_9).f4⟩ : S49) (Option.some.inj A20) rfl rfl rfl rfl g5 g19 rfl rfl rfl rfl dq rfl (rlT 0 (v' := .slice Al0 s20.length cl0) rfl (slq _ _ q20) (rlT 23 (v' := .slice Al0 s20.length cl0) rfl (slq _ _ q20) (rlT 27 (v' := .slice Al0 s20.length cl0) rfl (slq _ _ q20) (rlT 37 (v' := .slice Al0 s20.length cl0) rfl (slq _ _ q20) (rlT 39 (v' := .slice Al0 s20.length cl0) rfl (slq _ _ q20) (rlT 42 (v' := .slice Al0 s20.length cl0) rfl (slq _ _ q20) (rlT 47 (v' := .slice Al0 s20.length cl0) rfl (slq _ _ q20) (nmE (en := [.sl 1 k49 Al0 cl0 s20 1 true]) (by kernel_rfl) (xn rfl (xd (pr [0, 1, 2, 3, 8, 9, 22, 23, 24, 26, 27, 28, 29, 31, 32, 33] [] [0] rfl rfl rfl rfl (ge (rg (sv (EV.mv rfl) rfl (sv (EV.sub rfl rfl) rfl (sv (EV.as rfl) rfl (re (wk [0, 1, 2, 3, 8, 9] [] [⟨0, 1, 1, false⟩] (ih1 _ (by omega) _ ⟨s20, x5_1, x5_2, x5_8, wrap64 (x5_9 - 1), by omega, H, (by first | rfl | assumption | omega | (simp only [List.length_set]; first | done | assumption | omega)), rfl⟩)))))))))))))))))))
      ·
       refine ov (EV.le (v := .agg #[.int .i64 ((rd_T49 x5_ml0 x5_9).f0), .int .i64 ((rd_T49 x5_ml0 x5_9).f1), .int .i64 ((rd_T49 x5_ml0 x5_9).f2), .int .i64 ((rd_T49 x5_ml0 x5_9).f3), .int .i64 ((rd_T49 x5_ml0 x5_9).f4)]) x5_9 0 (some 5) 0 z49 rfl rfl rfl g3 g4 rfl rfl rfl) rfl (xs [] [] rfl rfl rfl (one1 9 rfl rfl (ov (EV.le (v := .agg #[.int .i64 ((rd_T49 x5_ml0 (wrap64 (x5_9 - 1))).f0), .int .i64 ((rd_T49 x5_ml0 (wrap64 (x5_9 - 1))).f1), .int .i64 ((rd_T49 x5_ml0 (wrap64 (x5_9 - 1))).f2), .int .i64 ((rd_T49 x5_ml0 (wrap64 (x5_9 - 1))).f3), .int .i64 ((rd_T49 x5_ml0 (wrap64 (x5_9 - 1))).f4)]) (wrap64 (x5_9 - 1)) 0 (some 5) 0 z49 rfl rfl rfl g5 g6 rfl rfl rfl) rfl (xs [] [] rfl rfl rfl (one1 14 rfl rfl (ov (EV.ix 0 rfl rfl rfl g3 g4 rfl) rfl (xs [] [] rfl rfl rfl (one1 15 rfl rfl ?_))))))))
       revert H; refine bdI ?_; intro s21 A21 H; have q21 := stl (Option.some.inj A21)
       refine op_stg x5_9 0 0 z49 (⟨(rd_T49 x5_ml0 (wrap64 (x5_9 - 1))).f0, (rd_T49 x5_ml0 (wrap64 (x5_9 - 1))).f1, (rd_T49 x5_ml0 (wrap64 (x5_9 - 1))).f2, (rd_T49 x5_ml0 (wrap64 (x5_9 - 1))).f3, (rd_T49 x5_ml0 (wrap64 (x5_9 - 1))).f4⟩ : S49) (Option.some.inj A21) rfl rfl rfl rfl g3 g4 rfl rfl rfl rfl dq rfl (rlT 0 (v' := .slice Al0 s21.length cl0) rfl (slq _ _ q21) (rlT 23 (v' := .slice Al0 s21.length cl0) rfl (slq _ _ q21) (rlT 27 (v' := .slice Al0 s21.length cl0) rfl (slq _ _ q21) (rlT 37 (v' := .slice Al0 s21.length cl0) rfl (slq _ _ q21) (rlT 39 (v' := .slice Al0 s21.length cl0) rfl (slq _ _ q21) (rlT 42 (v' := .slice Al0 s21.length cl0) rfl (slq _ _ q21) (rlT 47 (v' := .slice Al0 s21.length cl0) rfl (slq _ _ q21) (nmE (en := [.sl 1 k49 Al0 cl0 s21 1 true]) (by kernel_rfl) (xs [] [] rfl rfl rfl (one1 16 rfl rfl ?_))))))))))
       revert H; refine ggI ?_; intro g22 H
       refine ov (EV.ix 0 rfl rfl rfl g5 g22 rfl) rfl (xn rfl (one1 17 rfl rfl ?_))
       revert H; refine bdI ?_; intro s23 A23 H; have q23 := stl (Option.some.inj A23)
       exact op_stg (wrap64 (x5_9 - 1)) 0 0 z49 (⟨(rd_T49 x5_ml0 x5_9).f0, (rd_T49 x5_ml0 x5_9).f1, (rd_T49 x5_ml0 x5_9).f2, (rd_T49 x5_ml0 x5_9).f3, (rd_T49 x5_ml0 x5_9).f4⟩ : S49) (Option.some.inj A23) rfl rfl rfl rfl g5 g22 rfl rfl rfl rfl dq rfl (rlT 0 (v' := .slice Al0 s23.length cl0) rfl (slq _ _ q23) (rlT 23 (v' := .slice Al0 s23.length cl0) rfl (slq _ _ q23) (rlT 27 (v' := .slice Al0 s23.length cl0) rfl (slq _ _ q23) (rlT 37 (v' := .slice Al0 s23.length cl0) rfl (slq _ _ q23) (rlT 39 (v' := .slice Al0 s23.length cl0) rfl (slq _ _ q23) (rlT 42 (v' := .slice Al0 s23.length cl0) rfl (slq _ _ q23) (rlT 47 (v' := .slice Al0 s23.length cl0) rfl (slq _ _ q23) (nmE (en := [.sl 1 k49 Al0 cl0 s23 1 true]) (by kernel_rfl) (xn rfl (xd (pr [0, 1, 2, 3, 8, 9, 22, 23, 24, 26, 27, 28, 29, 31, 32, 33] [] [0] rfl rfl rfl rfl (ge (rg (sv (EV.mv rfl) rfl (sv (EV.sub rfl rfl) rfl (sv (EV.as rfl) rfl (re (wk [0, 1, 2, 3, 8, 9] [] [⟨0, 1, 1, false⟩] (ih1 _ (by omega) _ ⟨s23, x5_1, x5_2, x5_8, wrap64 (x5_9 - 1), by omega, H, (by first | rfl | assumption | omega | (simp only [List.length_set]; first | done | assumption | omega)), rfl⟩)))))))))))))))))))
     ·
      refine ov (EV.le (v := .agg #[.int .i64 ((rd_T49 x5_ml0 x5_9).f0), .int .i64 ((rd_T49 x5_ml0 x5_9).f1), .int .i64 ((rd_T49 x5_ml0 x5_9).f2), .int .i64 ((rd_T49 x5_ml0 x5_9).f3), .int .i64 ((rd_T49 x5_ml0 x5_9).f4)]) x5_9 0 (some 5) 0 z49 rfl rfl rfl g3 g4 rfl rfl rfl) rfl (xs [] [] rfl rfl rfl (one1 8 rfl rfl (ov (EV.ix 0 rfl rfl rfl g5 g6 rfl) rfl (xs [] [] rfl rfl rfl (one1 9 rfl rfl (ov (EV.le (v := .agg #[.int .i64 ((rd_T49 x5_ml0 (wrap64 (x5_9 - 1))).f0), .int .i64 ((rd_T49 x5_ml0 (wrap64 (x5_9 - 1))).f1), .int .i64 ((rd_T49 x5_ml0 (wrap64 (x5_9 - 1))).f2), .int .i64 ((rd_T49 x5_ml0 (wrap64 (x5_9 - 1))).f3), .int .i64 ((rd_T49 x5_ml0 (wrap64 (x5_9 - 1))).f4)]) (wrap64 (x5_9 - 1)) 0 (some 5) 0 z49 rfl rfl rfl g5 g6 rfl rfl rfl) rfl (xs [] [] rfl rfl rfl (one1 14 rfl rfl (ov (EV.ix 0 rfl rfl rfl g3 g4 rfl) rfl (xs [] [] rfl rfl rfl (one1 15 rfl rfl ?_)))))))))))
      revert H; refine bdI ?_; intro s24 A24 H; have q24 := stl (Option.some.inj A24)
      refine op_stg x5_9 0 0 z49 (⟨(rd_T49 x5_ml0 (wrap64 (x5_9 - 1))).f0, (rd_T49 x5_ml0 (wrap64 (x5_9 - 1))).f1, (rd_T49 x5_ml0 (wrap64 (x5_9 - 1))).f2, (rd_T49 x5_ml0 (wrap64 (x5_9 - 1))).f3, (rd_T49 x5_ml0 (wrap64 (x5_9 - 1))).f4⟩ : S49) (Option.some.inj A24) rfl rfl rfl rfl g3 g4 rfl rfl rfl rfl dq rfl (rlT 0 (v' := .slice Al0 s24.length cl0) rfl (slq _ _ q24) (rlT 23 (v' := .slice Al0 s24.length cl0) rfl (slq _ _ q24) (rlT 27 (v' := .slice Al0 s24.length cl0) rfl (slq _ _ q24) (rlT 37 (v' := .slice Al0 s24.length cl0) rfl (slq _ _ q24) (rlT 39 (v' := .slice Al0 s24.length cl0) rfl (slq _ _ q24) (rlT 42 (v' := .slice Al0 s24.length cl0) rfl (slq _ _ q24) (rlT 47 (v' := .slice Al0 s24.length cl0) rfl (slq _ _ q24) (nmE (en := [.sl 1 k49 Al0 cl0 s24 1 true]) (by kernel_rfl) (xs [] [] rfl rfl rfl (one1 16 rfl rfl ?_))))))))))
      revert H; refine ggI ?_; intro g25 H
      refine ov (EV.ix 0 rfl rfl rfl g5 g25 rfl) rfl (xn rfl (one1 17 rfl rfl ?_))
      revert H; refine bdI ?_; intro s26 A26 H; have q26 := stl (Option.some.inj A26)
      exact op_stg (wrap64 (x5_9 - 1)) 0 0 z49 (⟨(rd_T49 x5_ml0 x5_9).f0, (rd_T49 x5_ml0 x5_9).f1, (rd_T49 x5_ml0 x5_9).f2, (rd_T49 x5_ml0 x5_9).f3, (rd_T49 x5_ml0 x5_9).f4⟩ : S49) (Option.some.inj A26) rfl rfl rfl rfl g5 g25 rfl rfl rfl rfl dq rfl (rlT 0 (v' := .slice Al0 s26.length cl0) rfl (slq _ _ q26) (rlT 23 (v' := .slice Al0 s26.length cl0) rfl (slq _ _ q26) (rlT 27 (v' := .slice Al0 s26.length cl0) rfl (slq _ _ q26) (rlT 37 (v' := .slice Al0 s26.length cl0) rfl (slq _ _ q26) (rlT 39 (v' := .slice Al0 s26.length cl0) rfl (slq _ _ q26) (rlT 42 (v' := .slice Al0 s26.length cl0) rfl (slq _ _ q26) (rlT 47 (v' := .slice Al0 s26.length cl0) rfl (slq _ _ q26) (nmE (en := [.sl 1 k49 Al0 cl0 s26 1 true]) (by kernel_rfl) (xn rfl (xd (pr [0, 1, 2, 3, 8, 9, 22, 23, 24, 26, 27, 28, 29, 31, 32, 33] [] [0] rfl rfl rfl rfl (ge (rg (sv (EV.mv rfl) rfl (sv (EV.sub rfl rfl) rfl (sv (EV.as rfl) rfl (re (wk [0, 1, 2, 3, 8, 9] [] [⟨0, 1, 1, false⟩] (ih1 _ (by omega) _ ⟨s26, x5_1, x5_2, x5_8, wrap64 (x5_9 - 1), by omega, H, (by first | rfl | assumption | omega | (simp only [List.length_set]; first | done | assumption | omega)), rfl⟩)))))))))))))))))))
   ·
    exact gf rfl (dF c8) (gx rfl (ge (rg (sv (EV.mv rfl) rfl (sv (EV.add rfl rfl) rfl (sv (EV.as rfl) rfl (re (pr [0, 1, 2, 3, 8, 22, 23, 24, 25, 26, 27, 28, 29, 30, 31, 32, 33] [] [0] rfl rfl rfl rfl (wk [0, 1, 2, 3, 8] [] [⟨0, 1, 1, false⟩] (ih0 _ (by omega) _ ⟨x5_ml0, x5_1, x5_2, wrap64 (x5_8 + 1), H, (by first | rfl | assumption | omega | (simp only [List.length_set]; first | done | assumption | omega)), rfl⟩))))))))))
  ·
   exact ts 21 rfl (dF c2) (xk 4 [] [0] rfl rfl rfl rfl rfl (xk 5 [] [0] rfl rfl rfl rfl rfl (xk 6 [] [0] rfl rfl rfl rfl rfl (xk 7 [] [0] rfl rfl rfl rfl rfl (xk 8 [] [0] rfl rfl rfl rfl rfl (xk 9 [] [0] rfl rfl rfl rfl rfl (xk 10 [] [0] rfl rfl rfl rfl rfl (xk 11 [] [0] rfl rfl rfl rfl rfl (xk 12 [] [0] rfl rfl rfl rfl rfl (xk 13 [] [0] rfl rfl rfl rfl rfl (xk 14 [] [0] rfl rfl rfl rfl rfl (xk 15 [] [0] rfl rfl rfl rfl rfl (xv 16 [] [0] rfl (EV.pf rfl rfl rfl) rfl rfl rfl rfl (xd (pr [0, 1, 2, 3, 8, 9, 34] [] [0] rfl rfl rfl rfl (gf rfl rfl (gx rfl (ge (rg (sv (EV.mv rfl) rfl (sv (EV.add rfl rfl) rfl (sv (EV.as rfl) rfl (re (wk [0, 1, 2, 3, 8] [] [⟨0, 1, 1, false⟩] (ih0 _ (by omega) _ ⟨x5_ml0, x5_1, x5_2, wrap64 (x5_8 + 1), H, (by first | rfl | assumption | omega | (simp only [List.length_set]; first | done | assumption | omega)), rfl⟩)))))))))))))))))))))))))
 ·
  refine gf rfl (dF c1) (gx rfl ?_)
  cases H
  exact rt0 Try.func97 rfl .nil rfl [] [⟨0, 1, 1, false⟩] rfl rfl rfl rfl rfl ⟨rfl, rfl, rfl, by first | rfl | assumption | omega | (simp only [List.length_set]; first | done | assumption | omega)⟩
def slices_pdqsortCmpFunc_impl_Group_at83.l0 : Nat → (List S49) → Int → Int → Int → Bool → Bool → Option ((List S49))
 | 0, _, _, _, _, _, _ => none
 | k + 1, x1_ml0, x1_1, x1_2, x1_3, x1_10, x1_11 => if (wrap64 (x1_2 - x1_1)) ≤ 12 then ((slices_insertionSortCmpFunc_impl_Group_at83.f k x1_ml0 x1_1 x1_2).bind fun t2 => (some t2)) else (if x1_3 = 0 then (none) else (if x1_10 = true then (none) else (none)))
def slices_pdqsortCmpFunc_impl_Group_at83.f : Nat → (List S49) → Int → Int → Int → Option ((List S49))
 | 0, _, _, _, _ => none
 | k + 1, l0, a1, a2, a3 => slices_pdqsortCmpFunc_impl_Group_at83.l0 k l0 a1 a2 a3 true true
set_option maxHeartbeats 4000000 in
set_option maxRecDepth 100000 in
theorem slices_pdqsortCmpFunc_impl_Group_at83.ok : ∀ (k : Nat) (l0 : List S49) (Al0 : Option Addr) (cl0 : Nat) (a1 : Int) (a2 : Int) (a3 : Int) (r0 : List S49) (h : slices_pdqsortCmpFunc_impl_Group_at83.f k l0 a1 a2 a3 = some r0), Fn Try.prog 94 [.slice Al0 l0.length cl0, .int .i64 a1, .int .i64 a2, .int .i64 a3, .func (.func 83) #[] #[]] [] [.sl 1 k49 Al0 cl0 l0 1 false] (fun v bx en => v = .tuple #[] ∧ bx = [] ∧ en = [.sl 1 k49 Al0 cl0 r0 1 false] ∧ r0.length = l0.length) := by
 intro k
 induction k with
 | zero => intro l0 Al0 cl0 a1 a2 a3 r0 h; rw [slices_pdqsortCmpFunc_impl_Group_at83.f] at h; cases h
 | succ k ih =>
 intro l0 Al0 cl0 a1 a2 a3 r0 H
 refine fn_ 148 Try.func94 rfl rfl rfl (fun base T w0 => ?_)
 rw [slices_pdqsortCmpFunc_impl_Group_at83.f] at H
 refine gs (rg (sv (EV.as rfl) rfl (re (gs (rg (sv (EV.as rfl) rfl (re (gb ?_))))))))
 refine lo (fun kk S => ∃ (x1_ml0 : List S49) (x1_1 : Int) (x1_2 : Int) (x1_3 : Int) (x1_10 : Bool) (x1_11 : Bool), slices_pdqsortCmpFunc_impl_Group_at83.l0 kk x1_ml0 x1_1 x1_2 x1_3 x1_10 x1_11 = some r0 ∧ x1_ml0.length = l0.length ∧ S = ⟨[(0, .slice Al0 x1_ml0.length cl0), (1, .int .i64 x1_1), (2, .int .i64 x1_2), (3, .int .i64 x1_3), (4, .func (.func 83) #[] #[]), (10, .bool x1_10), (11, .bool x1_11)], [], [.sl 1 k49 Al0 cl0 x1_ml0 1 false]⟩) (fun S hS => ?_) (fun n0 ih0 S hS => ?_) ⟨l0, a1, a2, a3, true, true, H, (by first | rfl | assumption | omega | (simp only [List.length_set]; first | done | assumption | omega)), rfl⟩ (fun h => wk [0, 1, 2, 3, 4, 10, 11] [] [⟨0, 1, 1, false⟩] h)
 · clear H; obtain ⟨_, _, _, _, _, _, H, _⟩ := hS; rw [slices_pdqsortCmpFunc_impl_Group_at83.l0] at H; cases H
 clear H
 obtain ⟨x1_ml0, x1_1, x1_2, x1_3, x1_10, x1_11, H, ex1_ml0, rfl⟩ := hS
 rw [slices_pdqsortCmpFunc_impl_Group_at83.l0] at H
 refine gb (gs (rg (sv (EV.mv rfl) rfl (sv (EV.mv rfl) rfl (sv (EV.sub rfl rfl) rfl (sv (EV.as rfl) rfl (re (gs (gs (rg (sv (EV.mv rfl) rfl (sv (EV.leq rfl rfl) rfl (re ?_)))))))))))))
 revert H; refine ifsI ?_ ?_ <;> intro c1 H
 ·
  refine gt rfl (dT c1) (gs (rg (sv (EV.mv rfl) rfl (sv (EV.mv rfl) rfl (sv (EV.mv rfl) rfl (sv (EV.mv rfl) rfl ?_))))))
  revert H; refine bdI ?_; rintro t2 A2 H
  refine so rfl (op_callM (slices_insertionSortCmpFunc_impl_Group_at83.ok n0 x1_ml0 Al0 cl0 x1_1 x1_2 _ A2) [⟨0, 1, 1, false⟩] [] [] 2 rfl rfl rfl rfl rfl rfl rfl rfl ?_)
  rintro _ _ _ ⟨rfl, rfl, rfl, q2_0⟩
  refine rlT 0 (v' := .slice Al0 t2.length cl0) rfl (slq _ _ q2_0) (rlT 26 (v' := .slice Al0 t2.length cl0) rfl (slq _ _ q2_0) (nmE (en := [.sl 1 k49 Al0 cl0 t2 3 false]) (by kernel_rfl) (re (pr [] [] [0] rfl rfl rfl rfl ?_))))
  cases H
  exact rt Try.func94 rfl .nil rfl [] [⟨0, 1, 1, false⟩] rfl rfl rfl rfl rfl ⟨rfl, rfl, rfl, by first | rfl | assumption | omega | (simp only [List.length_set]; first | done | assumption | omega)⟩
 ·
  refine gf rfl (dF c1) (gk (gs (gs (rg (sv (EV.mv rfl) rfl (sv (EV.eql rfl rfl) rfl (re (pr [0, 1, 2, 3, 4, 10, 11, 12, 32] [] [0] rfl rfl rfl rfl ?_))))))))
  revert H; refine ifsI ?_ ?_ <;> intro c3 H
  ·
   refine gt rfl (dT c3) (gs (rg (sv (EV.mv rfl) rfl (sv (EV.mv rfl) rfl (sv (EV.mv rfl) rfl (sv (EV.mv rfl) rfl ?_))))))
   cases H
  ·
   refine gf rfl (dF c3) (gk (gs (gs (rg (sv (EV.mv rfl) rfl (sv (EV.nt rfl) rfl (re ?_)))))))
   revert H; refine ifsI ?_ ?_ <;> intro c4 H
   ·
    subst c4
    refine gf rfl rfl (gk (gs (rg (sv (EV.mv rfl) rfl (sv (EV.mv rfl) rfl (sv (EV.mv rfl) rfl (sv (EV.mv rfl) rfl ?_)))))))
    cases H
   ·
    obtain rfl := bF c4
    refine gt rfl rfl (gs (rg (sv (EV.mv rfl) rfl (sv (EV.mv rfl) rfl (sv (EV.mv rfl) rfl (sv (EV.mv rfl) rfl ?_))))))
    cases H
mutual
def bits_Len64.j2 : Nat → Int → Int → Option (Int)
 | 0, _, _ => none
 | k + 1, x3_0, x3_2 => if 0 ≤ (IntKind.u8.wrap x3_0) then (if (IntKind.u8.wrap x3_0) < ((⟨#[0, 1, 2, 2, 3, 3, 3, 3, 4, 4, 4, 4, 4, 4, 4, 4, 5, 5, 5, 5, 5, 5, 5, 5, 5, 5, 5, 5, 5, 5, 5, 5, 6, 6, 6, 6, 6, 6, 6, 6, 6, 6, 6, 6, 6, 6, 6, 6, 6, 6, 6, 6, 6, 6, 6, 6, 6, 6, 6, 6, 6, 6, 6, 6, 7, 7, 7, 7, 7, 7, 7, 7, 7, 7, 7, 7, 7, 7, 7, 7, 7, 7, 7, 7, 7, 7, 7, 7, 7, 7, 7, 7, 7, 7, 7, 7, 7, 7, 7, 7, 7, 7, 7, 7, 7, 7, 7, 7, 7, 7, 7, 7, 7, 7, 7, 7, 7, 7, 7, 7, 7, 7, 7, 7, 7, 7, 7, 7, 8, 8, 8, 8, 8, 8, 8, 8, 8, 8, 8, 8, 8, 8, 8, 8, 8, 8, 8, 8, 8, 8, 8, 8, 8, 8, 8, 8, 8, 8, 8, 8, 8, 8, 8, 8, 8, 8, 8, 8, 8, 8, 8, 8, 8, 8, 8, 8, 8, 8, 8, 8, 8, 8, 8, 8, 8, 8, 8, 8, 8, 8, 8, 8, 8, 8, 8, 8, 8, 8, 8, 8, 8, 8, 8, 8, 8, 8, 8, 8, 8, 8, 8, 8, 8, 8, 8, 8, 8, 8, 8, 8, 8, 8, 8, 8, 8, 8, 8, 8, 8, 8, 8, 8, 8, 8, 8, 8, 8, 8, 8, 8, 8, 8, 8, 8, 8, 8, 8, 8, 8, 8, 8, 8, 8, 8, 8, 8]⟩ : ByteArray).size : Int) then (some (wrap64 (x3_2 + (IntKind.i64.wrap (bt (⟨#[0, 1, 2, 2, 3, 3, 3, 3, 4, 4, 4, 4, 4, 4, 4, 4, 5, 5, 5, 5, 5, 5, 5, 5, 5, 5, 5, 5, 5, 5, 5, 5, 6, 6, 6, 6, 6, 6, 6, 6, 6, 6, 6, 6, 6, 6, 6, 6, 6, 6, 6, 6, 6, 6, 6, 6, 6, 6, 6, 6, 6, 6, 6, 6, 7, 7, 7, 7, 7, 7, 7, 7, 7, 7, 7, 7, 7, 7, 7, 7, 7, 7, 7, 7, 7, 7, 7, 7, 7, 7, 7, 7, 7, 7, 7, 7, 7, 7, 7, 7, 7, 7, 7, 7, 7, 7, 7, 7, 7, 7, 7, 7, 7, 7, 7, 7, 7, 7, 7, 7, 7, 7, 7, 7, 7, 7, 7, 7, 8, 8, 8, 8, 8, 8, 8, 8, 8, 8, 8, 8, 8, 8, 8, 8, 8, 8, 8, 8, 8, 8, 8, 8, 8, 8, 8, 8, 8, 8, 8, 8, 8, 8, 8, 8, 8, 8, 8, 8, 8, 8, 8, 8, 8, 8, 8, 8, 8, 8, 8, 8, 8, 8, 8, 8, 8, 8, 8, 8, 8, 8, 8, 8, 8, 8, 8, 8, 8, 8, 8, 8, 8, 8, 8, 8, 8, 8, 8, 8, 8, 8, 8, 8, 8, 8, 8, 8, 8, 8, 8, 8, 8, 8, 8, 8, 8, 8, 8, 8, 8, 8, 8, 8, 8, 8, 8, 8, 8, 8, 8, 8, 8, 8, 8, 8, 8, 8, 8, 8, 8, 8, 8, 8, 8, 8, 8, 8]⟩ : ByteArray) (IntKind.u8.wrap x3_0)))))) else none) else none
def bits_Len64.j1 : Nat → Int → Int → Option (Int)
 | 0, _, _ => none
 | k + 1, x2_0, x2_2 => if x2_0 ≥ 256 then (bits_Len64.j2 k (shrI x2_0 8) (wrap64 (x2_2 + 8))) else (bits_Len64.j2 k x2_0 x2_2)
def bits_Len64.j0 : Nat → Int → Int → Option (Int)
 | 0, _, _ => none
 | k + 1, x1_0, x1_2 => if x1_0 ≥ 65536 then (bits_Len64.j1 k (shrI x1_0 16) (wrap64 (x1_2 + 16))) else (bits_Len64.j1 k x1_0 x1_2)
end
def bits_Len64.f (k : Nat) (a0 : Int) : Option (Int) := if a0 ≥ 4294967296 then (bits_Len64.j0 k (shrI a0 32) 32) else (bits_Len64.j0 k a0 0)
set_option maxHeartbeats 4000000 in
set_option maxRecDepth 100000 in
theorem bits_Len64.ok (k : Nat) (a0 : Int) (r0 : Int) (H : bits_Len64.f k a0 = some r0) : Fn Try.prog 106 [.int .u64 a0] [] [] (fun v bx en => v = .int .i64 r0 ∧ bx = [] ∧ en = []) := by
 refine fn_ 25 Try.func106 rfl rfl rfl (fun base T w0 => ?_)
 rw [bits_Len64.f] at H
 refine gs (rg (sv (EV.as rfl) rfl (re ?_)))
 refine jo (fun S => ∃ (m : Nat) (x1_0 : Int) (x1_2 : Int), bits_Len64.j0 m x1_0 x1_2 = some r0 ∧ S = ⟨[(0, .int .u64 x1_0), (2, .int .i64 x1_2)], [], []⟩) (fun S hS => ?_) (fun jh0 => ?_)
 ·
  clear H
  obtain ⟨m1, x1_0, x1_2, H, rfl⟩ := hS
  rcases m1 with _ | m1
  · rw [bits_Len64.j0] at H; cases H
  rw [bits_Len64.j0] at H
  refine jo (fun S => ∃ (m : Nat) (x2_0 : Int) (x2_2 : Int), m ≤ m1 ∧ bits_Len64.j1 m x2_0 x2_2 = some r0 ∧ S = ⟨[(0, .int .u64 x2_0), (2, .int .i64 x2_2)], [], []⟩) (fun S hS => ?_) (fun jh1 => ?_)
  ·
   clear H
   obtain ⟨m2, x2_0, x2_2, lm2, H, rfl⟩ := hS
   rcases m2 with _ | m2
   · rw [bits_Len64.j1] at H; cases H
   rw [bits_Len64.j1] at H
   refine jo (fun S => ∃ (m : Nat) (x3_0 : Int) (x3_2 : Int), m ≤ m2 ∧ bits_Len64.j2 m x3_0 x3_2 = some r0 ∧ S = ⟨[(0, .int .u64 x3_0), (2, .int .i64 x3_2)], [], []⟩) (fun S hS => ?_) (fun jh2 => ?_)
   ·
    clear H
    obtain ⟨m3, x3_0, x3_2, lm3, H, rfl⟩ := hS
    rcases m3 with _ | m3
    · rw [bits_Len64.j2] at H; cases H
    rw [bits_Len64.j2] at H
    refine gs (rg (sv (EV.mv rfl) rfl (sv (EV.mv rfl) rfl (sv (EV.cv (k' := .u8) rfl) rfl ?_))))
    revert H; refine ggI ?_; intro g4 H
    revert H; refine ggI ?_; intro g5 H
    refine sv (EV.is rfl rfl g4 g5) rfl (sv (EV.cv (k' := .i64) rfl) rfl (sv (EV.add rfl rfl) rfl (sv (EV.as rfl) rfl (re (pr [2] [] [] rfl rfl rfl rfl ?_)))))
    cases H
    exact rt Try.func106 rfl (.tmp rfl .nil) rfl [] [] rfl rfl rfl rfl rfl ⟨rfl, rfl, rfl⟩
   ·
    refine gs (rg (sv (EV.mv rfl) rfl (sv (EV.geq rfl rfl) rfl (re ?_))))
    revert H; refine ifsI ?_ ?_ <;> intro c6 H
    ·
     exact gt rfl (dT c6) (gs (rg (sv (EV.mv rfl) rfl (sv (EV.shr64 rfl rfl dq) rfl (sv (EV.as rfl) rfl (re (rg (sv (EV.mv rfl) rfl (sv (EV.add rfl rfl) rfl (sv (EV.as rfl) rfl (re (pr [0, 2] [] [] rfl rfl rfl rfl (wk [0, 2] [] [] (jh2 _ ⟨_, shrI x2_0 8, wrap64 (x2_2 + 8), by omega, H, rfl⟩))))))))))))))
    ·
     exact gf rfl (dF c6) (gk (wk [0, 2] [] [] (jh2 _ ⟨_, x2_0, x2_2, by omega, H, rfl⟩)))
  ·
   refine gs (rg (sv (EV.mv rfl) rfl (sv (EV.geq rfl rfl) rfl (re ?_))))
   revert H; refine ifsI ?_ ?_ <;> intro c7 H
   ·
    exact gt rfl (dT c7) (gs (rg (sv (EV.mv rfl) rfl (sv (EV.shr64 rfl rfl dq) rfl (sv (EV.as rfl) rfl (re (rg (sv (EV.mv rfl) rfl (sv (EV.add rfl rfl) rfl (sv (EV.as rfl) rfl (re (pr [0, 2] [] [] rfl rfl rfl rfl (wk [0, 2] [] [] (jh1 _ ⟨_, shrI x1_0 16, wrap64 (x1_2 + 16), by omega, H, rfl⟩))))))))))))))
   ·
    exact gf rfl (dF c7) (gk (wk [0, 2] [] [] (jh1 _ ⟨_, x1_0, x1_2, by omega, H, rfl⟩)))
 ·
  refine gs (rg (sv (EV.mv rfl) rfl (sv (EV.geq rfl rfl) rfl (re ?_))))
  revert H; refine ifsI ?_ ?_ <;> intro c8 H
  ·
   exact gt rfl (dT c8) (gs (rg (sv (EV.mv rfl) rfl (sv (EV.shr64 rfl rfl dq) rfl (sv (EV.as rfl) rfl (re (rg (sv (EV.as rfl) rfl (re (wk [0, 2] [] [] (jh0 _ ⟨_, shrI a0 32, 32, H, rfl⟩)))))))))))
  ·
   exact gf rfl (dF c8) (gk (wk [0, 2] [] [] (jh0 _ ⟨_, a0, 0, H, rfl⟩)))
def bits_Len.f (k : Nat) (a0 : Int) : Option (Int) := (bits_Len64.f k a0).bind fun t1 => (some t1)
set_option maxHeartbeats 4000000 in
set_option maxRecDepth 100000 in
theorem bits_Len.ok (k : Nat) (a0 : Int) (r0 : Int) (H : bits_Len.f k a0 = some r0) : Fn Try.prog 95 [.int .u64 a0] [] [] (fun v bx en => v = .int .i64 r0 ∧ bx = [] ∧ en = []) := by
 refine fn_ 8 Try.func95 rfl rfl rfl (fun base T w0 => ?_)
 rw [bits_Len.f] at H
 refine gs (rg (sv (EV.as rfl) rfl (re (gs (gf rfl rfl (gk (gs (rg (sv (EV.mv rfl) rfl ?_)))))))))
 revert H; refine bdI ?_; rintro t1 A1 H
 refine so rfl (op_call (bits_Len64.ok k a0 _ A1) [] 1 rfl rfl rfl rfl rfl ?_)
 rintro _ _ _ ⟨rfl, rfl, rfl⟩
 refine sv (EV.as rfl) rfl (re ?_)
 cases H
 exact rt Try.func95 rfl (.tmp rfl .nil) rfl [] [] rfl rfl rfl rfl rfl ⟨rfl, rfl, rfl⟩
def slices_SortFunc_impl_Group_impl_Group_at83.f (k : Nat) (l0 : List S49) : Option ((List S49)) := (bits_Len.f k (IntKind.u64.wrap (l0.length : Int))).bind fun t1 => ((slices_pdqsortCmpFunc_impl_Group_at83.f k l0 0 (l0.length : Int) t1).bind fun t2 => (some t2))
set_option maxHeartbeats 4000000 in
set_option maxRecDepth 100000 in
theorem slices_SortFunc_impl_Group_impl_Group_at83.ok (k : Nat) (l0 : List S49) (Al0 : Option Addr) (cl0 : Nat) (r0 : List S49) (H : slices_SortFunc_impl_Group_impl_Group_at83.f k l0 = some r0) : Fn Try.prog 82 [.slice Al0 l0.length cl0, .func (.func 83) #[] #[]] [] [.sl 1 k49 Al0 cl0 l0 1 false] (fun v bx en => v = .tuple #[] ∧ bx = [] ∧ en = [.sl 1 k49 Al0 cl0 r0 1 false] ∧ r0.length = l0.length) := by
 refine fn_ 14 Try.func82 rfl rfl rfl (fun base T w0 => ?_)
 rw [slices_SortFunc_impl_Group_impl_Group_at83.f] at H
 refine gs (rg (sv (EV.mv rfl) rfl (sv (EV.ln rfl) rfl (sv (EV.as rfl) rfl (re (rg (sv (EV.mv rfl) rfl (sv (EV.mv rfl) rfl (sv (EV.mv rfl) rfl (sv (EV.cv (k' := .u64) rfl) rfl ?_))))))))))
 revert H; refine bdI ?_; rintro t1 A1 H
 refine so rfl (op_call (bits_Len.ok k (IntKind.u64.wrap (l0.length : Int)) _ A1) [] 2 rfl rfl rfl rfl rfl ?_)
 rintro _ _ _ ⟨rfl, rfl, rfl⟩
 refine sv (EV.mv rfl) rfl ?_
 revert H; refine bdI ?_; rintro t2 A2 H
 refine so rfl (op_callM (slices_pdqsortCmpFunc_impl_Group_at83.ok k l0 Al0 cl0 0 (l0.length : Int) t1 _ A2) [⟨0, 1, 1, false⟩] [] [] 2 rfl rfl rfl rfl rfl rfl rfl rfl ?_)
 rintro _ _ _ ⟨rfl, rfl, rfl, q2_0⟩
 refine rlT 0 (v' := .slice Al0 t2.length cl0) rfl (slq _ _ q2_0) (rlT 5 (v' := .slice Al0 t2.length cl0) rfl (slq _ _ q2_0) (rlT 7 (v' := .slice Al0 t2.length cl0) rfl (slq _ _ q2_0) (nmE (en := [.sl 1 k49 Al0 cl0 t2 3 false]) (by kernel_rfl) (re (pr [] [] [0] rfl rfl rfl rfl ?_)))))
 cases H
 exact rt0 Try.func82 rfl .nil rfl [] [⟨0, 1, 1, false⟩] rfl rfl rfl rfl rfl ⟨rfl, rfl, rfl, by first | rfl | assumption | omega | (simp only [List.length_set]; first | done | assumption | omega)⟩
def impl_CombineGroups.f (a0_0 : Int) (a0_1 : Int) (a0_2 : Int) (a0_3 : Int) (a0_4 : Int) (a1_0 : Int) (a1_1 : Int) (a1_2 : Int) (a1_3 : Int) (a1_4 : Int) : Option (Int × Int × Int × Int × Int) := if a0_0 = a1_0 then (some (a0_0, wrap64 (a0_1 + a1_1), wrap64 (a0_2 + a1_2), mn a0_3 a1_3, mx a0_4 a1_4)) else (some (a0_0, a0_1, a0_2, a0_3, a0_4))
set_option maxHeartbeats 4000000 in
set_option maxRecDepth 100000 in
theorem impl_CombineGroups.ok (a0_0 : Int) (a0_1 : Int) (a0_2 : Int) (a0_3 : Int) (a0_4 : Int) (a1_0 : Int) (a1_1 : Int) (a1_2 : Int) (a1_3 : Int) (a1_4 : Int) (r0 : Int) (r1 : Int) (r2 : Int) (r3 : Int) (r4 : Int) (H : impl_CombineGroups.f a0_0 a0_1 a0_2 a0_3 a0_4 a1_0 a1_1 a1_2 a1_3 a1_4 = some (r0, r1, r2, r3, r4)) : Fn Try.prog 81 [.agg #[.int .i64 a0_0, .int .i64 a0_1, .int .i64 a0_2, .int .i64 a0_3, .int .i64 a0_4], .agg #[.int .i64 a1_0, .int .i64 a1_1, .int .i64 a1_2, .int .i64 a1_3, .int .i64 a1_4]] [] [] (fun v bx en => v = .agg #[.int .i64 r0, .int .i64 r1, .int .i64 r2, .int .i64 r3, .int .i64 r4] ∧ bx = [] ∧ en = []) := by
 refine fn_ 34 Try.func81 rfl rfl rfl (fun base T w0 => ?_)
 rw [impl_CombineGroups.f] at H
 refine gs (rg (so rfl (op_box (cs := [.int .i64 a0_0, .int .i64 a0_1, .int .i64 a0_2, .int .i64 a0_3, .int .i64 a0_4]) rfl rfl rfl fun b2 => (so rfl (op_box (cs := [.int .i64 a1_0, .int .i64 a1_1, .int .i64 a1_2, .int .i64 a1_3, .int .i64 a1_4]) rfl rfl rfl fun b3 => (so rfl (op_alloc (cs := [.int .i64 0, .int .i64 0, .int .i64 0, .int .i64 0, .int .i64 0]) (by kernel_rfl) rfl fun b4 => (re (gs (gs (rg (sv (EV.fa 0 rfl) rfl (sv (EV.ld 0 none rfl rfl rfl) rfl (sv (EV.fa 0 rfl) rfl (sv (EV.ld 1 none rfl rfl rfl) rfl (sv (EV.neq rfl rfl) rfl (re (pr [2, 3, 4, 9] [0, 1, 2] [] rfl rfl rfl rfl ?_))))))))))))))))))
 revert H; refine ifsI ?_ ?_ <;> intro c1 H
 ·
  refine gf rfl (nF c1) (gk (gs (rg (sv (EV.fa 0 rfl) rfl (sv (EV.ld 0 none rfl rfl rfl) rfl (sv (EV.fa 1 rfl) rfl (sv (EV.ld 0 none rfl rfl rfl) rfl (sv (EV.fa 1 rfl) rfl (sv (EV.ld 1 none rfl rfl rfl) rfl (sv (EV.add rfl rfl) rfl (sv (EV.fa 2 rfl) rfl (sv (EV.ld 0 none rfl rfl rfl) rfl (sv (EV.fa 2 rfl) rfl (sv (EV.ld 1 none rfl rfl rfl) rfl (sv (EV.add rfl rfl) rfl (sv (EV.fa 3 rfl) rfl (sv (EV.ld 0 none rfl rfl rfl) rfl (sv (EV.fa 3 rfl) rfl (sv (EV.ld 1 none rfl rfl rfl) rfl (sv (EV.mn rfl rfl) rfl (sv (EV.fa 4 rfl) rfl (sv (EV.ld 0 none rfl rfl rfl) rfl (sv (EV.fa 4 rfl) rfl (sv (EV.ld 1 none rfl rfl rfl) rfl (sv (EV.mx rfl rfl) rfl (sv (EV.bd (v := .agg #[.int .i64 a0_0, .int .i64 (wrap64 (a0_1 + a1_1)), .int .i64 (wrap64 (a0_2 + a1_2)), .int .i64 (mn a0_3 a1_3), .int .i64 (mx a0_4 a1_4)]) rfl (by kernel_rfl)) rfl (so rfl (op_st (cs' := [.int .i64 a0_0, .int .i64 (wrap64 (a0_1 + a1_1)), .int .i64 (wrap64 (a0_2 + a1_2)), .int .i64 (mn a0_3 a1_3), .int .i64 (mx a0_4 a1_4)]) 2 rfl rfl rfl rfl rfl rfl (re ?_)))))))))))))))))))))))))))))
  refine pr [4] [2] [] rfl rfl rfl rfl ?_
  cases H
  exact rt Try.func81 rfl (.cell 0 (some 5) rfl rfl rfl .nil) rfl [] [] rfl rfl rfl rfl rfl ⟨rfl, rfl, rfl⟩
 ·
  refine gt rfl (nT c1) (gs (rg (sv (EV.ld (v := .agg #[.int .i64 a0_0, .int .i64 a0_1, .int .i64 a0_2, .int .i64 a0_3, .int .i64 a0_4]) 0 (some 5) rfl rfl rfl) rfl (so rfl (op_st (cs' := [.int .i64 a0_0, .int .i64 a0_1, .int .i64 a0_2, .int .i64 a0_3, .int .i64 a0_4]) 2 rfl rfl rfl rfl rfl rfl (re ?_))))))
  cases H
  exact rt Try.func81 rfl (.cell 2 (some 5) rfl rfl rfl .nil) rfl [] [] rfl rfl rfl rfl rfl ⟨rfl, rfl, rfl⟩
def impl_MergeGroups.l0 : Nat → (List S49) → (List (Int × Int)) → Int → Int → (List S49) → Option ((List S49))
 | 0, _, _, _, _, _ => none
 | k + 1, x2_3, x2_4, x2_12, x2_13, l0 => if x2_13 < x2_12 then (if 0 ≤ x2_13 then (if x2_13 < (l0.length : Int) then (if ((mGet x2_4 ((rd_T49 l0 x2_13).f0)).isSome) = true then (if 0 ≤ ((mGet x2_4 ((rd_T49 l0 x2_13).f0)).getD 0) then (if ((mGet x2_4 ((rd_T49 l0 x2_13).f0)).getD 0) < (x2_3.length : Int) then ((impl_CombineGroups.f ((rd_T49 x2_3 ((mGet x2_4 ((rd_T49 l0 x2_13).f0)).getD 0)).f0) ((rd_T49 x2_3 ((mGet x2_4 ((rd_T49 l0 x2_13).f0)).getD 0)).f1) ((rd_T49 x2_3 ((mGet x2_4 ((rd_T49 l0 x2_13).f0)).getD 0)).f2) ((rd_T49 x2_3 ((mGet x2_4 ((rd_T49 l0 x2_13).f0)).getD 0)).f3) ((rd_T49 x2_3 ((mGet x2_4 ((rd_T49 l0 x2_13).f0)).getD 0)).f4) ((rd_T49 l0 x2_13).f0) ((rd_T49 l0 x2_13).f1) ((rd_T49 l0 x2_13).f2) ((rd_T49 l0 x2_13).f3) ((rd_T49 l0 x2_13).f4)).bind fun bt9 => ((some (x2_3.set ((mGet x2_4 ((rd_T49 l0 x2_13).f0)).getD 0).toNat (⟨bt9.1, bt9.2.1, bt9.2.2.1, bt9.2.2.2.1, bt9.2.2.2.2⟩ : S49))).bind fun s10 => (impl_MergeGroups.l0 k s10 x2_4 x2_12 (wrap64 (x2_13 + 1)) l0))) else none) else none) else (if x2_3.length < 3518437208883 then (impl_MergeGroups.l0 k (x2_3 ++ ([(⟨(rd_T49 l0 x2_13).f0, (rd_T49 l0 x2_13).f1, (rd_T49 l0 x2_13).f2, (rd_T49 l0 x2_13).f3, (rd_T49 l0 x2_13).f4⟩ : S49)] : List S49)) (mSet x2_4 ((rd_T49 l0 x2_13).f0) (x2_3.length : Int)) x2_12 (wrap64 (x2_13 + 1)) l0) else none)) else none) else none) else ((slices_SortFunc_impl_Group_impl_Group_at83.f k x2_3).bind fun t14 => (some t14))
def impl_MergeGroups.f (k : Nat) (l0 : List S49) : Option ((List S49)) := impl_MergeGroups.l0 k [] ([] : List (Int × Int)) (l0.length : Int) 0 l0
set_option maxHeartbeats 4000000 in
set_option maxRecDepth 100000 in
theorem impl_MergeGroups.ok (k : Nat) (l0 : List S49) (Al0 : Option Addr) (cl0 : Nat) (r0 : List S49) (H : impl_MergeGroups.f k l0 = some r0) : Fn Try.prog 49 [.slice Al0 l0.length cl0] [] [.sl 0 k49 Al0 cl0 l0 0 false] (fun v bx en => ∃ A0 c0, v = .slice A0 r0.length c0 ∧ bx = [] ∧ en = [.sl 1 k49 A0 c0 r0 1 false]) := by
 refine fn_ 48 Try.func49 rfl rfl rfl (fun base T w0 => ?_)
 rw [impl_MergeGroups.f] at H
 refine gs (rg (sv (EV.as rfl) rfl (re (gs (rg (so rfl (op_lit (s := 5) (by_ := 40) k49 ([] : List S49) [] [] 1 [] rfl rfl rfl rfl rfl rfl rfl rfl rfl rfl rfl rfl rfl dq rfl fun A9_1 c9_1 => (so rfl (op_mkm (β := Int) .i64 (Value.int .i64) 2 rfl dq rfl fun r10_2 => (sv (EV.as rfl) rfl (sv (EV.as rfl) rfl (re (gs (gs (rg (sv (EV.mv rfl) rfl (sv (EV.ln rfl) rfl (sv (EV.mv rfl) rfl (re (gb ?_))))))))))))))))))))
 refine lo (fun kk S => ∃ (x2_3 : List S49) (Ax2_3 : Option Addr) (cx2_3 : Nat) (x2_4 : List (Int × Int)) (rx2_4 : Nat) (x2_12 : Int) (x2_13 : Int), impl_MergeGroups.l0 kk x2_3 x2_4 x2_12 x2_13 l0 = some r0 ∧ S = ⟨[(3, .slice Ax2_3 x2_3.length cx2_3), (4, .map (some rx2_4)), (11, .slice Al0 l0.length cl0), (12, .int .i64 x2_12), (13, .int .i64 x2_13)], [], [.sl 2 k49 Ax2_3 cx2_3 x2_3 1 true, mapE .i64 (Value.int .i64) rx2_4 x2_4 2, .sl 0 k49 Al0 cl0 l0 0 false]⟩) (fun S hS => ?_) (fun n0 ih0 S hS => ?_) ⟨[], A9_1, c9_1, ([] : List (Int × Int)), r10_2, (l0.length : Int), 0, H, rfl⟩ (fun h => wk [3, 4, 11, 12, 13] [] [⟨1, 2, 1, true⟩, ⟨2, 1, 2, false⟩, ⟨0, 0, 0, false⟩] h)
 · clear H; obtain ⟨_, _, _, _, _, _, _, H, _⟩ := hS; rw [impl_MergeGroups.l0] at H; cases H
 clear H
 obtain ⟨x2_3, Ax2_3, cx2_3, x2_4, rx2_4, x2_12, x2_13, H, rfl⟩ := hS
 rw [impl_MergeGroups.l0] at H
 refine gs (rg (sv (EV.lss rfl rfl) rfl (re (gs ?_))))
 revert H; refine ifsI ?_ ?_ <;> intro c3 H
 ·
  refine gt rfl (dT c3) (gk (gs (gb (gs (rg ?_)))))
  revert H; refine ggI ?_; intro g4 H
  revert H; refine ggI ?_; intro g5 H
  refine sv (EV.ix 2 rfl rfl rfl g4 g5 rfl) rfl (sv (EV.le (v := .agg #[.int .i64 ((rd_T49 l0 x2_13).f0), .int .i64 ((rd_T49 l0 x2_13).f1), .int .i64 ((rd_T49 l0 x2_13).f2), .int .i64 ((rd_T49 l0 x2_13).f3), .int .i64 ((rd_T49 l0 x2_13).f4)]) x2_13 0 (some 5) 2 z49 rfl rfl rfl g4 g5 rfl rfl rfl) rfl (so rfl (op_alloc (cs := [.int .i64 0, .int .i64 0, .int .i64 0, .int .i64 0, .int .i64 0]) (by kernel_rfl) rfl fun b6 => (so rfl (op_st (cs' := [.int .i64 ((rd_T49 l0 x2_13).f0), .int .i64 ((rd_T49 l0 x2_13).f1), .int .i64 ((rd_T49 l0 x2_13).f2), .int .i64 ((rd_T49 l0 x2_13).f3), .int .i64 ((rd_T49 l0 x2_13).f4)]) 0 rfl rfl rfl rfl rfl rfl (re (gs (rg (sv (EV.mv rfl) rfl (sv (EV.fa 0 rfl) rfl (sv (EV.ld 0 none rfl rfl rfl) rfl (sv (EV.lk2 (vf := (Value.int .i64)) (zz := 0) 1 rfl rfl rfl) rfl (sv (EV.mv rfl) rfl (sv (EV.ex rfl rfl) rfl (sv (EV.ex rfl rfl) rfl (sv (EV.as rfl) rfl (sv (EV.as rfl) rfl (re (pr [3, 4, 6, 7, 8, 11, 12, 13] [0] [0, 1, 2] rfl rfl rfl rfl (gs (gs (rg (sv (EV.mv rfl) rfl (sv (EV.nt rfl) rfl (re ?_)))))))))))))))))))))))))
  revert H; refine ifsI ?_ ?_ <;> intro c6 H
  ·
   refine gf rfl (bN c6) (gk ?_)
   revert H; refine ggI ?_; intro g7 H
   revert H; refine ggI ?_; intro g8 H
   refine dr [0] [0, 1, 2] [9] 10 rfl rfl rfl rfl (xv 0 [0] [0, 1, 2] rfl (EV.mv rfl) rfl rfl rfl rfl (xv 1 [0] [0, 1, 2] rfl (EV.mv rfl) rfl rfl rfl rfl (xv 2 [0] [0, 1, 2] rfl (EV.mv rfl) rfl rfl rfl rfl (xv 3 [0] [0, 1, 2] rfl (EV.mv rfl) rfl rfl rfl rfl (xv 4 [0] [0, 1, 2] rfl (EV.ix 0 rfl rfl rfl g7 g8 rfl) rfl rfl rfl rfl (xv 5 [0] [0, 1, 2] rfl (EV.le (v := .agg #[.int .i64 ((rd_T49 x2_3 ((mGet x2_4 ((rd_T49 l0 x2_13).f0)).getD 0)).f0), .int .i64 ((rd_T49 x2_3 ((mGet x2_4 ((rd_T49 l0 x2_13).f0)).getD 0)).f1), .int .i64 ((rd_T49 x2_3 ((mGet x2_4 ((rd_T49 l0 x2_13).f0)).getD 0)).f2), .int .i64 ((rd_T49 x2_3 ((mGet x2_4 ((rd_T49 l0 x2_13).f0)).getD 0)).f3), .int .i64 ((rd_T49 x2_3 ((mGet x2_4 ((rd_T49 l0 x2_13).f0)).getD 0)).f4)]) ((mGet x2_4 ((rd_T49 l0 x2_13).f0)).getD 0) 0 (some 5) 0 z49 rfl rfl rfl g7 g8 rfl rfl rfl) rfl rfl rfl rfl (xv 6 [0] [0, 1, 2] rfl (EV.ld (v := .agg #[.int .i64 ((rd_T49 l0 x2_13).f0), .int .i64 ((rd_T49 l0 x2_13).f1), .int .i64 ((rd_T49 l0 x2_13).f2), .int .i64 ((rd_T49 l0 x2_13).f3), .int .i64 ((rd_T49 l0 x2_13).f4)]) 0 (some 5) rfl rfl rfl) rfl rfl rfl rfl (one1 7 rfl rfl ?_))))))))
   revert H; refine bdI ?_; rintro ⟨t9_0, t9_1, t9_2, t9_3, t9_4⟩ A9 H
   refine op_call (impl_CombineGroups.ok ((rd_T49 x2_3 ((mGet x2_4 ((rd_T49 l0 x2_13).f0)).getD 0)).f0) ((rd_T49 x2_3 ((mGet x2_4 ((rd_T49 l0 x2_13).f0)).getD 0)).f1) ((rd_T49 x2_3 ((mGet x2_4 ((rd_T49 l0 x2_13).f0)).getD 0)).f2) ((rd_T49 x2_3 ((mGet x2_4 ((rd_T49 l0 x2_13).f0)).getD 0)).f3) ((rd_T49 x2_3 ((mGet x2_4 ((rd_T49 l0 x2_13).f0)).getD 0)).f4) ((rd_T49 l0 x2_13).f0) ((rd_T49 l0 x2_13).f1) ((rd_T49 l0 x2_13).f2) ((rd_T49 l0 x2_13).f3) ((rd_T49 l0 x2_13).f4) _ _ _ _ _ A9) [] 3 rfl rfl rfl rfl rfl ?_
   rintro _ _ _ ⟨rfl, rfl, rfl⟩
   refine xs [0] [0, 1, 2] rfl rfl rfl (xv 8 [0] [0, 1, 2] rfl (EV.ix 0 rfl rfl rfl g7 g8 rfl) rfl rfl rfl rfl (one1 9 rfl rfl ?_))
   revert H; refine bdI ?_; intro s10 A10 H; have q10 := stl (Option.some.inj A10)
   exact op_stg ((mGet x2_4 ((rd_T49 l0 x2_13).f0)).getD 0) 0 0 z49 (⟨t9_0, t9_1, t9_2, t9_3, t9_4⟩ : S49) (Option.some.inj A10) rfl rfl rfl rfl g7 g8 rfl rfl rfl rfl dq rfl (rlT 3 (v' := .slice Ax2_3 s10.length cx2_3) rfl (slq _ _ q10) (rlT 35 (v' := .slice Ax2_3 s10.length cx2_3) rfl (slq _ _ q10) (rlT 37 (v' := .slice Ax2_3 s10.length cx2_3) rfl (slq _ _ q10) (nmE (en := [mapE .i64 (Value.int .i64) rx2_4 x2_4 2, .sl 0 k49 Al0 cl0 l0 0 false, .sl 2 k49 Ax2_3 cx2_3 s10 1 true]) (by kernel_rfl) (xn rfl (xd (pr [3, 4, 11, 12, 13] [] [0, 1, 2] rfl rfl rfl rfl (ge (rg (sv (EV.add rfl rfl) rfl (sv (EV.mv rfl) rfl (re (wk [3, 4, 11, 12, 13] [] [⟨2, 2, 1, true⟩, ⟨0, 1, 2, false⟩, ⟨1, 0, 0, false⟩] (ih0 _ (by omega) _ ⟨s10, Ax2_3, cx2_3, x2_4, rx2_4, x2_12, wrap64 (x2_13 + 1), H, rfl⟩))))))))))))))
  ·
   refine gt rfl (bM c6) (gs (rg (sv (EV.mv rfl) rfl (sv (EV.fa 0 rfl) rfl (sv (EV.ld 0 none rfl rfl rfl) rfl (sv (EV.mv rfl) rfl (sv (EV.ln rfl) rfl (so rfl (op_mu 1 (x2_3.length : Int) rfl rfl rfl rfl rfl (nmE (en := [.sl 2 k49 Ax2_3 cx2_3 x2_3 1 true, .sl 0 k49 Al0 cl0 l0 0 false, mapE .i64 (Value.int .i64) rx2_4 (mSet x2_4 ((rd_T49 l0 x2_13).f0) (x2_3.length : Int)) 2]) (by kernel_rfl) (re (pr [3, 4, 6, 11, 12, 13] [0] [0, 1, 2] rfl rfl rfl rfl (gs (rg (sv (EV.mv rfl) rfl (sv (EV.ld (v := .agg #[.int .i64 ((rd_T49 l0 x2_13).f0), .int .i64 ((rd_T49 l0 x2_13).f1), .int .i64 ((rd_T49 l0 x2_13).f2), .int .i64 ((rd_T49 l0 x2_13).f3), .int .i64 ((rd_T49 l0 x2_13).f4)]) 0 (some 5) rfl rfl rfl) rfl (so rfl (op_lit (s := 5) (by_ := 40) k49 ([(⟨(rd_T49 l0 x2_13).f0, (rd_T49 l0 x2_13).f1, (rd_T49 l0 x2_13).f2, (rd_T49 l0 x2_13).f3, (rd_T49 l0 x2_13).f4⟩ : S49)] : List S49) [[]] [] 3 [.tmp 32] rfl rfl rfl rfl rfl rfl rfl rfl rfl rfl rfl rfl rfl dq rfl fun A33_11 c33_11 => ?_))))))))))))))))))
   revert H; refine ggI ?_; intro g12 H
   exact so rfl (op_app (k := k49) (s := 5) (by_ := 40) 0 3 rfl rfl rfl rfl (ap1 g12 dq) (ap1n g12 dq) (.inl rfl) true (fun _ => .inl rfl) rfl rfl fun A34_13 c34_13 => (nmE (en := [.sl 0 k49 Al0 cl0 l0 0 false, mapE .i64 (Value.int .i64) rx2_4 (mSet x2_4 ((rd_T49 l0 x2_13).f0) (x2_3.length : Int)) 2, .sl 2 k49 A33_11 c33_11 ([(⟨(rd_T49 l0 x2_13).f0, (rd_T49 l0 x2_13).f1, (rd_T49 l0 x2_13).f2, (rd_T49 l0 x2_13).f3, (rd_T49 l0 x2_13).f4⟩ : S49)] : List S49) 3 true, .sl 2 k49 A34_13 c34_13 (x2_3 ++ ([(⟨(rd_T49 l0 x2_13).f0, (rd_T49 l0 x2_13).f1, (rd_T49 l0 x2_13).f2, (rd_T49 l0 x2_13).f3, (rd_T49 l0 x2_13).f4⟩ : S49)] : List S49)) 1 true]) (by kernel_rfl) (sv (EV.as rfl) rfl (re (gx rfl (rg (sv (EV.add rfl rfl) rfl (sv (EV.mv rfl) rfl (re (pr [3, 4, 11, 12, 13] [] [0, 1, 3] rfl rfl rfl rfl (wk [3, 4, 11, 12, 13] [] [⟨2, 2, 1, true⟩, ⟨1, 1, 2, false⟩, ⟨0, 0, 0, false⟩] (ih0 _ (by omega) _ ⟨x2_3 ++ ([(⟨(rd_T49 l0 x2_13).f0, (rd_T49 l0 x2_13).f1, (rd_T49 l0 x2_13).f2, (rd_T49 l0 x2_13).f3, (rd_T49 l0 x2_13).f4⟩ : S49)] : List S49), A34_13, c34_13, mSet x2_4 ((rd_T49 l0 x2_13).f0) (x2_3.length : Int), rx2_4, x2_12, wrap64 (x2_13 + 1), H, rfl⟩))))))))))))
 ·
  refine gf rfl (dF c3) (gx rfl (gs (rg (sv (EV.mv rfl) rfl ?_))))
  revert H; refine bdI ?_; rintro t14 A14 H
  refine so rfl (op_callM (slices_SortFunc_impl_Group_impl_Group_at83.ok n0 x2_3 Ax2_3 cx2_3 _ A14) [⟨0, 1, 1, false⟩] [] [] 3 rfl rfl rfl rfl rfl rfl rfl rfl ?_)
  rintro _ _ _ ⟨rfl, rfl, rfl, q14_0⟩
  refine rlT 3 (v' := .slice Ax2_3 t14.length cx2_3) rfl (slq _ _ q14_0) (rlT 45 (v' := .slice Ax2_3 t14.length cx2_3) rfl (slq _ _ q14_0) (nmE (en := [mapE .i64 (Value.int .i64) rx2_4 x2_4 2, .sl 0 k49 Al0 cl0 l0 0 false, .sl 1 k49 Ax2_3 cx2_3 t14 4 false]) (by kernel_rfl) (re (pr [3] [] [2] rfl rfl rfl rfl (gs (rg (sv (EV.mv rfl) rfl (sv (EV.as rfl) rfl (re ?_)))))))))
  cases H
  exact rt Try.func49 rfl (.tmp rfl .nil) rfl [] [⟨0, 1, 1, false⟩] rfl rfl rfl rfl rfl ⟨_, _, rfl, rfl, rfl⟩
mutual
def impl_RollupGroups.l2 : Nat → (List S51) → Int → Int → (List S49) → Int → Int → (List S49) → Option ((List S51))
 | 0, _, _, _, _, _, _, _ => none
 | k + 1, x34_3, x34_4, x34_11, x34_32, x34_33, x34_34, l0 => if x34_34 < x34_33 then (if 0 ≤ x34_34 then (if x34_34 < (x34_32.length : Int) then (if x34_3.length < 2932031007402 then (impl_RollupGroups.l2 k (x34_3 ++ ([(⟨x34_4, (⟨(rd_T49 x34_32 x34_34).f0, (rd_T49 x34_32 x34_34).f1, (rd_T49 x34_32 x34_34).f2, (rd_T49 x34_32 x34_34).f3, (rd_T49 x34_32 x34_34).f4⟩ : S49)⟩ : S51)] : List S51)) x34_4 x34_11 x34_32 x34_33 (wrap64 (x34_34 + 1)) l0) else none) else none) else none) else (impl_RollupGroups.l0 k x34_3 (wrap64 (x34_11 + 1)) l0)
def impl_RollupGroups.l1 : Nat → (List S51) → Int → (List S49) → Int → Int → Int → (List S49) → Option ((List S51))
 | 0, _, _, _, _, _, _, _ => none
 | k + 1, x32_3, x32_4, x32_5, x32_11, x32_16, x32_17, l0 => if x32_17 < x32_16 then (if 0 ≤ x32_17 then (if x32_17 < (l0.length : Int) then ((impl_RollupKey.f ((rd_T49 l0 x32_17).f0) x32_4).bind fun t7 => (if x32_5.length < 3518437208883 then (impl_RollupGroups.l1 k x32_3 x32_4 (x32_5 ++ ([(⟨t7, (rd_T49 l0 x32_17).f1, (rd_T49 l0 x32_17).f2, (rd_T49 l0 x32_17).f3, (rd_T49 l0 x32_17).f4⟩ : S49)] : List S49)) x32_11 x32_16 (wrap64 (x32_17 + 1)) l0) else none)) else none) else none) else ((impl_MergeGroups.f k x32_5).bind fun t11 => (impl_RollupGroups.l2 k x32_3 x32_4 x32_11 t11 (t11.length : Int) 0 l0))
def impl_RollupGroups.l0 : Nat → (List S51) → Int → (List S49) → Option ((List S51))
 | 0, _, _, _ => none
 | k + 1, x18_3, x18_11, l0 => if x18_11 < 3 then (impl_RollupGroups.l1 k x18_3 x18_11 [] x18_11 (l0.length : Int) 0 l0) else (some x18_3)
end
def impl_RollupGroups.f (k : Nat) (l0 : List S49) : Option ((List S51)) := impl_RollupGroups.l0 k [] 0 l0
set_option maxHeartbeats 4000000 in
set_option maxRecDepth 100000 in
theorem impl_RollupGroups.ok (k : Nat) (l0 : List S49) (Al0 : Option Addr) (cl0 : Nat) (r0 : List S51) (H : impl_RollupGroups.f k l0 = some r0) : Fn Try.prog 24 [.slice Al0 l0.length cl0] [] [.sl 0 k49 Al0 cl0 l0 0 false] (fun v bx en => ∃ A0 c0, v = .slice A0 r0.length c0 ∧ bx = [] ∧ en = [.sl 2 k51 A0 c0 r0 1 true]) := by
 refine fn_ 47 Try.func24 rfl rfl rfl (fun base T w0 => ?_)
 rw [impl_RollupGroups.f] at H
 refine gs (rg (sv (EV.as rfl) rfl (re (gs (rg (so rfl (op_lit (s := 6) (by_ := 48) k51 ([] : List S51) [] [] 1 [] rfl rfl rfl rfl rfl rfl rfl rfl rfl rfl rfl rfl rfl dq rfl fun A10_1 c10_1 => (sv (EV.as rfl) rfl (re (gs (gs (rg (sv (EV.mv rfl) rfl (re (gb ?_)))))))))))))))
 refine lo (fun kk S => ∃ (x18_3 : List S51) (Ax18_3 : Option Addr) (cx18_3 : Nat) (x18_11 : Int), impl_RollupGroups.l0 kk x18_3 x18_11 l0 = some r0 ∧ S = ⟨[(0, .slice Al0 l0.length cl0), (3, .slice Ax18_3 x18_3.length cx18_3), (11, .int .i64 x18_11)], [], [.sl 2 k51 Ax18_3 cx18_3 x18_3 1 true, .sl 0 k49 Al0 cl0 l0 0 false]⟩) (fun S hS => ?_) (fun n0 ih0 S hS => ?_) ⟨[], A10_1, c10_1, 0, H, rfl⟩ (fun h => wk [0, 3, 11] [] [⟨1, 2, 1, true⟩, ⟨0, 0, 0, false⟩] h)
 · clear H; obtain ⟨_, _, _, _, H, _⟩ := hS; rw [impl_RollupGroups.l0] at H; cases H
 clear H
 obtain ⟨x18_3, Ax18_3, cx18_3, x18_11, H, rfl⟩ := hS
 rw [impl_RollupGroups.l0] at H
 refine gs (rg (sv (EV.lss rfl rfl) rfl (re (gs ?_))))
 revert H; refine ifsI ?_ ?_ <;> intro c2 H
 ·
  refine gt rfl (dT c2) (gk (gs (gb (gs (rg (sv (EV.mv rfl) rfl (sv (EV.as rfl) rfl (re (gs (rg (so rfl (op_lit (s := 5) (by_ := 40) k49 ([] : List S49) [] [] 2 [] rfl rfl rfl rfl rfl rfl rfl rfl rfl rfl rfl rfl rfl dq rfl fun A14_3 c14_3 => (sv (EV.as rfl) rfl (re (gs (gs (rg (sv (EV.mv rfl) rfl (sv (EV.ln rfl) rfl (sv (EV.mv rfl) rfl (re (gb ?_))))))))))))))))))))))
  refine lo (fun kk S => ∃ (x32_3 : List S51) (Ax32_3 : Option Addr) (cx32_3 : Nat) (x32_4 : Int) (x32_5 : List S49) (Ax32_5 : Option Addr) (cx32_5 : Nat) (x32_11 : Int) (x32_16 : Int) (x32_17 : Int), kk ≤ n0 ∧ impl_RollupGroups.l1 kk x32_3 x32_4 x32_5 x32_11 x32_16 x32_17 l0 = some r0 ∧ S = ⟨[(0, .slice Al0 l0.length cl0), (3, .slice Ax32_3 x32_3.length cx32_3), (4, .int .i64 x32_4), (5, .slice Ax32_5 x32_5.length cx32_5), (11, .int .i64 x32_11), (15, .slice Al0 l0.length cl0), (16, .int .i64 x32_16), (17, .int .i64 x32_17)], [], [.sl 2 k51 Ax32_3 cx32_3 x32_3 1 true, .sl 2 k49 Ax32_5 cx32_5 x32_5 2 true, .sl 0 k49 Al0 cl0 l0 0 false]⟩) (fun S hS => ?_) (fun n1 ih1 S hS => ?_) ⟨x18_3, Ax18_3, cx18_3, x18_11, [], A14_3, c14_3, x18_11, (l0.length : Int), 0, by omega, H, rfl⟩ (fun h => wk [0, 3, 4, 5, 11, 15, 16, 17] [] [⟨0, 2, 1, true⟩, ⟨2, 2, 2, true⟩, ⟨1, 0, 0, false⟩] h)
  · clear H; obtain ⟨_, _, _, _, _, _, _, _, _, _, _, H, _⟩ := hS; rw [impl_RollupGroups.l1] at H; cases H
  clear H
  obtain ⟨x32_3, Ax32_3, cx32_3, x32_4, x32_5, Ax32_5, cx32_5, x32_11, x32_16, x32_17, lk1, H, rfl⟩ := hS
  rw [impl_RollupGroups.l1] at H
  refine gs (rg (sv (EV.lss rfl rfl) rfl (re (gs ?_))))
  revert H; refine ifsI ?_ ?_ <;> intro c4 H
  ·
   refine gt rfl (dT c4) (gk (gs (gb (gs (rg ?_)))))
   revert H; refine ggI ?_; intro g5 H
   revert H; refine ggI ?_; intro g6 H
   refine sv (EV.ix 2 rfl rfl rfl g5 g6 rfl) rfl (sv (EV.le (v := .agg #[.int .i64 ((rd_T49 l0 x32_17).f0), .int .i64 ((rd_T49 l0 x32_17).f1), .int .i64 ((rd_T49 l0 x32_17).f2), .int .i64 ((rd_T49 l0 x32_17).f3), .int .i64 ((rd_T49 l0 x32_17).f4)]) x32_17 0 (some 5) 2 z49 rfl rfl rfl g5 g6 rfl rfl rfl) rfl (so rfl (op_alloc (cs := [.int .i64 0, .int .i64 0, .int .i64 0, .int .i64 0, .int .i64 0]) (by kernel_rfl) rfl fun b7 => (so rfl (op_st (cs' := [.int .i64 ((rd_T49 l0 x32_17).f0), .int .i64 ((rd_T49 l0 x32_17).f1), .int .i64 ((rd_T49 l0 x32_17).f2), .int .i64 ((rd_T49 l0 x32_17).f3), .int .i64 ((rd_T49 l0 x32_17).f4)]) 0 rfl rfl rfl rfl rfl rfl (re (gs (rg (sv (EV.fa 0 rfl) rfl (sv (EV.ld 0 none rfl rfl rfl) rfl (sv (EV.mv rfl) rfl ?_)))))))))))
   revert H; refine bdI ?_; rintro t7 A7 H
   refine so rfl (op_call (impl_RollupKey.ok ((rd_T49 l0 x32_17).f0) x32_4 _ A7) [] 3 rfl rfl rfl rfl rfl ?_)
   rintro _ _ _ ⟨rfl, rfl, rfl⟩
   refine sv (EV.fa 0 rfl) rfl (so rfl (op_st (cs' := [.int .i64 t7, .int .i64 ((rd_T49 l0 x32_17).f1), .int .i64 ((rd_T49 l0 x32_17).f2), .int .i64 ((rd_T49 l0 x32_17).f3), .int .i64 ((rd_T49 l0 x32_17).f4)]) 0 rfl rfl rfl rfl rfl rfl (re (pr [0, 3, 4, 5, 7, 11, 15, 16, 17] [0] [0, 1, 2] rfl rfl rfl rfl (rg (sv (EV.mv rfl) rfl (sv (EV.ld (v := .agg #[.int .i64 t7, .int .i64 ((rd_T49 l0 x32_17).f1), .int .i64 ((rd_T49 l0 x32_17).f2), .int .i64 ((rd_T49 l0 x32_17).f3), .int .i64 ((rd_T49 l0 x32_17).f4)]) 0 (some 5) rfl rfl rfl) rfl (so rfl (op_lit (s := 5) (by_ := 40) k49 ([(⟨t7, (rd_T49 l0 x32_17).f1, (rd_T49 l0 x32_17).f2, (rd_T49 l0 x32_17).f3, (rd_T49 l0 x32_17).f4⟩ : S49)] : List S49) [[]] [] 3 [.tmp 27] rfl rfl rfl rfl rfl rfl rfl rfl rfl rfl rfl rfl rfl dq rfl fun A28_8 c28_8 => ?_)))))))))
   revert H; refine ggI ?_; intro g9 H
   exact so rfl (op_app (k := k49) (s := 5) (by_ := 40) 1 3 rfl rfl rfl rfl (ap1 g9 dq) (ap1n g9 dq) (.inl rfl) true (fun _ => .inl rfl) rfl rfl fun A29_10 c29_10 => (nmE (en := [.sl 2 k51 Ax32_3 cx32_3 x32_3 1 true, .sl 0 k49 Al0 cl0 l0 0 false, .sl 2 k49 A28_8 c28_8 ([(⟨t7, (rd_T49 l0 x32_17).f1, (rd_T49 l0 x32_17).f2, (rd_T49 l0 x32_17).f3, (rd_T49 l0 x32_17).f4⟩ : S49)] : List S49) 3 true, .sl 2 k49 A29_10 c29_10 (x32_5 ++ ([(⟨t7, (rd_T49 l0 x32_17).f1, (rd_T49 l0 x32_17).f2, (rd_T49 l0 x32_17).f3, (rd_T49 l0 x32_17).f4⟩ : S49)] : List S49)) 2 true]) (by kernel_rfl) (sv (EV.as rfl) rfl (re (ge (rg (sv (EV.add rfl rfl) rfl (sv (EV.mv rfl) rfl (re (pr [0, 3, 4, 5, 11, 15, 16, 17] [] [0, 1, 3] rfl rfl rfl rfl (wk [0, 3, 4, 5, 11, 15, 16, 17] [] [⟨0, 2, 1, true⟩, ⟨2, 2, 2, true⟩, ⟨1, 0, 0, false⟩] (ih1 _ (by omega) _ ⟨x32_3, Ax32_3, cx32_3, x32_4, x32_5 ++ ([(⟨t7, (rd_T49 l0 x32_17).f1, (rd_T49 l0 x32_17).f2, (rd_T49 l0 x32_17).f3, (rd_T49 l0 x32_17).f4⟩ : S49)] : List S49), A29_10, c29_10, x32_11, x32_16, wrap64 (x32_17 + 1), by omega, H, rfl⟩))))))))))))
  ·
   refine gf rfl (dF c4) (gx rfl (gs (rg (sv (EV.mv rfl) rfl ?_))))
   revert H; refine bdI ?_; rintro t11 A11 H
   refine so rfl (op_call (impl_MergeGroups.ok n1 x32_5 Ax32_5 cx32_5 _ A11) [⟨1, 0, 0, false⟩] 3 rfl rfl rfl rfl rfl ?_)
   rintro _ _ _ ⟨At11, ct11, rfl, rfl, rfl⟩
   refine sv (EV.ln rfl) rfl (sv (EV.mv rfl) rfl (re (pr [0, 3, 4, 11, 32, 33, 34] [] [0, 2, 3] rfl rfl rfl rfl (gb ?_))))
   refine lo (fun kk S => ∃ (x34_3 : List S51) (Ax34_3 : Option Addr) (cx34_3 : Nat) (x34_4 : Int) (x34_11 : Int) (x34_32 : List S49) (Ax34_32 : Option Addr) (cx34_32 : Nat) (x34_33 : Int) (x34_34 : Int), kk ≤ n1 ∧ impl_RollupGroups.l2 kk x34_3 x34_4 x34_11 x34_32 x34_33 x34_34 l0 = some r0 ∧ S = ⟨[(0, .slice Al0 l0.length cl0), (3, .slice Ax34_3 x34_3.length cx34_3), (4, .int .i64 x34_4), (11, .int .i64 x34_11), (32, .slice Ax34_32 x34_32.length cx34_32), (33, .int .i64 x34_33), (34, .int .i64 x34_34)], [], [.sl 2 k51 Ax34_3 cx34_3 x34_3 1 true, .sl 1 k49 Ax34_32 cx34_32 x34_32 2 false, .sl 0 k49 Al0 cl0 l0 0 false]⟩) (fun S hS => ?_) (fun n2 ih2 S hS => ?_) ⟨x32_3, Ax32_3, cx32_3, x32_4, x32_11, t11, At11, ct11, (t11.length : Int), 0, by omega, H, rfl⟩ (fun h => wk [0, 3, 4, 11, 32, 33, 34] [] [⟨0, 2, 1, true⟩, ⟨2, 1, 2, false⟩, ⟨1, 0, 0, false⟩] h)
   · clear H; obtain ⟨_, _, _, _, _, _, _, _, _, _, _, H, _⟩ := hS; rw [impl_RollupGroups.l2] at H; cases H
   clear H
   obtain ⟨x34_3, Ax34_3, cx34_3, x34_4, x34_11, x34_32, Ax34_32, cx34_32, x34_33, x34_34, lk2, H, rfl⟩ := hS
   rw [impl_RollupGroups.l2] at H
   refine gs (rg (sv (EV.lss rfl rfl) rfl (re (gs ?_))))
   revert H; refine ifsI ?_ ?_ <;> intro c12 H
   ·
    refine gt rfl (dT c12) (gk (gs (gb (gs (rg ?_)))))
    revert H; refine ggI ?_; intro g13 H
    revert H; refine ggI ?_; intro g14 H
    refine sv (EV.ix 1 rfl rfl rfl g13 g14 rfl) rfl (sv (EV.le (v := .agg #[.int .i64 ((rd_T49 x34_32 x34_34).f0), .int .i64 ((rd_T49 x34_32 x34_34).f1), .int .i64 ((rd_T49 x34_32 x34_34).f2), .int .i64 ((rd_T49 x34_32 x34_34).f3), .int .i64 ((rd_T49 x34_32 x34_34).f4)]) x34_34 0 (some 5) 1 z49 rfl rfl rfl g13 g14 rfl rfl rfl) rfl (so rfl (op_alloc (cs := [.int .i64 0, .int .i64 0, .int .i64 0, .int .i64 0, .int .i64 0]) (by kernel_rfl) rfl fun b9 => (so rfl (op_st (cs' := [.int .i64 ((rd_T49 x34_32 x34_34).f0), .int .i64 ((rd_T49 x34_32 x34_34).f1), .int .i64 ((rd_T49 x34_32 x34_34).f2), .int .i64 ((rd_T49 x34_32 x34_34).f3), .int .i64 ((rd_T49 x34_32 x34_34).f4)]) 0 rfl rfl rfl rfl rfl rfl (re (rg (sv (EV.mv rfl) rfl (sv (EV.mv rfl) rfl (sv (EV.ld (v := .agg #[.int .i64 ((rd_T49 x34_32 x34_34).f0), .int .i64 ((rd_T49 x34_32 x34_34).f1), .int .i64 ((rd_T49 x34_32 x34_34).f2), .int .i64 ((rd_T49 x34_32 x34_34).f3), .int .i64 ((rd_T49 x34_32 x34_34).f4)]) 0 (some 5) rfl rfl rfl) rfl (sv (EV.bd (v := .agg #[.int .i64 x34_4, .int .i64 ((rd_T49 x34_32 x34_34).f0), .int .i64 ((rd_T49 x34_32 x34_34).f1), .int .i64 ((rd_T49 x34_32 x34_34).f2), .int .i64 ((rd_T49 x34_32 x34_34).f3), .int .i64 ((rd_T49 x34_32 x34_34).f4)]) rfl (by kernel_rfl)) rfl (so rfl (op_lit (s := 6) (by_ := 48) k51 ([(⟨x34_4, (⟨(rd_T49 x34_32 x34_34).f0, (rd_T49 x34_32 x34_34).f1, (rd_T49 x34_32 x34_34).f2, (rd_T49 x34_32 x34_34).f3, (rd_T49 x34_32 x34_34).f4⟩ : S49)⟩ : S51)] : List S51) [[]] [] 3 [.tmp 41] rfl rfl rfl rfl rfl rfl rfl rfl rfl rfl rfl rfl rfl dq rfl fun A42_15 c42_15 => ?_)))))))))))))
    revert H; refine ggI ?_; intro g16 H
    exact so rfl (op_app (k := k51) (s := 6) (by_ := 48) 0 3 rfl rfl rfl rfl (ap1 g16 dq) (ap1n g16 dq) (.inl rfl) true (fun _ => .inl rfl) rfl rfl fun A43_17 c43_17 => (nmE (en := [.sl 1 k49 Ax34_32 cx34_32 x34_32 2 false, .sl 0 k49 Al0 cl0 l0 0 false, .sl 2 k51 A42_15 c42_15 ([(⟨x34_4, (⟨(rd_T49 x34_32 x34_34).f0, (rd_T49 x34_32 x34_34).f1, (rd_T49 x34_32 x34_34).f2, (rd_T49 x34_32 x34_34).f3, (rd_T49 x34_32 x34_34).f4⟩ : S49)⟩ : S51)] : List S51) 3 true, .sl 2 k51 A43_17 c43_17 (x34_3 ++ ([(⟨x34_4, (⟨(rd_T49 x34_32 x34_34).f0, (rd_T49 x34_32 x34_34).f1, (rd_T49 x34_32 x34_34).f2, (rd_T49 x34_32 x34_34).f3, (rd_T49 x34_32 x34_34).f4⟩ : S49)⟩ : S51)] : List S51)) 1 true]) (by kernel_rfl) (sv (EV.as rfl) rfl (re (pr [0, 3, 4, 11, 32, 33, 34] [] [0, 1, 3] rfl rfl rfl rfl (ge (rg (sv (EV.add rfl rfl) rfl (sv (EV.mv rfl) rfl (re (wk [0, 3, 4, 11, 32, 33, 34] [] [⟨2, 2, 1, true⟩, ⟨0, 1, 2, false⟩, ⟨1, 0, 0, false⟩] (ih2 _ (by omega) _ ⟨x34_3 ++ ([(⟨x34_4, (⟨(rd_T49 x34_32 x34_34).f0, (rd_T49 x34_32 x34_34).f1, (rd_T49 x34_32 x34_34).f2, (rd_T49 x34_32 x34_34).f3, (rd_T49 x34_32 x34_34).f4⟩ : S49)⟩ : S51)] : List S51), A43_17, c43_17, x34_4, x34_11, x34_32, Ax34_32, cx34_32, x34_33, wrap64 (x34_34 + 1), by omega, H, rfl⟩))))))))))))
   ·
    exact gf rfl (dF c12) (gx rfl (ge (rg (sv (EV.add rfl rfl) rfl (sv (EV.mv rfl) rfl (re (pr [0, 3, 11] [] [0, 2] rfl rfl rfl rfl (wk [0, 3, 11] [] [⟨0, 2, 1, true⟩, ⟨1, 0, 0, false⟩] (ih0 _ (by omega) _ ⟨x34_3, Ax34_3, cx34_3, wrap64 (x34_11 + 1), H, rfl⟩)))))))))
 ·
  refine gf rfl (dF c2) (gx rfl (gs (rg (sv (EV.mv rfl) rfl (sv (EV.as rfl) rfl (re ?_))))))
  cases H
  exact rt Try.func24 rfl (.tmp rfl .nil) rfl [] [⟨0, 2, 1, true⟩] rfl rfl rfl rfl rfl ⟨_, _, rfl, rfl, rfl⟩
def impl_GroupFromRow.f (a0_0 : Int) (a0_1 : Int) (a0_2 : Int) : Option (Int × Int × Int × Int × Int) := some (a0_0, 1, a0_1, a0_1, a0_1)
set_option maxHeartbeats 4000000 in
set_option maxRecDepth 100000 in
theorem impl_GroupFromRow.ok (a0_0 : Int) (a0_1 : Int) (a0_2 : Int) (r0 : Int) (r1 : Int) (r2 : Int) (r3 : Int) (r4 : Int) (H : impl_GroupFromRow.f a0_0 a0_1 a0_2 = some (r0, r1, r2, r3, r4)) : Fn Try.prog 57 [.agg #[.int .i64 a0_0, .int .i64 a0_1, .int .i64 a0_2]] [] [] (fun v bx en => v = .agg #[.int .i64 r0, .int .i64 r1, .int .i64 r2, .int .i64 r3, .int .i64 r4] ∧ bx = [] ∧ en = []) := by
 refine fn_ 12 Try.func57 rfl rfl rfl (fun base T w0 => ?_)
 rw [impl_GroupFromRow.f] at H
 refine gs (rg (so rfl (op_box (cs := [.int .i64 a0_0, .int .i64 a0_1, .int .i64 a0_2]) rfl rfl rfl fun b1 => (so rfl (op_alloc (cs := [.int .i64 0, .int .i64 0, .int .i64 0, .int .i64 0, .int .i64 0]) (by kernel_rfl) rfl fun b2 => (re (gs (rg (sv (EV.fa 0 rfl) rfl (sv (EV.ld 0 none rfl rfl rfl) rfl (sv (EV.fa 1 rfl) rfl (sv (EV.ld 0 none rfl rfl rfl) rfl (sv (EV.fa 1 rfl) rfl (sv (EV.ld 0 none rfl rfl rfl) rfl (sv (EV.fa 1 rfl) rfl (sv (EV.ld 0 none rfl rfl rfl) rfl (sv (EV.bd (v := .agg #[.int .i64 a0_0, .int .i64 1, .int .i64 a0_1, .int .i64 a0_1, .int .i64 a0_1]) rfl (by kernel_rfl)) rfl (so rfl (op_st (cs' := [.int .i64 a0_0, .int .i64 1, .int .i64 a0_1, .int .i64 a0_1, .int .i64 a0_1]) 1 rfl rfl rfl rfl rfl rfl (re (pr [2] [1] [] rfl rfl rfl rfl ?_)))))))))))))))))))))
 cases H
 exact rt Try.func57 rfl (.cell 0 (some 5) rfl rfl rfl .nil) rfl [] [] rfl rfl rfl rfl rfl ⟨rfl, rfl, rfl⟩
def impl_ReferenceGroups.l0 : Nat → (List S49) → Int → Int → (List S75) → Option ((List S49))
 | 0, _, _, _, _ => none
 | k + 1, x2_3, x2_8, x2_9, l0 => if x2_9 < x2_8 then (if 0 ≤ x2_9 then (if x2_9 < (l0.length : Int) then ((impl_GroupFromRow.f ((rd_T75 l0 x2_9).f0) ((rd_T75 l0 x2_9).f1) ((rd_T75 l0 x2_9).f2)).bind fun bt5 => (if x2_3.length < 3518437208883 then (impl_ReferenceGroups.l0 k (x2_3 ++ ([(⟨bt5.1, bt5.2.1, bt5.2.2.1, bt5.2.2.2.1, bt5.2.2.2.2⟩ : S49)] : List S49)) x2_8 (wrap64 (x2_9 + 1)) l0) else none)) else none) else none) else ((impl_MergeGroups.f k x2_3).bind fun t9 => (some t9))
def impl_ReferenceGroups.f (k : Nat) (l0 : List S75) : Option ((List S49)) := impl_ReferenceGroups.l0 k [] (l0.length : Int) 0 l0
set_option maxHeartbeats 4000000 in
set_option maxRecDepth 100000 in
theorem impl_ReferenceGroups.ok (k : Nat) (l0 : List S75) (Al0 : Option Addr) (cl0 : Nat) (r0 : List S49) (H : impl_ReferenceGroups.f k l0 = some r0) : Fn Try.prog 25 [.slice Al0 l0.length cl0] [] [.sl 0 k75 Al0 cl0 l0 0 false] (fun v bx en => ∃ A0 c0, v = .slice A0 r0.length c0 ∧ bx = [] ∧ en = [.sl 1 k49 A0 c0 r0 1 false]) := by
 refine fn_ 21 Try.func25 rfl rfl rfl (fun base T w0 => ?_)
 rw [impl_ReferenceGroups.f] at H
 refine gs (rg (sv (EV.as rfl) rfl (re (gs (rg (so rfl (op_lit (s := 5) (by_ := 40) k49 ([] : List S49) [] [] 1 [] rfl rfl rfl rfl rfl rfl rfl rfl rfl rfl rfl rfl rfl dq rfl fun A6_1 c6_1 => (sv (EV.as rfl) rfl (re (gs (gs (rg (sv (EV.mv rfl) rfl (sv (EV.ln rfl) rfl (sv (EV.mv rfl) rfl (re (gb ?_)))))))))))))))))
 refine lo (fun kk S => ∃ (x2_3 : List S49) (Ax2_3 : Option Addr) (cx2_3 : Nat) (x2_8 : Int) (x2_9 : Int), impl_ReferenceGroups.l0 kk x2_3 x2_8 x2_9 l0 = some r0 ∧ S = ⟨[(3, .slice Ax2_3 x2_3.length cx2_3), (7, .slice Al0 l0.length cl0), (8, .int .i64 x2_8), (9, .int .i64 x2_9)], [], [.sl 2 k49 Ax2_3 cx2_3 x2_3 1 true, .sl 0 k75 Al0 cl0 l0 0 false]⟩) (fun S hS => ?_) (fun n0 ih0 S hS => ?_) ⟨[], A6_1, c6_1, (l0.length : Int), 0, H, rfl⟩ (fun h => wk [3, 7, 8, 9] [] [⟨1, 2, 1, true⟩, ⟨0, 0, 0, false⟩] h)
 · clear H; obtain ⟨_, _, _, _, _, H, _⟩ := hS; rw [impl_ReferenceGroups.l0] at H; cases H
 clear H
 obtain ⟨x2_3, Ax2_3, cx2_3, x2_8, x2_9, H, rfl⟩ := hS
 rw [impl_ReferenceGroups.l0] at H
 refine gs (rg (sv (EV.lss rfl rfl) rfl (re (gs ?_))))
 revert H; refine ifsI ?_ ?_ <;> intro c2 H
 ·
  refine gt rfl (dT c2) (gk (gs (gb (gs (rg ?_)))))
  revert H; refine ggI ?_; intro g3 H
  revert H; refine ggI ?_; intro g4 H
  refine sv (EV.ix 1 rfl rfl rfl g3 g4 rfl) rfl (sv (EV.le (v := .agg #[.int .i64 ((rd_T75 l0 x2_9).f0), .int .i64 ((rd_T75 l0 x2_9).f1), .int .i64 ((rd_T75 l0 x2_9).f2)]) x2_9 0 (some 3) 1 z75 rfl rfl rfl g3 g4 rfl rfl rfl) rfl (so rfl (op_alloc (cs := [.int .i64 0, .int .i64 0, .int .i64 0]) (by kernel_rfl) rfl fun b5 => (so rfl (op_st (cs' := [.int .i64 ((rd_T75 l0 x2_9).f0), .int .i64 ((rd_T75 l0 x2_9).f1), .int .i64 ((rd_T75 l0 x2_9).f2)]) 0 rfl rfl rfl rfl rfl rfl (re (rg (sv (EV.mv rfl) rfl (sv (EV.ld (v := .agg #[.int .i64 ((rd_T75 l0 x2_9).f0), .int .i64 ((rd_T75 l0 x2_9).f1), .int .i64 ((rd_T75 l0 x2_9).f2)]) 0 (some 3) rfl rfl rfl) rfl ?_)))))))))
  revert H; refine bdI ?_; rintro ⟨t5_0, t5_1, t5_2, t5_3, t5_4⟩ A5 H
  refine so rfl (op_call (impl_GroupFromRow.ok ((rd_T75 l0 x2_9).f0) ((rd_T75 l0 x2_9).f1) ((rd_T75 l0 x2_9).f2) _ _ _ _ _ A5) [] 2 rfl rfl rfl rfl rfl ?_)
  rintro _ _ _ ⟨rfl, rfl, rfl⟩
  refine so rfl (op_lit (s := 5) (by_ := 40) k49 ([(⟨t5_0, t5_1, t5_2, t5_3, t5_4⟩ : S49)] : List S49) [[]] [] 2 [.tmp 15] rfl rfl rfl rfl rfl rfl rfl rfl rfl rfl rfl rfl rfl dq rfl fun A16_6 c16_6 => ?_)
  revert H; refine ggI ?_; intro g7 H
  exact so rfl (op_app (k := k49) (s := 5) (by_ := 40) 0 2 rfl rfl rfl rfl (ap1 g7 dq) (ap1n g7 dq) (.inl rfl) true (fun _ => .inl rfl) rfl rfl fun A17_8 c17_8 => (nmE (en := [.sl 0 k75 Al0 cl0 l0 0 false, .sl 2 k49 A16_6 c16_6 ([(⟨t5_0, t5_1, t5_2, t5_3, t5_4⟩ : S49)] : List S49) 2 true, .sl 2 k49 A17_8 c17_8 (x2_3 ++ ([(⟨t5_0, t5_1, t5_2, t5_3, t5_4⟩ : S49)] : List S49)) 1 true]) (by kernel_rfl) (sv (EV.as rfl) rfl (re (pr [3, 7, 8, 9] [] [0, 2] rfl rfl rfl rfl (ge (rg (sv (EV.add rfl rfl) rfl (sv (EV.mv rfl) rfl (re (wk [3, 7, 8, 9] [] [⟨1, 2, 1, true⟩, ⟨0, 0, 0, false⟩] (ih0 _ (by omega) _ ⟨x2_3 ++ ([(⟨t5_0, t5_1, t5_2, t5_3, t5_4⟩ : S49)] : List S49), A17_8, c17_8, x2_8, wrap64 (x2_9 + 1), H, rfl⟩))))))))))))
 ·
  refine gf rfl (dF c2) (gx rfl (gs (rg (sv (EV.mv rfl) rfl ?_))))
  revert H; refine bdI ?_; rintro t9 A9 H
  refine so rfl (op_call (impl_MergeGroups.ok n0 x2_3 Ax2_3 cx2_3 _ A9) [⟨0, 0, 0, false⟩] 2 rfl rfl rfl rfl rfl ?_)
  rintro _ _ _ ⟨At9, ct9, rfl, rfl, rfl⟩
  refine sv (EV.as rfl) rfl (re (pr [2] [] [2] rfl rfl rfl rfl ?_))
  cases H
  exact rt Try.func25 rfl (.tmp rfl .nil) rfl [] [⟨0, 1, 1, false⟩] rfl rfl rfl rfl rfl ⟨_, _, rfl, rfl, rfl⟩
def impl_RollupRows.f (k : Nat) (l0 : List S75) : Option ((List S51)) := (impl_ReferenceGroups.f k l0).bind fun t1 => ((impl_RollupGroups.f k t1).bind fun t2 => (some t2))
set_option maxHeartbeats 4000000 in
set_option maxRecDepth 100000 in
theorem impl_RollupRows.ok (k : Nat) (l0 : List S75) (Al0 : Option Addr) (cl0 : Nat) (r0 : List S51) (H : impl_RollupRows.f k l0 = some r0) : Fn Try.prog 22 [.slice Al0 l0.length cl0] [] [.sl 0 k75 Al0 cl0 l0 0 false] (fun v bx en => ∃ A0 c0, v = .slice A0 r0.length c0 ∧ bx = [] ∧ en = [.sl 2 k51 A0 c0 r0 1 true]) := by
 refine fn_ 6 Try.func22 rfl rfl rfl (fun base T w0 => ?_)
 rw [impl_RollupRows.f] at H
 refine gs (rg (sv (EV.as rfl) rfl (re (gs (rg (sv (EV.mv rfl) rfl ?_))))))
 revert H; refine bdI ?_; rintro t1 A1 H
 refine so rfl (op_call (impl_ReferenceGroups.ok k l0 Al0 cl0 _ A1) [⟨0, 0, 0, false⟩] 1 rfl rfl rfl rfl rfl ?_)
 rintro _ _ _ ⟨At1, ct1, rfl, rfl, rfl⟩
 revert H; refine bdI ?_; rintro t2 A2 H
 refine so rfl (op_call (impl_RollupGroups.ok k t1 At1 ct1 _ A2) [⟨1, 0, 0, false⟩] 3 rfl rfl rfl rfl rfl ?_)
 rintro _ _ _ ⟨At2, ct2, rfl, rfl, rfl⟩
 refine sv (EV.as rfl) rfl (re ?_)
 cases H
 exact rt Try.func22 rfl (.tmp rfl .nil) rfl [] [⟨2, 2, 1, true⟩] rfl rfl rfl rfl rfl ⟨_, _, rfl, rfl, rfl⟩
def spec_CombineGroups.f (a0_0 : Int) (a0_1 : Int) (a0_2 : Int) (a0_3 : Int) (a0_4 : Int) (a1_0 : Int) (a1_1 : Int) (a1_2 : Int) (a1_3 : Int) (a1_4 : Int) : Option (Int × Int × Int × Int × Int) := if a0_0 = a1_0 then (some (a0_0, wrap64 (a0_1 + a1_1), wrap64 (a0_2 + a1_2), mn a0_3 a1_3, mx a0_4 a1_4)) else (some (a0_0, a0_1, a0_2, a0_3, a0_4))
set_option maxHeartbeats 4000000 in
set_option maxRecDepth 100000 in
theorem spec_CombineGroups.ok (a0_0 : Int) (a0_1 : Int) (a0_2 : Int) (a0_3 : Int) (a0_4 : Int) (a1_0 : Int) (a1_1 : Int) (a1_2 : Int) (a1_3 : Int) (a1_4 : Int) (r0 : Int) (r1 : Int) (r2 : Int) (r3 : Int) (r4 : Int) (H : spec_CombineGroups.f a0_0 a0_1 a0_2 a0_3 a0_4 a1_0 a1_1 a1_2 a1_3 a1_4 = some (r0, r1, r2, r3, r4)) : Fn Try.prog 85 [.agg #[.int .i64 a0_0, .int .i64 a0_1, .int .i64 a0_2, .int .i64 a0_3, .int .i64 a0_4], .agg #[.int .i64 a1_0, .int .i64 a1_1, .int .i64 a1_2, .int .i64 a1_3, .int .i64 a1_4]] [] [] (fun v bx en => v = .agg #[.int .i64 r0, .int .i64 r1, .int .i64 r2, .int .i64 r3, .int .i64 r4] ∧ bx = [] ∧ en = []) := by
 refine fn_ 34 Try.func85 rfl rfl rfl (fun base T w0 => ?_)
 rw [spec_CombineGroups.f] at H
 refine gs (rg (so rfl (op_box (cs := [.int .i64 a0_0, .int .i64 a0_1, .int .i64 a0_2, .int .i64 a0_3, .int .i64 a0_4]) rfl rfl rfl fun b2 => (so rfl (op_box (cs := [.int .i64 a1_0, .int .i64 a1_1, .int .i64 a1_2, .int .i64 a1_3, .int .i64 a1_4]) rfl rfl rfl fun b3 => (so rfl (op_alloc (cs := [.int .i64 0, .int .i64 0, .int .i64 0, .int .i64 0, .int .i64 0]) (by kernel_rfl) rfl fun b4 => (re (gs (gs (rg (sv (EV.fa 0 rfl) rfl (sv (EV.ld 0 none rfl rfl rfl) rfl (sv (EV.fa 0 rfl) rfl (sv (EV.ld 1 none rfl rfl rfl) rfl (sv (EV.neq rfl rfl) rfl (re (pr [2, 3, 4, 9] [0, 1, 2] [] rfl rfl rfl rfl ?_))))))))))))))))))
 revert H; refine ifsI ?_ ?_ <;> intro c1 H
 ·
  refine gf rfl (nF c1) (gk (gs (rg (sv (EV.fa 0 rfl) rfl (sv (EV.ld 0 none rfl rfl rfl) rfl (sv (EV.fa 1 rfl) rfl (sv (EV.ld 0 none rfl rfl rfl) rfl (sv (EV.fa 1 rfl) rfl (sv (EV.ld 1 none rfl rfl rfl) rfl (sv (EV.add rfl rfl) rfl (sv (EV.fa 2 rfl) rfl (sv (EV.ld 0 none rfl rfl rfl) rfl (sv (EV.fa 2 rfl) rfl (sv (EV.ld 1 none rfl rfl rfl) rfl (sv (EV.add rfl rfl) rfl (sv (EV.fa 3 rfl) rfl (sv (EV.ld 0 none rfl rfl rfl) rfl (sv (EV.fa 3 rfl) rfl (sv (EV.ld 1 none rfl rfl rfl) rfl (sv (EV.mn rfl rfl) rfl (sv (EV.fa 4 rfl) rfl (sv (EV.ld 0 none rfl rfl rfl) rfl (sv (EV.fa 4 rfl) rfl (sv (EV.ld 1 none rfl rfl rfl) rfl (sv (EV.mx rfl rfl) rfl (sv (EV.bd (v := .agg #[.int .i64 a0_0, .int .i64 (wrap64 (a0_1 + a1_1)), .int .i64 (wrap64 (a0_2 + a1_2)), .int .i64 (mn a0_3 a1_3), .int .i64 (mx a0_4 a1_4)]) rfl (by kernel_rfl)) rfl (so rfl (op_st (cs' := [.int .i64 a0_0, .int .i64 (wrap64 (a0_1 + a1_1)), .int .i64 (wrap64 (a0_2 + a1_2)), .int .i64 (mn a0_3 a1_3), .int .i64 (mx a0_4 a1_4)]) 2 rfl rfl rfl rfl rfl rfl (re ?_)))))))))))))))))))))))))))))
  refine pr [4] [2] [] rfl rfl rfl rfl ?_
  cases H
  exact rt Try.func85 rfl (.cell 0 (some 5) rfl rfl rfl .nil) rfl [] [] rfl rfl rfl rfl rfl ⟨rfl, rfl, rfl⟩
 ·
  refine gt rfl (nT c1) (gs (rg (sv (EV.ld (v := .agg #[.int .i64 a0_0, .int .i64 a0_1, .int .i64 a0_2, .int .i64 a0_3, .int .i64 a0_4]) 0 (some 5) rfl rfl rfl) rfl (so rfl (op_st (cs' := [.int .i64 a0_0, .int .i64 a0_1, .int .i64 a0_2, .int .i64 a0_3, .int .i64 a0_4]) 2 rfl rfl rfl rfl rfl rfl (re ?_))))))
  cases H
  exact rt Try.func85 rfl (.cell 2 (some 5) rfl rfl rfl .nil) rfl [] [] rfl rfl rfl rfl rfl ⟨rfl, rfl, rfl⟩
mutual
def spec_MergeGroups.j1 : Nat → (List S49) → Int → Int → (List S49) → Option ((List S49))
 | 0, _, _, _, _ => none
 | k + 1, x33_3, x33_4, x33_5, l0 => if 0 ≤ x33_4 then (if x33_4 < (l0.length : Int) then (if 0 ≤ x33_5 then (if x33_5 ≤ (x33_3.length : Int) then (if ([(⟨(rd_T49 l0 x33_4).f0, (rd_T49 l0 x33_4).f1, (rd_T49 l0 x33_4).f2, (rd_T49 l0 x33_4).f3, (rd_T49 l0 x33_4).f4⟩ : S49)] : List S49).length + (x33_3.drop x33_5.toNat).length ≤ 3518437208883 then (if (x33_3.take x33_5.toNat).length ≤ 3518437208883 then (if (x33_3.take x33_5.toNat).length + (([(⟨(rd_T49 l0 x33_4).f0, (rd_T49 l0 x33_4).f1, (rd_T49 l0 x33_4).f2, (rd_T49 l0 x33_4).f3, (rd_T49 l0 x33_4).f4⟩ : S49)] : List S49) ++ (x33_3.drop x33_5.toNat)).length ≤ 3518437208883 then (spec_MergeGroups.l0 k ((x33_3.take x33_5.toNat) ++ (([(⟨(rd_T49 l0 x33_4).f0, (rd_T49 l0 x33_4).f1, (rd_T49 l0 x33_4).f2, (rd_T49 l0 x33_4).f3, (rd_T49 l0 x33_4).f4⟩ : S49)] : List S49) ++ (x33_3.drop x33_5.toNat))) (wrap64 (x33_4 + 1)) l0) else none) else none) else none) else none) else none) else none) else none
def spec_MergeGroups.j0 : Nat → (List S49) → Int → Int → (List S49) → Option ((List S49))
 | 0, _, _, _, _ => none
 | k + 1, x32_3, x32_4, x32_5, l0 => if x32_5 < (x32_3.length : Int) then (if 0 ≤ x32_5 then (if 0 ≤ x32_4 then (if x32_4 < (l0.length : Int) then (if ((rd_T49 x32_3 x32_5).f0) = ((rd_T49 l0 x32_4).f0) then ((spec_CombineGroups.f ((rd_T49 x32_3 x32_5).f0) ((rd_T49 x32_3 x32_5).f1) ((rd_T49 x32_3 x32_5).f2) ((rd_T49 x32_3 x32_5).f3) ((rd_T49 x32_3 x32_5).f4) ((rd_T49 l0 x32_4).f0) ((rd_T49 l0 x32_4).f1) ((rd_T49 l0 x32_4).f2) ((rd_T49 l0 x32_4).f3) ((rd_T49 l0 x32_4).f4)).bind fun bt22 => ((some (x32_3.set x32_5.toNat (⟨bt22.1, bt22.2.1, bt22.2.2.1, bt22.2.2.2.1, bt22.2.2.2.2⟩ : S49))).bind fun s23 => (spec_MergeGroups.l0 k s23 (wrap64 (x32_4 + 1)) l0))) else (spec_MergeGroups.j1 k x32_3 x32_4 x32_5 l0)) else none) else none) else none) else (spec_MergeGroups.j1 k x32_3 x32_4 x32_5 l0)
def spec_MergeGroups.l1 : Nat → (List S49) → Int → Int → (List S49) → Option ((List S49))
 | 0, _, _, _, _ => none
 | k + 1, x34_3, x34_4, x34_5, l0 => if x34_5 < (x34_3.length : Int) then (if 0 ≤ x34_5 then (if 0 ≤ x34_4 then (if x34_4 < (l0.length : Int) then (if ((rd_T49 x34_3 x34_5).f0) < ((rd_T49 l0 x34_4).f0) then (spec_MergeGroups.l1 k x34_3 x34_4 (wrap64 (x34_5 + 1)) l0) else (spec_MergeGroups.j0 k x34_3 x34_4 x34_5 l0)) else none) else none) else none) else (spec_MergeGroups.j0 k x34_3 x34_4 x34_5 l0)
def spec_MergeGroups.l0 : Nat → (List S49) → Int → (List S49) → Option ((List S49))
 | 0, _, _, _ => none
 | k + 1, x18_3, x18_4, l0 => if x18_4 < (l0.length : Int) then (spec_MergeGroups.l1 k x18_3 x18_4 0 l0) else (some x18_3)
end
def spec_MergeGroups.f (k : Nat) (l0 : List S49) : Option ((List S49)) := spec_MergeGroups.l0 k [] 0 l0
set_option maxHeartbeats 4000000 in
set_option maxRecDepth 100000 in
theorem spec_MergeGroups.ok (k : Nat) (l0 : List S49) (Al0 : Option Addr) (cl0 : Nat) (r0 : List S49) (H : spec_MergeGroups.f k l0 = some r0) : Fn Try.prog 52 [.slice Al0 l0.length cl0] [] [.sl 0 k49 Al0 cl0 l0 0 false] (fun v bx en => ∃ A0 c0, v = .slice A0 r0.length c0 ∧ bx = [] ∧ en = [.sl 2 k49 A0 c0 r0 1 true]) := by
 refine fn_ 79 Try.func52 rfl rfl rfl (fun base T w0 => ?_)
 rw [spec_MergeGroups.f] at H
 refine gs (rg (sv (EV.as rfl) rfl (re (gs (rg (so rfl (op_lit (s := 5) (by_ := 40) k49 ([] : List S49) [] [] 1 [] rfl rfl rfl rfl rfl rfl rfl rfl rfl rfl rfl rfl rfl dq rfl fun A7_1 c7_1 => (sv (EV.as rfl) rfl (re (gs (gs (rg (sv (EV.as rfl) rfl (re (gb ?_)))))))))))))))
 refine lo (fun kk S => ∃ (x18_3 : List S49) (Ax18_3 : Option Addr) (cx18_3 : Nat) (x18_4 : Int), spec_MergeGroups.l0 kk x18_3 x18_4 l0 = some r0 ∧ S = ⟨[(0, .slice Al0 l0.length cl0), (3, .slice Ax18_3 x18_3.length cx18_3), (4, .int .i64 x18_4)], [], [.sl 2 k49 Ax18_3 cx18_3 x18_3 1 true, .sl 0 k49 Al0 cl0 l0 0 false]⟩) (fun S hS => ?_) (fun n0 ih0 S hS => ?_) ⟨[], A7_1, c7_1, 0, H, rfl⟩ (fun h => wk [0, 3, 4] [] [⟨1, 2, 1, true⟩, ⟨0, 0, 0, false⟩] h)
 · clear H; obtain ⟨_, _, _, _, H, _⟩ := hS; rw [spec_MergeGroups.l0] at H; cases H
 clear H
 obtain ⟨x18_3, Ax18_3, cx18_3, x18_4, H, rfl⟩ := hS
 rw [spec_MergeGroups.l0] at H
 refine gs (gs (rg (sv (EV.mv rfl) rfl (sv (EV.mv rfl) rfl (sv (EV.ln rfl) rfl (sv (EV.lss rfl rfl) rfl (re ?_)))))))
 revert H; refine ifsI ?_ ?_ <;> intro c2 H
 ·
  refine gt rfl (dT c2) (gk (gs (gb (gs (rg (sv (EV.as rfl) rfl (re ?_)))))))
  refine jo (fun S => ∃ (m : Nat) (x32_3 : List S49) (Ax32_3 : Option Addr) (cx32_3 : Nat) (x32_4 : Int) (x32_5 : Int), m ≤ n0 ∧ spec_MergeGroups.j0 m x32_3 x32_4 x32_5 l0 = some r0 ∧ S = ⟨[(0, .slice Al0 l0.length cl0), (3, .slice Ax32_3 x32_3.length cx32_3), (4, .int .i64 x32_4), (5, .int .i64 x32_5)], [], [.sl 2 k49 Ax32_3 cx32_3 x32_3 1 true, .sl 0 k49 Al0 cl0 l0 0 false]⟩) (fun S hS => ?_) (fun jh0 => ?_)
  ·
   clear H
   obtain ⟨m3, x32_3, Ax32_3, cx32_3, x32_4, x32_5, lm3, H, rfl⟩ := hS
   rcases m3 with _ | m3
   · rw [spec_MergeGroups.j0] at H; cases H
   rw [spec_MergeGroups.j0] at H
   refine jo (fun S => ∃ (m : Nat) (x33_3 : List S49) (Ax33_3 : Option Addr) (cx33_3 : Nat) (x33_4 : Int) (x33_5 : Int), m ≤ m3 ∧ spec_MergeGroups.j1 m x33_3 x33_4 x33_5 l0 = some r0 ∧ S = ⟨[(0, .slice Al0 l0.length cl0), (3, .slice Ax33_3 x33_3.length cx33_3), (4, .int .i64 x33_4), (5, .int .i64 x33_5)], [], [.sl 2 k49 Ax33_3 cx33_3 x33_3 1 true, .sl 0 k49 Al0 cl0 l0 0 false]⟩) (fun S hS => ?_) (fun jh1 => ?_)
   ·
    clear H
    obtain ⟨m4, x33_3, Ax33_3, cx33_3, x33_4, x33_5, lm4, H, rfl⟩ := hS
    rcases m4 with _ | m4
    · rw [spec_MergeGroups.j1] at H; cases H
    rw [spec_MergeGroups.j1] at H
    refine gs ?_
    revert H; refine ggI ?_; intro g5 H
    revert H; refine ggI ?_; intro g6 H
    revert H; refine ggI ?_; intro g7 H
    revert H; refine ggI ?_; intro g8 H
    refine dr [] [0, 1] [9] 10 rfl rfl rfl rfl (xv 0 [] [0, 1] rfl (EV.mv rfl) rfl rfl rfl rfl (xv 1 [] [0, 1] rfl (EV.mv rfl) rfl rfl rfl rfl (xv 2 [] [0, 1] rfl (EV.ix 1 rfl rfl rfl g5 g6 rfl) rfl rfl rfl rfl (xv 3 [] [0, 1] rfl (EV.le (v := .agg #[.int .i64 ((rd_T49 l0 x33_4).f0), .int .i64 ((rd_T49 l0 x33_4).f1), .int .i64 ((rd_T49 l0 x33_4).f2), .int .i64 ((rd_T49 l0 x33_4).f3), .int .i64 ((rd_T49 l0 x33_4).f4)]) x33_4 0 (some 5) 1 z49 rfl rfl rfl g5 g6 rfl rfl rfl) rfl rfl rfl rfl (xv 5 [] [0, 1] rfl (EV.mv rfl) rfl rfl rfl rfl (xv 6 [] [0, 1] rfl (EV.mv rfl) rfl rfl rfl rfl (cutp (l' := x33_3.drop x33_5.toNat) x33_5 (x33_3.length : Int) 0 rfl g7 g8 (Int.le_refl _) rfl 1 dq (.inl dq) ctl (xv 7 [] [0, 1] rfl (EV.ct x33_5 (x33_3.length : Int) 0 rfl rfl rfl rfl g7 g8 (Int.le_refl _) rfl rfl ctnl) rfl rfl rfl rfl (one1 4 rfl rfl (op_lit (s := 5) (by_ := 40) k49 ([(⟨(rd_T49 l0 x33_4).f0, (rd_T49 l0 x33_4).f1, (rd_T49 l0 x33_4).f2, (rd_T49 l0 x33_4).f3, (rd_T49 l0 x33_4).f4⟩ : S49)] : List S49) [[]] [] 2 [.tmp 65] rfl rfl rfl rfl rfl rfl rfl rfl rfl rfl rfl rfl rfl dq rfl fun A66_9 c66_9 => (xs [] [0, 1] rfl rfl rfl (one1 8 rfl rfl ?_))))))))))))
    revert H; refine ggI ?_; intro g10 H
    refine op_app (k := k49) (s := 5) (by_ := 40) 3 2 rfl rfl rfl rfl (ap2 g10 dq) (ap2n g10 dq) (.inl rfl) true (fun _ => .inl rfl) rfl rfl fun A70_11 c70_11 => (nmE (en := [.sl 2 k49 Ax33_3 cx33_3 x33_3 1 true, .sl 0 k49 Al0 cl0 l0 0 false, .sl 1 k49 (cutA Ax33_3 cx33_3 x33_5.toNat 5) (cx33_3 - x33_5.toNat) (x33_3.drop x33_5.toNat) 1 true, .sl 2 k49 A70_11 c70_11 (([(⟨(rd_T49 l0 x33_4).f0, (rd_T49 l0 x33_4).f1, (rd_T49 l0 x33_4).f2, (rd_T49 l0 x33_4).f3, (rd_T49 l0 x33_4).f4⟩ : S49)] : List S49) ++ (x33_3.drop x33_5.toNat)) 2 true]) (by kernel_rfl) (xs [] [0, 1] rfl rfl rfl (one1 9 rfl rfl (ov (EV.as rfl) rfl (xn rfl (xd (pr [0, 3, 4, 5, 6] [] [0, 1, 3] rfl rfl rfl rfl (rg (so rfl (op_lit (s := 5) (by_ := 40) k49 ([] : List S49) [] [] 3 [] rfl rfl rfl rfl rfl rfl rfl rfl rfl rfl rfl rfl rfl dq rfl fun A71_12 c71_12 => (sv (EV.mv rfl) rfl (sv (EV.mv rfl) rfl (cutp (l' := x33_3.take x33_5.toNat) 0 x33_5 0 rfl (Int.le_refl 0) g7 g8 rfl 2 dq (.inr rfl) rfl (sv (EV.ct 0 x33_5 0 rfl rfl rfl rfl (Int.le_refl 0) g7 g8 rfl rfl ctnh) rfl ?_))))))))))))))
    revert H; refine ggI ?_; intro g13 H
    refine so rfl (op_app (k := k49) (s := 5) (by_ := 40) 3 4 rfl rfl rfl rfl (ap0 g13 dq) (ap0n g13 dq) (.inl rfl) true (fun _ => .inl rfl) rfl rfl fun A75_14 c75_14 => (nmE (en := [.sl 2 k49 Ax33_3 cx33_3 x33_3 1 true, .sl 0 k49 Al0 cl0 l0 0 false, .sl 2 k49 A70_11 c70_11 (([(⟨(rd_T49 l0 x33_4).f0, (rd_T49 l0 x33_4).f1, (rd_T49 l0 x33_4).f2, (rd_T49 l0 x33_4).f3, (rd_T49 l0 x33_4).f4⟩ : S49)] : List S49) ++ (x33_3.drop x33_5.toNat)) 2 true, .sl 2 k49 (cutA Ax33_3 cx33_3 (0 : Int).toNat 5) (cx33_3 - (0 : Int).toNat) (x33_3.take x33_5.toNat) 1 true, .sl 2 k49 A75_14 c75_14 (x33_3.take x33_5.toNat) 3 true]) (by kernel_rfl) (sv (EV.mv rfl) rfl ?_)))
    revert H; refine ggI ?_; intro g15 H
    exact so rfl (op_app (k := k49) (s := 5) (by_ := 40) 4 2 rfl rfl rfl rfl (ap2 g15 dq) (ap2n g15 dq) (.inl rfl) true (fun _ => .inl rfl) rfl rfl fun A77_16 c77_16 => (nmE (en := [.sl 2 k49 Ax33_3 cx33_3 x33_3 1 true, .sl 0 k49 Al0 cl0 l0 0 false, .sl 2 k49 A70_11 c70_11 (([(⟨(rd_T49 l0 x33_4).f0, (rd_T49 l0 x33_4).f1, (rd_T49 l0 x33_4).f2, (rd_T49 l0 x33_4).f3, (rd_T49 l0 x33_4).f4⟩ : S49)] : List S49) ++ (x33_3.drop x33_5.toNat)) 2 true, .sl 2 k49 (cutA Ax33_3 cx33_3 (0 : Int).toNat 5) (cx33_3 - (0 : Int).toNat) (x33_3.take x33_5.toNat) 1 true, .sl 2 k49 A77_16 c77_16 ((x33_3.take x33_5.toNat) ++ (([(⟨(rd_T49 l0 x33_4).f0, (rd_T49 l0 x33_4).f1, (rd_T49 l0 x33_4).f2, (rd_T49 l0 x33_4).f3, (rd_T49 l0 x33_4).f4⟩ : S49)] : List S49) ++ (x33_3.drop x33_5.toNat))) 3 true]) (by kernel_rfl) (sv (EV.as rfl) rfl (re (pr [0, 3, 4] [] [1, 4] rfl rfl rfl rfl (ge (rg (sv (EV.mv rfl) rfl (sv (EV.add rfl rfl) rfl (sv (EV.as rfl) rfl (re (wk [0, 3, 4] [] [⟨1, 2, 1, true⟩, ⟨0, 0, 0, false⟩] (ih0 _ (by omega) _ ⟨(x33_3.take x33_5.toNat) ++ (([(⟨(rd_T49 l0 x33_4).f0, (rd_T49 l0 x33_4).f1, (rd_T49 l0 x33_4).f2, (rd_T49 l0 x33_4).f3, (rd_T49 l0 x33_4).f4⟩ : S49)] : List S49) ++ (x33_3.drop x33_5.toNat)), A77_16, c77_16, wrap64 (x33_4 + 1), H, rfl⟩)))))))))))))
   ·
    refine gs (dr [] [0, 1] [] 17 rfl rfl rfl rfl (xv 0 [] [0, 1] rfl (EV.mv rfl) rfl rfl rfl rfl (xv 1 [] [0, 1] rfl (EV.mv rfl) rfl rfl rfl rfl (xv 2 [] [0, 1] rfl (EV.ln rfl) rfl rfl rfl rfl (xv 3 [] [0, 1] rfl (EV.lss rfl rfl) rfl rfl rfl rfl (xv 4 [] [0, 1] rfl (EV.mv rfl) rfl rfl rfl rfl ?_))))))
    revert H; refine ifsI ?_ ?_ <;> intro c17 H
    ·
     refine ts 37 rfl (dT c17) (xv 5 [] [0, 1] rfl (EV.mv rfl) rfl rfl rfl rfl (xv 6 [] [0, 1] rfl (EV.mv rfl) rfl rfl rfl rfl ?_))
     revert H; refine ggI ?_; intro g18 H
     refine xv 7 [] [0, 1] rfl (EV.ix 0 rfl rfl rfl g18 c17 rfl) rfl rfl rfl rfl (xv 8 [] [0, 1] rfl (EV.fa 0 rfl) rfl rfl rfl rfl (xv 9 [] [0, 1] rfl (EV.le (v := .int .i64 ((rd_T49 x32_3 x32_5).f0)) x32_5 0 none 0 z49 rfl rfl rfl g18 c17 rfl rfl rfl) rfl rfl rfl rfl (xv 10 [] [0, 1] rfl (EV.mv rfl) rfl rfl rfl rfl (xv 11 [] [0, 1] rfl (EV.mv rfl) rfl rfl rfl rfl ?_))))
     revert H; refine ggI ?_; intro g19 H
     revert H; refine ggI ?_; intro g20 H
     refine xv 12 [] [0, 1] rfl (EV.ix 1 rfl rfl rfl g19 g20 rfl) rfl rfl rfl rfl (xv 13 [] [0, 1] rfl (EV.fa 0 rfl) rfl rfl rfl rfl (xv 14 [] [0, 1] rfl (EV.le (v := .int .i64 ((rd_T49 l0 x32_4).f0)) x32_4 0 none 1 z49 rfl rfl rfl g19 g20 rfl rfl rfl) rfl rfl rfl rfl (xv 15 [] [0, 1] rfl (EV.eql rfl rfl) rfl rfl rfl rfl (xv 16 [] [0, 1] rfl (EV.pt rfl rfl rfl) rfl rfl rfl rfl (xd ?_)))))
     revert H; refine ifsI ?_ ?_ <;> intro c21 H
     ·
      refine gt rfl (dT c21) (gs (dr [] [0, 1] [12] 13 rfl rfl rfl rfl (xv 0 [] [0, 1] rfl (EV.mv rfl) rfl rfl rfl rfl (xv 1 [] [0, 1] rfl (EV.mv rfl) rfl rfl rfl rfl (xv 2 [] [0, 1] rfl (EV.mv rfl) rfl rfl rfl rfl (xv 3 [] [0, 1] rfl (EV.mv rfl) rfl rfl rfl rfl (xv 4 [] [0, 1] rfl (EV.ix 0 rfl rfl rfl g18 c17 rfl) rfl rfl rfl rfl (xv 5 [] [0, 1] rfl (EV.le (v := .agg #[.int .i64 ((rd_T49 x32_3 x32_5).f0), .int .i64 ((rd_T49 x32_3 x32_5).f1), .int .i64 ((rd_T49 x32_3 x32_5).f2), .int .i64 ((rd_T49 x32_3 x32_5).f3), .int .i64 ((rd_T49 x32_3 x32_5).f4)]) x32_5 0 (some 5) 0 z49 rfl rfl rfl g18 c17 rfl rfl rfl) rfl rfl rfl rfl (xv 6 [] [0, 1] rfl (EV.mv rfl) rfl rfl rfl rfl (xv 7 [] [0, 1] rfl (EV.mv rfl) rfl rfl rfl rfl (xv 8 [] [0, 1] rfl (EV.ix 1 rfl rfl rfl g19 g20 rfl) rfl rfl rfl rfl (xv 9 [] [0, 1] rfl (EV.le (v := .agg #[.int .i64 ((rd_T49 l0 x32_4).f0), .int .i64 ((rd_T49 l0 x32_4).f1), .int .i64 ((rd_T49 l0 x32_4).f2), .int .i64 ((rd_T49 l0 x32_4).f3), .int .i64 ((rd_T49 l0 x32_4).f4)]) x32_4 0 (some 5) 1 z49 rfl rfl rfl g19 g20 rfl rfl rfl) rfl rfl rfl rfl (one1 10 rfl rfl ?_)))))))))))))
      revert H; refine bdI ?_; rintro ⟨t22_0, t22_1, t22_2, t22_3, t22_4⟩ A22 H
      refine op_call (spec_CombineGroups.ok ((rd_T49 x32_3 x32_5).f0) ((rd_T49 x32_3 x32_5).f1) ((rd_T49 x32_3 x32_5).f2) ((rd_T49 x32_3 x32_5).f3) ((rd_T49 x32_3 x32_5).f4) ((rd_T49 l0 x32_4).f0) ((rd_T49 l0 x32_4).f1) ((rd_T49 l0 x32_4).f2) ((rd_T49 l0 x32_4).f3) ((rd_T49 l0 x32_4).f4) _ _ _ _ _ A22) [] 2 rfl rfl rfl rfl rfl ?_
      rintro _ _ _ ⟨rfl, rfl, rfl⟩
      refine xs [] [0, 1] rfl rfl rfl (xv 11 [] [0, 1] rfl (EV.ix 0 rfl rfl rfl g18 c17 rfl) rfl rfl rfl rfl (one1 12 rfl rfl ?_))
      revert H; refine bdI ?_; intro s23 A23 H; have q23 := stl (Option.some.inj A23)
      exact op_stg x32_5 0 0 z49 (⟨t22_0, t22_1, t22_2, t22_3, t22_4⟩ : S49) (Option.some.inj A23) rfl rfl rfl rfl g18 c17 rfl rfl rfl rfl dq rfl (rlT 3 (v' := .slice Ax32_3 s23.length cx32_3) rfl (slq _ _ q23) (rlT 34 (v' := .slice Ax32_3 s23.length cx32_3) rfl (slq _ _ q23) (rlT 38 (v' := .slice Ax32_3 s23.length cx32_3) rfl (slq _ _ q23) (rlT 50 (v' := .slice Ax32_3 s23.length cx32_3) rfl (slq _ _ q23) (rlT 52 (v' := .slice Ax32_3 s23.length cx32_3) rfl (slq _ _ q23) (nmE (en := [.sl 0 k49 Al0 cl0 l0 0 false, .sl 2 k49 Ax32_3 cx32_3 s23 1 true]) (by kernel_rfl) (xn rfl (xd (pr [0, 3, 4, 38, 39, 42, 43, 44, 45, 46, 47, 48] [] [0, 1] rfl rfl rfl rfl (gx rfl (rg (sv (EV.mv rfl) rfl (sv (EV.add rfl rfl) rfl (sv (EV.as rfl) rfl (re (wk [0, 3, 4] [] [⟨1, 2, 1, true⟩, ⟨0, 0, 0, false⟩] (ih0 _ (by omega) _ ⟨s23, Ax32_3, cx32_3, wrap64 (x32_4 + 1), H, rfl⟩)))))))))))))))))
     ·
      exact gf rfl (dF c21) (gk (wk [0, 3, 4, 5] [] [⟨0, 2, 1, true⟩, ⟨1, 0, 0, false⟩] (jh1 _ ⟨_, x32_3, Ax32_3, cx32_3, x32_4, x32_5, by omega, H, rfl⟩)))
    ·
     exact ts 37 rfl (dF c17) (xk 5 [] [0, 1] rfl rfl rfl rfl rfl (xk 6 [] [0, 1] rfl rfl rfl rfl rfl (xk 7 [] [0, 1] rfl rfl rfl rfl rfl (xk 8 [] [0, 1] rfl rfl rfl rfl rfl (xk 9 [] [0, 1] rfl rfl rfl rfl rfl (xk 10 [] [0, 1] rfl rfl rfl rfl rfl (xk 11 [] [0, 1] rfl rfl rfl rfl rfl (xk 12 [] [0, 1] rfl rfl rfl rfl rfl (xk 13 [] [0, 1] rfl rfl rfl rfl rfl (xk 14 [] [0, 1] rfl rfl rfl rfl rfl (xk 15 [] [0, 1] rfl rfl rfl rfl rfl (xv 16 [] [0, 1] rfl (EV.pf rfl rfl rfl) rfl rfl rfl rfl (xd (pr [0, 3, 4, 5, 49] [] [0, 1] rfl rfl rfl rfl (gf rfl rfl (gk (wk [0, 3, 4, 5] [] [⟨0, 2, 1, true⟩, ⟨1, 0, 0, false⟩] (jh1 _ ⟨_, x32_3, Ax32_3, cx32_3, x32_4, x32_5, by omega, H, rfl⟩))))))))))))))))))
  ·
   refine gb ?_
   refine lo (fun kk S => ∃ (x34_3 : List S49) (Ax34_3 : Option Addr) (cx34_3 : Nat) (x34_4 : Int) (x34_5 : Int), kk ≤ n0 ∧ spec_MergeGroups.l1 kk x34_3 x34_4 x34_5 l0 = some r0 ∧ S = ⟨[(0, .slice Al0 l0.length cl0), (3, .slice Ax34_3 x34_3.length cx34_3), (4, .int .i64 x34_4), (5, .int .i64 x34_5)], [], [.sl 2 k49 Ax34_3 cx34_3 x34_3 1 true, .sl 0 k49 Al0 cl0 l0 0 false]⟩) (fun S hS => ?_) (fun n1 ih1 S hS => ?_) ⟨x18_3, Ax18_3, cx18_3, x18_4, 0, by omega, H, rfl⟩ (fun h => wk [0, 3, 4, 5] [] [⟨0, 2, 1, true⟩, ⟨1, 0, 0, false⟩] h)
   · clear H; obtain ⟨_, _, _, _, _, _, H, _⟩ := hS; rw [spec_MergeGroups.l1] at H; cases H
   clear H
   obtain ⟨x34_3, Ax34_3, cx34_3, x34_4, x34_5, lk1, H, rfl⟩ := hS
   rw [spec_MergeGroups.l1] at H
   refine gs (gs (dr [] [0, 1] [] 17 rfl rfl rfl rfl (xv 0 [] [0, 1] rfl (EV.mv rfl) rfl rfl rfl rfl (xv 1 [] [0, 1] rfl (EV.mv rfl) rfl rfl rfl rfl (xv 2 [] [0, 1] rfl (EV.ln rfl) rfl rfl rfl rfl (xv 3 [] [0, 1] rfl (EV.lss rfl rfl) rfl rfl rfl rfl (xv 4 [] [0, 1] rfl (EV.mv rfl) rfl rfl rfl rfl ?_)))))))
   revert H; refine ifsI ?_ ?_ <;> intro c24 H
   ·
    refine ts 18 rfl (dT c24) (xv 5 [] [0, 1] rfl (EV.mv rfl) rfl rfl rfl rfl (xv 6 [] [0, 1] rfl (EV.mv rfl) rfl rfl rfl rfl ?_))
    revert H; refine ggI ?_; intro g25 H
    refine xv 7 [] [0, 1] rfl (EV.ix 0 rfl rfl rfl g25 c24 rfl) rfl rfl rfl rfl (xv 8 [] [0, 1] rfl (EV.fa 0 rfl) rfl rfl rfl rfl (xv 9 [] [0, 1] rfl (EV.le (v := .int .i64 ((rd_T49 x34_3 x34_5).f0)) x34_5 0 none 0 z49 rfl rfl rfl g25 c24 rfl rfl rfl) rfl rfl rfl rfl (xv 10 [] [0, 1] rfl (EV.mv rfl) rfl rfl rfl rfl (xv 11 [] [0, 1] rfl (EV.mv rfl) rfl rfl rfl rfl ?_))))
    revert H; refine ggI ?_; intro g26 H
    revert H; refine ggI ?_; intro g27 H
    refine xv 12 [] [0, 1] rfl (EV.ix 1 rfl rfl rfl g26 g27 rfl) rfl rfl rfl rfl (xv 13 [] [0, 1] rfl (EV.fa 0 rfl) rfl rfl rfl rfl (xv 14 [] [0, 1] rfl (EV.le (v := .int .i64 ((rd_T49 l0 x34_4).f0)) x34_4 0 none 1 z49 rfl rfl rfl g26 g27 rfl rfl rfl) rfl rfl rfl rfl (xv 15 [] [0, 1] rfl (EV.lss rfl rfl) rfl rfl rfl rfl (xv 16 [] [0, 1] rfl (EV.pt rfl rfl rfl) rfl rfl rfl rfl (xd ?_)))))
    revert H; refine ifsI ?_ ?_ <;> intro c28 H
    ·
     exact gt rfl (dT c28) (gk (gb (rg (sv (EV.mv rfl) rfl (sv (EV.add rfl rfl) rfl (sv (EV.as rfl) rfl (re (pr [0, 3, 4, 5, 19, 20, 21, 22, 23, 24, 25, 26, 27, 28, 29] [] [0, 1] rfl rfl rfl rfl (ge (wk [0, 3, 4, 5] [] [⟨0, 2, 1, true⟩, ⟨1, 0, 0, false⟩] (ih1 _ (by omega) _ ⟨x34_3, Ax34_3, cx34_3, x34_4, wrap64 (x34_5 + 1), by omega, H, rfl⟩)))))))))))
    ·
     exact gf rfl (dF c28) (gx rfl (wk [0, 3, 4, 5] [] [⟨0, 2, 1, true⟩, ⟨1, 0, 0, false⟩] (jh0 _ ⟨_, x34_3, Ax34_3, cx34_3, x34_4, x34_5, by omega, H, rfl⟩)))
   ·
    exact ts 18 rfl (dF c24) (xk 5 [] [0, 1] rfl rfl rfl rfl rfl (xk 6 [] [0, 1] rfl rfl rfl rfl rfl (xk 7 [] [0, 1] rfl rfl rfl rfl rfl (xk 8 [] [0, 1] rfl rfl rfl rfl rfl (xk 9 [] [0, 1] rfl rfl rfl rfl rfl (xk 10 [] [0, 1] rfl rfl rfl rfl rfl (xk 11 [] [0, 1] rfl rfl rfl rfl rfl (xk 12 [] [0, 1] rfl rfl rfl rfl rfl (xk 13 [] [0, 1] rfl rfl rfl rfl rfl (xk 14 [] [0, 1] rfl rfl rfl rfl rfl (xk 15 [] [0, 1] rfl rfl rfl rfl rfl (xv 16 [] [0, 1] rfl (EV.pf rfl rfl rfl) rfl rfl rfl rfl (xd (pr [0, 3, 4, 5, 30] [] [0, 1] rfl rfl rfl rfl (gf rfl rfl (gx rfl (wk [0, 3, 4, 5] [] [⟨0, 2, 1, true⟩, ⟨1, 0, 0, false⟩] (jh0 _ ⟨_, x34_3, Ax34_3, cx34_3, x34_4, x34_5, by omega, H, rfl⟩))))))))))))))))))
 ·
  refine gf rfl (dF c2) (gx rfl (gs (rg (sv (EV.mv rfl) rfl (sv (EV.as rfl) rfl (re (pr [2] [] [0] rfl rfl rfl rfl ?_)))))))
  cases H
  exact rt Try.func52 rfl (.tmp rfl .nil) rfl [] [⟨0, 2, 1, true⟩] rfl rfl rfl rfl rfl ⟨_, _, rfl, rfl, rfl⟩
def spec_GroupFromRow.f (a0_0 : Int) (a0_1 : Int) (a0_2 : Int) : Option (Int × Int × Int × Int × Int) := some (a0_0, 1, a0_1, a0_1, a0_1)
set_option maxHeartbeats 4000000 in
set_option maxRecDepth 100000 in
theorem spec_GroupFromRow.ok (a0_0 : Int) (a0_1 : Int) (a0_2 : Int) (r0 : Int) (r1 : Int) (r2 : Int) (r3 : Int) (r4 : Int) (H : spec_GroupFromRow.f a0_0 a0_1 a0_2 = some (r0, r1, r2, r3, r4)) : Fn Try.prog 54 [.agg #[.int .i64 a0_0, .int .i64 a0_1, .int .i64 a0_2]] [] [] (fun v bx en => v = .agg #[.int .i64 r0, .int .i64 r1, .int .i64 r2, .int .i64 r3, .int .i64 r4] ∧ bx = [] ∧ en = []) := by
 refine fn_ 12 Try.func54 rfl rfl rfl (fun base T w0 => ?_)
 rw [spec_GroupFromRow.f] at H
 refine gs (rg (so rfl (op_box (cs := [.int .i64 a0_0, .int .i64 a0_1, .int .i64 a0_2]) rfl rfl rfl fun b1 => (so rfl (op_alloc (cs := [.int .i64 0, .int .i64 0, .int .i64 0, .int .i64 0, .int .i64 0]) (by kernel_rfl) rfl fun b2 => (re (gs (rg (sv (EV.fa 0 rfl) rfl (sv (EV.ld 0 none rfl rfl rfl) rfl (sv (EV.fa 1 rfl) rfl (sv (EV.ld 0 none rfl rfl rfl) rfl (sv (EV.fa 1 rfl) rfl (sv (EV.ld 0 none rfl rfl rfl) rfl (sv (EV.fa 1 rfl) rfl (sv (EV.ld 0 none rfl rfl rfl) rfl (sv (EV.bd (v := .agg #[.int .i64 a0_0, .int .i64 1, .int .i64 a0_1, .int .i64 a0_1, .int .i64 a0_1]) rfl (by kernel_rfl)) rfl (so rfl (op_st (cs' := [.int .i64 a0_0, .int .i64 1, .int .i64 a0_1, .int .i64 a0_1, .int .i64 a0_1]) 1 rfl rfl rfl rfl rfl rfl (re (pr [2] [1] [] rfl rfl rfl rfl ?_)))))))))))))))))))))
 cases H
 exact rt Try.func54 rfl (.cell 0 (some 5) rfl rfl rfl .nil) rfl [] [] rfl rfl rfl rfl rfl ⟨rfl, rfl, rfl⟩
def spec_ReferenceGroups.l0 : Nat → (List S49) → Int → (List S75) → Option ((List S49))
 | 0, _, _, _ => none
 | k + 1, x2_3, x2_4, l0 => if x2_4 < (l0.length : Int) then (if 0 ≤ x2_4 then ((spec_GroupFromRow.f ((rd_T75 l0 x2_4).f0) ((rd_T75 l0 x2_4).f1) ((rd_T75 l0 x2_4).f2)).bind fun bt4 => (if x2_3.length < 3518437208883 then (spec_ReferenceGroups.l0 k (x2_3 ++ ([(⟨bt4.1, bt4.2.1, bt4.2.2.1, bt4.2.2.2.1, bt4.2.2.2.2⟩ : S49)] : List S49)) (wrap64 (x2_4 + 1)) l0) else none)) else none) else ((spec_MergeGroups.f k x2_3).bind fun t8 => (some t8))
def spec_ReferenceGroups.f (k : Nat) (l0 : List S75) : Option ((List S49)) := spec_ReferenceGroups.l0 k [] 0 l0
set_option maxHeartbeats 4000000 in
set_option maxRecDepth 100000 in
theorem spec_ReferenceGroups.ok (k : Nat) (l0 : List S75) (Al0 : Option Addr) (cl0 : Nat) (r0 : List S49) (H : spec_ReferenceGroups.f k l0 = some r0) : Fn Try.prog 15 [.slice Al0 l0.length cl0] [] [.sl 0 k75 Al0 cl0 l0 0 false] (fun v bx en => ∃ A0 c0, v = .slice A0 r0.length c0 ∧ bx = [] ∧ en = [.sl 2 k49 A0 c0 r0 1 true]) := by
 refine fn_ 22 Try.func15 rfl rfl rfl (fun base T w0 => ?_)
 rw [spec_ReferenceGroups.f] at H
 refine gs (rg (sv (EV.as rfl) rfl (re (gs (rg (so rfl (op_lit (s := 5) (by_ := 40) k49 ([] : List S49) [] [] 1 [] rfl rfl rfl rfl rfl rfl rfl rfl rfl rfl rfl rfl rfl dq rfl fun A5_1 c5_1 => (sv (EV.as rfl) rfl (re (gs (gs (rg (sv (EV.as rfl) rfl (re (gb ?_)))))))))))))))
 refine lo (fun kk S => ∃ (x2_3 : List S49) (Ax2_3 : Option Addr) (cx2_3 : Nat) (x2_4 : Int), spec_ReferenceGroups.l0 kk x2_3 x2_4 l0 = some r0 ∧ S = ⟨[(0, .slice Al0 l0.length cl0), (3, .slice Ax2_3 x2_3.length cx2_3), (4, .int .i64 x2_4)], [], [.sl 2 k49 Ax2_3 cx2_3 x2_3 1 true, .sl 0 k75 Al0 cl0 l0 0 false]⟩) (fun S hS => ?_) (fun n0 ih0 S hS => ?_) ⟨[], A5_1, c5_1, 0, H, rfl⟩ (fun h => wk [0, 3, 4] [] [⟨1, 2, 1, true⟩, ⟨0, 0, 0, false⟩] h)
 · clear H; obtain ⟨_, _, _, _, H, _⟩ := hS; rw [spec_ReferenceGroups.l0] at H; cases H
 clear H
 obtain ⟨x2_3, Ax2_3, cx2_3, x2_4, H, rfl⟩ := hS
 rw [spec_ReferenceGroups.l0] at H
 refine gs (gs (rg (sv (EV.mv rfl) rfl (sv (EV.mv rfl) rfl (sv (EV.ln rfl) rfl (sv (EV.lss rfl rfl) rfl (re ?_)))))))
 revert H; refine ifsI ?_ ?_ <;> intro c2 H
 ·
  refine gt rfl (dT c2) (gk (gs (gb (rg (sv (EV.mv rfl) rfl (sv (EV.mv rfl) rfl (sv (EV.mv rfl) rfl ?_)))))))
  revert H; refine ggI ?_; intro g3 H
  refine sv (EV.ix 1 rfl rfl rfl g3 c2 rfl) rfl (sv (EV.le (v := .agg #[.int .i64 ((rd_T75 l0 x2_4).f0), .int .i64 ((rd_T75 l0 x2_4).f1), .int .i64 ((rd_T75 l0 x2_4).f2)]) x2_4 0 (some 3) 1 z75 rfl rfl rfl g3 c2 rfl rfl rfl) rfl ?_)
  revert H; refine bdI ?_; rintro ⟨t4_0, t4_1, t4_2, t4_3, t4_4⟩ A4 H
  refine so rfl (op_call (spec_GroupFromRow.ok ((rd_T75 l0 x2_4).f0) ((rd_T75 l0 x2_4).f1) ((rd_T75 l0 x2_4).f2) _ _ _ _ _ A4) [] 2 rfl rfl rfl rfl rfl ?_)
  rintro _ _ _ ⟨rfl, rfl, rfl⟩
  refine so rfl (op_lit (s := 5) (by_ := 40) k49 ([(⟨t4_0, t4_1, t4_2, t4_3, t4_4⟩ : S49)] : List S49) [[]] [] 2 [.tmp 17] rfl rfl rfl rfl rfl rfl rfl rfl rfl rfl rfl rfl rfl dq rfl fun A18_5 c18_5 => ?_)
  revert H; refine ggI ?_; intro g6 H
  exact so rfl (op_app (k := k49) (s := 5) (by_ := 40) 0 2 rfl rfl rfl rfl (ap1 g6 dq) (ap1n g6 dq) (.inl rfl) true (fun _ => .inl rfl) rfl rfl fun A19_7 c19_7 => (nmE (en := [.sl 0 k75 Al0 cl0 l0 0 false, .sl 2 k49 A18_5 c18_5 ([(⟨t4_0, t4_1, t4_2, t4_3, t4_4⟩ : S49)] : List S49) 2 true, .sl 2 k49 A19_7 c19_7 (x2_3 ++ ([(⟨t4_0, t4_1, t4_2, t4_3, t4_4⟩ : S49)] : List S49)) 1 true]) (by kernel_rfl) (sv (EV.as rfl) rfl (re (pr [0, 3, 4] [] [0, 2] rfl rfl rfl rfl (ge (rg (sv (EV.mv rfl) rfl (sv (EV.add rfl rfl) rfl (sv (EV.as rfl) rfl (re (wk [0, 3, 4] [] [⟨1, 2, 1, true⟩, ⟨0, 0, 0, false⟩] (ih0 _ (by omega) _ ⟨x2_3 ++ ([(⟨t4_0, t4_1, t4_2, t4_3, t4_4⟩ : S49)] : List S49), A19_7, c19_7, wrap64 (x2_4 + 1), H, rfl⟩)))))))))))))
 ·
  refine gf rfl (dF c2) (gx rfl (gs (rg (sv (EV.mv rfl) rfl ?_))))
  revert H; refine bdI ?_; rintro t8 A8 H
  refine so rfl (op_call (spec_MergeGroups.ok n0 x2_3 Ax2_3 cx2_3 _ A8) [⟨0, 0, 0, false⟩] 2 rfl rfl rfl rfl rfl ?_)
  rintro _ _ _ ⟨At8, ct8, rfl, rfl, rfl⟩
  refine sv (EV.as rfl) rfl (re (pr [2] [] [2] rfl rfl rfl rfl ?_))
  cases H
  exact rt Try.func15 rfl (.tmp rfl .nil) rfl [] [⟨0, 2, 1, true⟩] rfl rfl rfl rfl rfl ⟨_, _, rfl, rfl, rfl⟩
def spec_RollupKey.f (a0 : Int) (a1 : Int) : Option (Int) := if a1 = 0 then (some a0) else (if a1 = 1 then (some (wrap64 (Int.tdiv a0 5))) else (some 0))
set_option maxHeartbeats 4000000 in
set_option maxRecDepth 100000 in
theorem spec_RollupKey.ok (a0 : Int) (a1 : Int) (r0 : Int) (H : spec_RollupKey.f a0 a1 = some r0) : Fn Try.prog 29 [.int .i64 a0, .int .i64 a1] [] [] (fun v bx en => v = .int .i64 r0 ∧ bx = [] ∧ en = []) := by
 refine fn_ 13 Try.func29 rfl rfl rfl (fun base T w0 => ?_)
 rw [spec_RollupKey.f] at H
 refine gs (rg (sv (EV.as rfl) rfl (re (gs (gs (rg (sv (EV.mv rfl) rfl (re (gb (gs (rg (sv (EV.eql rfl rfl) rfl (sv (EV.as rfl) rfl (re ?_))))))))))))))
 revert H; refine ifsI ?_ ?_ <;> intro c1 H
 ·
  refine gt rfl (dT c1) (gs (rg (sv (EV.mv rfl) rfl (sv (EV.as rfl) rfl (re (pr [4] [] [] rfl rfl rfl rfl ?_))))))
  cases H
  exact rt Try.func29 rfl (.tmp rfl .nil) rfl [] [] rfl rfl rfl rfl rfl ⟨rfl, rfl, rfl⟩
 ·
  refine gf rfl (dF c1) (gs (rg (sv (EV.eql rfl rfl) rfl (sv (EV.as rfl) rfl (re (pr [0, 9] [] [] rfl rfl rfl rfl ?_))))))
  revert H; refine ifsI ?_ ?_ <;> intro c2 H
  ·
   refine gt rfl (dT c2) (gs (rg (sv (EV.mv rfl) rfl (sv (EV.quo rfl rfl dq) rfl (sv (EV.as rfl) rfl (re ?_))))))
   cases H
   exact rt Try.func29 rfl (.tmp rfl .nil) rfl [] [] rfl rfl rfl rfl rfl ⟨rfl, rfl, rfl⟩
  ·
   refine gf rfl (dF c2) (gk (ge (gs (rg (sv (EV.as rfl) rfl (re ?_))))))
   cases H
   exact rt Try.func29 rfl (.tmp rfl .nil) rfl [] [] rfl rfl rfl rfl rfl ⟨rfl, rfl, rfl⟩
mutual
def spec_RollupGroups.l2 : Nat → (List S51) → Int → (List S49) → Int → (List S49) → Option ((List S51))
 | 0, _, _, _, _, _ => none
 | k + 1, x34_3, x34_4, x34_8, x34_9, l0 => if x34_9 < (x34_8.length : Int) then (if 0 ≤ x34_9 then (if x34_3.length < 2932031007402 then (spec_RollupGroups.l2 k (x34_3 ++ ([(⟨x34_4, (⟨(rd_T49 x34_8 x34_9).f0, (rd_T49 x34_8 x34_9).f1, (rd_T49 x34_8 x34_9).f2, (rd_T49 x34_8 x34_9).f3, (rd_T49 x34_8 x34_9).f4⟩ : S49)⟩ : S51)] : List S51)) x34_4 x34_8 (wrap64 (x34_9 + 1)) l0) else none) else none) else (spec_RollupGroups.l0 k x34_3 (wrap64 (x34_4 + 1)) l0)
def spec_RollupGroups.l1 : Nat → (List S51) → Int → (List S49) → Int → (List S49) → Option ((List S51))
 | 0, _, _, _, _, _ => none
 | k + 1, x32_3, x32_4, x32_5, x32_6, l0 => if x32_6 < (l0.length : Int) then (if 0 ≤ x32_6 then ((spec_RollupKey.f ((rd_T49 l0 x32_6).f0) x32_4).bind fun t6 => (if x32_5.length < 3518437208883 then (spec_RollupGroups.l1 k x32_3 x32_4 (x32_5 ++ ([(⟨t6, (rd_T49 l0 x32_6).f1, (rd_T49 l0 x32_6).f2, (rd_T49 l0 x32_6).f3, (rd_T49 l0 x32_6).f4⟩ : S49)] : List S49)) (wrap64 (x32_6 + 1)) l0) else none)) else none) else ((spec_MergeGroups.f k x32_5).bind fun t10 => (spec_RollupGroups.l2 k x32_3 x32_4 t10 0 l0))
def spec_RollupGroups.l0 : Nat → (List S51) → Int → (List S49) → Option ((List S51))
 | 0, _, _, _ => none
 | k + 1, x18_3, x18_4, l0 => if x18_4 < 3 then (spec_RollupGroups.l1 k x18_3 x18_4 [] 0 l0) else (some x18_3)
end
def spec_RollupGroups.f (k : Nat) (l0 : List S49) : Option ((List S51)) := spec_RollupGroups.l0 k [] 0 l0
set_option maxHeartbeats 4000000 in
set_option maxRecDepth 100000 in
theorem spec_RollupGroups.ok (k : Nat) (l0 : List S49) (Al0 : Option Addr) (cl0 : Nat) (r0 : List S51) (H : spec_RollupGroups.f k l0 = some r0) : Fn Try.prog 32 [.slice Al0 l0.length cl0] [] [.sl 0 k49 Al0 cl0 l0 0 false] (fun v bx en => ∃ A0 c0, v = .slice A0 r0.length c0 ∧ bx = [] ∧ en = [.sl 2 k51 A0 c0 r0 1 true]) := by
 refine fn_ 56 Try.func32 rfl rfl rfl (fun base T w0 => ?_)
 rw [spec_RollupGroups.f] at H
 refine gs (rg (sv (EV.as rfl) rfl (re (gs (rg (so rfl (op_lit (s := 6) (by_ := 48) k51 ([] : List S51) [] [] 1 [] rfl rfl rfl rfl rfl rfl rfl rfl rfl rfl rfl rfl rfl dq rfl fun A10_1 c10_1 => (sv (EV.as rfl) rfl (re (gs (gs (rg (sv (EV.as rfl) rfl (re (gb ?_)))))))))))))))
 refine lo (fun kk S => ∃ (x18_3 : List S51) (Ax18_3 : Option Addr) (cx18_3 : Nat) (x18_4 : Int), spec_RollupGroups.l0 kk x18_3 x18_4 l0 = some r0 ∧ S = ⟨[(0, .slice Al0 l0.length cl0), (3, .slice Ax18_3 x18_3.length cx18_3), (4, .int .i64 x18_4)], [], [.sl 2 k51 Ax18_3 cx18_3 x18_3 1 true, .sl 0 k49 Al0 cl0 l0 0 false]⟩) (fun S hS => ?_) (fun n0 ih0 S hS => ?_) ⟨[], A10_1, c10_1, 0, H, rfl⟩ (fun h => wk [0, 3, 4] [] [⟨1, 2, 1, true⟩, ⟨0, 0, 0, false⟩] h)
 · clear H; obtain ⟨_, _, _, _, H, _⟩ := hS; rw [spec_RollupGroups.l0] at H; cases H
 clear H
 obtain ⟨x18_3, Ax18_3, cx18_3, x18_4, H, rfl⟩ := hS
 rw [spec_RollupGroups.l0] at H
 refine gs (gs (rg (sv (EV.mv rfl) rfl (sv (EV.lss rfl rfl) rfl (re ?_)))))
 revert H; refine ifsI ?_ ?_ <;> intro c2 H
 ·
  refine gt rfl (dT c2) (gk (gs (gb (gs (rg (so rfl (op_lit (s := 5) (by_ := 40) k49 ([] : List S49) [] [] 2 [] rfl rfl rfl rfl rfl rfl rfl rfl rfl rfl rfl rfl rfl dq rfl fun A15_3 c15_3 => (sv (EV.as rfl) rfl (re (gs (gs (rg (sv (EV.as rfl) rfl (re (gb ?_)))))))))))))))
  refine lo (fun kk S => ∃ (x32_3 : List S51) (Ax32_3 : Option Addr) (cx32_3 : Nat) (x32_4 : Int) (x32_5 : List S49) (Ax32_5 : Option Addr) (cx32_5 : Nat) (x32_6 : Int), kk ≤ n0 ∧ spec_RollupGroups.l1 kk x32_3 x32_4 x32_5 x32_6 l0 = some r0 ∧ S = ⟨[(0, .slice Al0 l0.length cl0), (3, .slice Ax32_3 x32_3.length cx32_3), (4, .int .i64 x32_4), (5, .slice Ax32_5 x32_5.length cx32_5), (6, .int .i64 x32_6)], [], [.sl 2 k51 Ax32_3 cx32_3 x32_3 1 true, .sl 2 k49 Ax32_5 cx32_5 x32_5 2 true, .sl 0 k49 Al0 cl0 l0 0 false]⟩) (fun S hS => ?_) (fun n1 ih1 S hS => ?_) ⟨x18_3, Ax18_3, cx18_3, x18_4, [], A15_3, c15_3, 0, by omega, H, rfl⟩ (fun h => wk [0, 3, 4, 5, 6] [] [⟨0, 2, 1, true⟩, ⟨2, 2, 2, true⟩, ⟨1, 0, 0, false⟩] h)
  · clear H; obtain ⟨_, _, _, _, _, _, _, _, _, H, _⟩ := hS; rw [spec_RollupGroups.l1] at H; cases H
  clear H
  obtain ⟨x32_3, Ax32_3, cx32_3, x32_4, x32_5, Ax32_5, cx32_5, x32_6, lk1, H, rfl⟩ := hS
  rw [spec_RollupGroups.l1] at H
  refine gs (gs (rg (sv (EV.mv rfl) rfl (sv (EV.mv rfl) rfl (sv (EV.ln rfl) rfl (sv (EV.lss rfl rfl) rfl (re ?_)))))))
  revert H; refine ifsI ?_ ?_ <;> intro c4 H
  ·
   refine gt rfl (dT c4) (gk (gs (gb (gs (rg (sv (EV.mv rfl) rfl (sv (EV.mv rfl) rfl ?_)))))))
   revert H; refine ggI ?_; intro g5 H
   refine sv (EV.ix 2 rfl rfl rfl g5 c4 rfl) rfl (sv (EV.le (v := .agg #[.int .i64 ((rd_T49 l0 x32_6).f0), .int .i64 ((rd_T49 l0 x32_6).f1), .int .i64 ((rd_T49 l0 x32_6).f2), .int .i64 ((rd_T49 l0 x32_6).f3), .int .i64 ((rd_T49 l0 x32_6).f4)]) x32_6 0 (some 5) 2 z49 rfl rfl rfl g5 c4 rfl rfl rfl) rfl (so rfl (op_alloc (cs := [.int .i64 0, .int .i64 0, .int .i64 0, .int .i64 0, .int .i64 0]) (by kernel_rfl) rfl fun b7 => (so rfl (op_st (cs' := [.int .i64 ((rd_T49 l0 x32_6).f0), .int .i64 ((rd_T49 l0 x32_6).f1), .int .i64 ((rd_T49 l0 x32_6).f2), .int .i64 ((rd_T49 l0 x32_6).f3), .int .i64 ((rd_T49 l0 x32_6).f4)]) 0 rfl rfl rfl rfl rfl rfl (re (pr [0, 3, 4, 5, 6, 7] [0] [0, 1, 2] rfl rfl rfl rfl (gs (rg (sv (EV.mv rfl) rfl (sv (EV.mv rfl) rfl (sv (EV.ix 2 rfl rfl rfl g5 c4 rfl) rfl (sv (EV.fa 0 rfl) rfl (sv (EV.le (v := .int .i64 ((rd_T49 l0 x32_6).f0)) x32_6 0 none 2 z49 rfl rfl rfl g5 c4 rfl rfl rfl) rfl (sv (EV.mv rfl) rfl ?_)))))))))))))))
   revert H; refine bdI ?_; rintro t6 A6 H
   refine so rfl (op_call (spec_RollupKey.ok ((rd_T49 l0 x32_6).f0) x32_4 _ A6) [] 3 rfl rfl rfl rfl rfl ?_)
   rintro _ _ _ ⟨rfl, rfl, rfl⟩
   refine sv (EV.fa 0 rfl) rfl (so rfl (op_st (cs' := [.int .i64 t6, .int .i64 ((rd_T49 l0 x32_6).f1), .int .i64 ((rd_T49 l0 x32_6).f2), .int .i64 ((rd_T49 l0 x32_6).f3), .int .i64 ((rd_T49 l0 x32_6).f4)]) 0 rfl rfl rfl rfl rfl rfl (re (pr [0, 3, 4, 5, 6, 7] [0] [0, 1, 2] rfl rfl rfl rfl (rg (sv (EV.mv rfl) rfl (sv (EV.ld (v := .agg #[.int .i64 t6, .int .i64 ((rd_T49 l0 x32_6).f1), .int .i64 ((rd_T49 l0 x32_6).f2), .int .i64 ((rd_T49 l0 x32_6).f3), .int .i64 ((rd_T49 l0 x32_6).f4)]) 0 (some 5) rfl rfl rfl) rfl (so rfl (op_lit (s := 5) (by_ := 40) k49 ([(⟨t6, (rd_T49 l0 x32_6).f1, (rd_T49 l0 x32_6).f2, (rd_T49 l0 x32_6).f3, (rd_T49 l0 x32_6).f4⟩ : S49)] : List S49) [[]] [] 3 [.tmp 35] rfl rfl rfl rfl rfl rfl rfl rfl rfl rfl rfl rfl rfl dq rfl fun A36_7 c36_7 => ?_)))))))))
   revert H; refine ggI ?_; intro g8 H
   exact so rfl (op_app (k := k49) (s := 5) (by_ := 40) 1 3 rfl rfl rfl rfl (ap1 g8 dq) (ap1n g8 dq) (.inl rfl) true (fun _ => .inl rfl) rfl rfl fun A37_9 c37_9 => (nmE (en := [.sl 2 k51 Ax32_3 cx32_3 x32_3 1 true, .sl 0 k49 Al0 cl0 l0 0 false, .sl 2 k49 A36_7 c36_7 ([(⟨t6, (rd_T49 l0 x32_6).f1, (rd_T49 l0 x32_6).f2, (rd_T49 l0 x32_6).f3, (rd_T49 l0 x32_6).f4⟩ : S49)] : List S49) 3 true, .sl 2 k49 A37_9 c37_9 (x32_5 ++ ([(⟨t6, (rd_T49 l0 x32_6).f1, (rd_T49 l0 x32_6).f2, (rd_T49 l0 x32_6).f3, (rd_T49 l0 x32_6).f4⟩ : S49)] : List S49)) 2 true]) (by kernel_rfl) (sv (EV.as rfl) rfl (re (ge (rg (sv (EV.mv rfl) rfl (sv (EV.add rfl rfl) rfl (sv (EV.as rfl) rfl (re (pr [0, 3, 4, 5, 6] [] [0, 1, 3] rfl rfl rfl rfl (wk [0, 3, 4, 5, 6] [] [⟨0, 2, 1, true⟩, ⟨2, 2, 2, true⟩, ⟨1, 0, 0, false⟩] (ih1 _ (by omega) _ ⟨x32_3, Ax32_3, cx32_3, x32_4, x32_5 ++ ([(⟨t6, (rd_T49 l0 x32_6).f1, (rd_T49 l0 x32_6).f2, (rd_T49 l0 x32_6).f3, (rd_T49 l0 x32_6).f4⟩ : S49)] : List S49), A37_9, c37_9, wrap64 (x32_6 + 1), by omega, H, rfl⟩)))))))))))))
  ·
   refine gf rfl (dF c4) (gx rfl (gs (rg (sv (EV.mv rfl) rfl ?_))))
   revert H; refine bdI ?_; rintro t10 A10 H
   refine so rfl (op_call (spec_MergeGroups.ok n1 x32_5 Ax32_5 cx32_5 _ A10) [⟨1, 0, 0, false⟩] 3 rfl rfl rfl rfl rfl ?_)
   rintro _ _ _ ⟨At10, ct10, rfl, rfl, rfl⟩
   refine sv (EV.as rfl) rfl (re (pr [0, 3, 4, 8] [] [0, 2, 3] rfl rfl rfl rfl (gs (rg (sv (EV.as rfl) rfl (re (gb ?_)))))))
   refine lo (fun kk S => ∃ (x34_3 : List S51) (Ax34_3 : Option Addr) (cx34_3 : Nat) (x34_4 : Int) (x34_8 : List S49) (Ax34_8 : Option Addr) (cx34_8 : Nat) (x34_9 : Int), kk ≤ n1 ∧ spec_RollupGroups.l2 kk x34_3 x34_4 x34_8 x34_9 l0 = some r0 ∧ S = ⟨[(0, .slice Al0 l0.length cl0), (3, .slice Ax34_3 x34_3.length cx34_3), (4, .int .i64 x34_4), (8, .slice Ax34_8 x34_8.length cx34_8), (9, .int .i64 x34_9)], [], [.sl 2 k51 Ax34_3 cx34_3 x34_3 1 true, .sl 2 k49 Ax34_8 cx34_8 x34_8 2 true, .sl 0 k49 Al0 cl0 l0 0 false]⟩) (fun S hS => ?_) (fun n2 ih2 S hS => ?_) ⟨x32_3, Ax32_3, cx32_3, x32_4, t10, At10, ct10, 0, by omega, H, rfl⟩ (fun h => wk [0, 3, 4, 8, 9] [] [⟨0, 2, 1, true⟩, ⟨2, 2, 2, true⟩, ⟨1, 0, 0, false⟩] h)
   · clear H; obtain ⟨_, _, _, _, _, _, _, _, _, H, _⟩ := hS; rw [spec_RollupGroups.l2] at H; cases H
   clear H
   obtain ⟨x34_3, Ax34_3, cx34_3, x34_4, x34_8, Ax34_8, cx34_8, x34_9, lk2, H, rfl⟩ := hS
   rw [spec_RollupGroups.l2] at H
   refine gs (gs (rg (sv (EV.mv rfl) rfl (sv (EV.mv rfl) rfl (sv (EV.ln rfl) rfl (sv (EV.lss rfl rfl) rfl (re ?_)))))))
   revert H; refine ifsI ?_ ?_ <;> intro c11 H
   ·
    refine gt rfl (dT c11) (gk (gs (gb (rg (sv (EV.mv rfl) rfl (sv (EV.mv rfl) rfl (sv (EV.mv rfl) rfl (sv (EV.mv rfl) rfl ?_))))))))
    revert H; refine ggI ?_; intro g12 H
    refine sv (EV.ix 1 rfl rfl rfl g12 c11 rfl) rfl (sv (EV.le (v := .agg #[.int .i64 ((rd_T49 x34_8 x34_9).f0), .int .i64 ((rd_T49 x34_8 x34_9).f1), .int .i64 ((rd_T49 x34_8 x34_9).f2), .int .i64 ((rd_T49 x34_8 x34_9).f3), .int .i64 ((rd_T49 x34_8 x34_9).f4)]) x34_9 0 (some 5) 1 z49 rfl rfl rfl g12 c11 rfl rfl rfl) rfl (sv (EV.bd (v := .agg #[.int .i64 x34_4, .int .i64 ((rd_T49 x34_8 x34_9).f0), .int .i64 ((rd_T49 x34_8 x34_9).f1), .int .i64 ((rd_T49 x34_8 x34_9).f2), .int .i64 ((rd_T49 x34_8 x34_9).f3), .int .i64 ((rd_T49 x34_8 x34_9).f4)]) rfl (by kernel_rfl)) rfl (so rfl (op_lit (s := 6) (by_ := 48) k51 ([(⟨x34_4, (⟨(rd_T49 x34_8 x34_9).f0, (rd_T49 x34_8 x34_9).f1, (rd_T49 x34_8 x34_9).f2, (rd_T49 x34_8 x34_9).f3, (rd_T49 x34_8 x34_9).f4⟩ : S49)⟩ : S51)] : List S51) [[]] [] 3 [.tmp 52] rfl rfl rfl rfl rfl rfl rfl rfl rfl rfl rfl rfl rfl dq rfl fun A53_13 c53_13 => ?_))))
    revert H; refine ggI ?_; intro g14 H
    exact so rfl (op_app (k := k51) (s := 6) (by_ := 48) 0 3 rfl rfl rfl rfl (ap1 g14 dq) (ap1n g14 dq) (.inl rfl) true (fun _ => .inl rfl) rfl rfl fun A54_15 c54_15 => (nmE (en := [.sl 2 k49 Ax34_8 cx34_8 x34_8 2 true, .sl 0 k49 Al0 cl0 l0 0 false, .sl 2 k51 A53_13 c53_13 ([(⟨x34_4, (⟨(rd_T49 x34_8 x34_9).f0, (rd_T49 x34_8 x34_9).f1, (rd_T49 x34_8 x34_9).f2, (rd_T49 x34_8 x34_9).f3, (rd_T49 x34_8 x34_9).f4⟩ : S49)⟩ : S51)] : List S51) 3 true, .sl 2 k51 A54_15 c54_15 (x34_3 ++ ([(⟨x34_4, (⟨(rd_T49 x34_8 x34_9).f0, (rd_T49 x34_8 x34_9).f1, (rd_T49 x34_8 x34_9).f2, (rd_T49 x34_8 x34_9).f3, (rd_T49 x34_8 x34_9).f4⟩ : S49)⟩ : S51)] : List S51)) 1 true]) (by kernel_rfl) (sv (EV.as rfl) rfl (re (pr [0, 3, 4, 8, 9] [] [0, 1, 3] rfl rfl rfl rfl (ge (rg (sv (EV.mv rfl) rfl (sv (EV.add rfl rfl) rfl (sv (EV.as rfl) rfl (re (wk [0, 3, 4, 8, 9] [] [⟨2, 2, 1, true⟩, ⟨0, 2, 2, true⟩, ⟨1, 0, 0, false⟩] (ih2 _ (by omega) _ ⟨x34_3 ++ ([(⟨x34_4, (⟨(rd_T49 x34_8 x34_9).f0, (rd_T49 x34_8 x34_9).f1, (rd_T49 x34_8 x34_9).f2, (rd_T49 x34_8 x34_9).f3, (rd_T49 x34_8 x34_9).f4⟩ : S49)⟩ : S51)] : List S51), A54_15, c54_15, x34_4, x34_8, Ax34_8, cx34_8, wrap64 (x34_9 + 1), by omega, H, rfl⟩)))))))))))))
   ·
    exact gf rfl (dF c11) (gx rfl (ge (rg (sv (EV.mv rfl) rfl (sv (EV.add rfl rfl) rfl (sv (EV.as rfl) rfl (re (pr [0, 3, 4] [] [0, 2] rfl rfl rfl rfl (wk [0, 3, 4] [] [⟨0, 2, 1, true⟩, ⟨1, 0, 0, false⟩] (ih0 _ (by omega) _ ⟨x34_3, Ax34_3, cx34_3, wrap64 (x34_4 + 1), H, rfl⟩))))))))))
 ·
  refine gf rfl (dF c2) (gx rfl (gs (rg (sv (EV.mv rfl) rfl (sv (EV.as rfl) rfl (re (pr [2] [] [0] rfl rfl rfl rfl ?_)))))))
  cases H
  exact rt Try.func32 rfl (.tmp rfl .nil) rfl [] [⟨0, 2, 1, true⟩] rfl rfl rfl rfl rfl ⟨_, _, rfl, rfl, rfl⟩
def spec_RollupRows.f (k : Nat) (l0 : List S75) : Option ((List S51)) := (spec_ReferenceGroups.f k l0).bind fun t1 => ((spec_RollupGroups.f k t1).bind fun t2 => (some t2))
set_option maxHeartbeats 4000000 in
set_option maxRecDepth 100000 in
theorem spec_RollupRows.ok (k : Nat) (l0 : List S75) (Al0 : Option Addr) (cl0 : Nat) (r0 : List S51) (H : spec_RollupRows.f k l0 = some r0) : Fn Try.prog 23 [.slice Al0 l0.length cl0] [] [.sl 0 k75 Al0 cl0 l0 0 false] (fun v bx en => ∃ A0 c0, v = .slice A0 r0.length c0 ∧ bx = [] ∧ en = [.sl 2 k51 A0 c0 r0 1 true]) := by
 refine fn_ 6 Try.func23 rfl rfl rfl (fun base T w0 => ?_)
 rw [spec_RollupRows.f] at H
 refine gs (rg (sv (EV.as rfl) rfl (re (gs (rg (sv (EV.mv rfl) rfl ?_))))))
 revert H; refine bdI ?_; rintro t1 A1 H
 refine so rfl (op_call (spec_ReferenceGroups.ok k l0 Al0 cl0 _ A1) [⟨0, 0, 0, false⟩] 1 rfl rfl rfl rfl rfl ?_)
 rintro _ _ _ ⟨At1, ct1, rfl, rfl, rfl⟩
 revert H; refine bdI ?_; rintro t2 A2 H
 refine so rfl (op_call (spec_RollupGroups.ok k t1 At1 ct1 _ A2) [⟨1, 0, 0, false⟩] 3 rfl rfl rfl rfl rfl ?_)
 rintro _ _ _ ⟨At2, ct2, rfl, rfl, rfl⟩
 refine sv (EV.as rfl) rfl (re ?_)
 cases H
 exact rt Try.func23 rfl (.tmp rfl .nil) rfl [] [⟨2, 2, 1, true⟩] rfl rfl rfl rfl rfl ⟨_, _, rfl, rfl, rfl⟩
def spec_DrawRollupKey.f (k : Nat) (l0 : List Int) : Option (Int × Int) := (spec_l1New.f k l0).bind fun bt1 => ((spec_l1Below.f l0 bt1.1 bt1.2 12).bind fun bt2 => ((spec_l1Below.f l0 bt2.2.1 bt2.2.2 5).bind fun bt3 => (some (wrap64 (bt2.1 - 1), wrap64 (bt3.1 - 1)))))
set_option maxHeartbeats 4000000 in
set_option maxRecDepth 100000 in
theorem spec_DrawRollupKey.ok (k : Nat) (l0 : List Int) (Al0 : Option Addr) (cl0 : Nat) (r0 : Int) (r1 : Int) (H : spec_DrawRollupKey.f k l0 = some (r0, r1)) : Fn Try.prog 26 [.slice Al0 l0.length cl0] [] [.sl 0 (.int .u8) Al0 cl0 l0 0 false] (fun v bx en => v = .tuple #[.int .i64 r0, .int .i64 r1] ∧ bx = [] ∧ en = []) := by
 refine fn_ 13 Try.func26 rfl rfl rfl (fun base T w0 => ?_)
 rw [spec_DrawRollupKey.f] at H
 refine gs (rg (sv (EV.as rfl) rfl (sv (EV.as rfl) rfl (re (gs (rg (sv (EV.mv rfl) rfl ?_)))))))
 revert H; refine bdI ?_; rintro ⟨t1_0, t1_1⟩ A1 H
 refine so rfl (op_callM (spec_l1New.ok k l0 Al0 cl0 _ _ A1) [⟨0, 0, 0, false⟩] [] [] 1 rfl rfl rfl rfl rfl rfl rfl rfl ?_)
 rintro _ _ _ ⟨b2001, rfl, rfl, rfl⟩
 refine nmE (en := [.sl 0 (.int .u8) Al0 cl0 l0 0 false]) (by kernel_rfl) (sv (EV.as rfl) rfl (re (gs (rg (sv (EV.mv rfl) rfl ?_)))))
 revert H; refine bdI ?_; rintro ⟨t2_0, t2_1, t2_2⟩ A2 H
 refine so rfl (op_callM (spec_l1Below.ok b2001 l0 Al0 cl0 t1_0 t1_1 12 _ _ _ A2) [⟨0, 0, 0, false⟩] [0] [] 1 rfl rfl rfl rfl rfl rfl rfl rfl ?_)
 rintro _ _ _ ⟨rfl, rfl, rfl⟩
 refine nmE (en := [.sl 0 (.int .u8) Al0 cl0 l0 0 false]) (by kernel_rfl) (sv (EV.sub rfl rfl) rfl (sv (EV.mv rfl) rfl ?_))
 revert H; refine bdI ?_; rintro ⟨t3_0, t3_1, t3_2⟩ A3 H
 refine so rfl (op_callM (spec_l1Below.ok b2001 l0 Al0 cl0 t2_1 t2_2 5 _ _ _ A3) [⟨0, 0, 0, false⟩] [0] [] 1 rfl rfl rfl rfl rfl rfl rfl rfl ?_)
 rintro _ _ _ ⟨rfl, rfl, rfl⟩
 refine nmE (en := [.sl 0 (.int .u8) Al0 cl0 l0 0 false]) (by kernel_rfl) (sv (EV.sub rfl rfl) rfl (sv (EV.as rfl) rfl (sv (EV.as rfl) rfl (re (pr [2, 3] [] [] rfl rfl rfl rfl ?_)))))
 cases H
 exact rt Try.func26 rfl (.tmp rfl (.tmp rfl .nil)) rfl [] [] rfl rfl rfl rfl rfl ⟨rfl, rfl, rfl⟩
def spec_l8Groups.l0 : Nat → (List S49) → Int → Int → Int → (List Int) → Option ((List S49) × Int × Int)
 | 0, _, _, _, _, _ => none
 | k + 1, x2_3, x2_4, x2_1000_1, x2_1000_2, l0_0 => if x2_4 > 0 then ((spec_l2Rows.f k l0_0 x2_1000_1 x2_1000_2 3).bind fun bt4 => ((spec_ReferenceGroups.f k bt4.1).bind fun t5 => (if x2_3.length + t5.length ≤ 3518437208883 then (spec_l8Groups.l0 k (x2_3 ++ t5) (wrap64 (x2_4 - 1)) bt4.2.1 bt4.2.2 l0_0) else none))) else (some (x2_3, x2_1000_1, x2_1000_2))
def spec_l8Groups.f (k : Nat) (l0_0 : List Int) (a0_1 : Int) (a0_2 : Int) : Option ((List S49) × Int × Int) := (spec_l1Below.f l0_0 a0_1 a0_2 6).bind fun bt2 => (spec_l8Groups.l0 k [] bt2.1 bt2.2.1 bt2.2.2 l0_0)
set_option maxHeartbeats 4000000 in
set_option maxRecDepth 100000 in
theorem spec_l8Groups.ok (k : Nat) (b1000 : Nat) (l0_0 : List Int) (Al0_0 : Option Addr) (cl0_0 : Nat) (a0_1 : Int) (a0_2 : Int) (r0 : List S49) (r1 : Int) (r2 : Int) (H : spec_l8Groups.f k l0_0 a0_1 a0_2 = some (r0, r1, r2)) : Fn Try.prog 59 [.pointer (some ⟨b1000, 0, none⟩)] [⟨b1000, 95, [.slice Al0_0 l0_0.length cl0_0, .int .i64 a0_1, .int .i64 a0_2]⟩] [.sl 0 (.int .u8) Al0_0 cl0_0 l0_0 0 false] (fun v bx en => ∃ A0 c0, v = .slice A0 r0.length c0 ∧ bx = [⟨b1000, 95, [.slice Al0_0 l0_0.length cl0_0, .int .i64 r1, .int .i64 r2]⟩] ∧ en = [.sl 2 k49 A0 c0 r0 1 true]) := by
 refine fn_ 20 Try.func59 rfl rfl rfl (fun base T w0 => ?_)
 rw [spec_l8Groups.f] at H
 refine gs (rg (sv (EV.as rfl) rfl (re (gs (rg (so rfl (op_lit (s := 5) (by_ := 40) k49 ([] : List S49) [] [] 1 [] rfl rfl rfl rfl rfl rfl rfl rfl rfl rfl rfl rfl rfl dq rfl fun A6_1 c6_1 => (sv (EV.as rfl) rfl (re (gs (gs (rg (sv (EV.mv rfl) rfl ?_)))))))))))))
 revert H; refine bdI ?_; rintro ⟨t2_0, t2_1, t2_2⟩ A2 H
 refine so rfl (op_callM (spec_l1Below.ok b1000 l0_0 Al0_0 cl0_0 a0_1 a0_2 6 _ _ _ A2) [⟨0, 0, 0, false⟩] [0] [] 2 rfl rfl rfl rfl rfl rfl rfl rfl ?_)
 rintro _ _ _ ⟨rfl, rfl, rfl⟩
 refine nmE (en := [.sl 0 (.int .u8) Al0_0 cl0_0 l0_0 0 false, .sl 2 k49 A6_1 c6_1 [] 1 true]) (by kernel_rfl) (sv (EV.as rfl) rfl (re (gb ?_)))
 refine lo (fun kk S => ∃ (x2_3 : List S49) (Ax2_3 : Option Addr) (cx2_3 : Nat) (x2_4 : Int) (x2_1000_1 : Int) (x2_1000_2 : Int), spec_l8Groups.l0 kk x2_3 x2_4 x2_1000_1 x2_1000_2 l0_0 = some (r0, r1, r2) ∧ S = ⟨[(0, .pointer (some ⟨b1000, 0, none⟩)), (3, .slice Ax2_3 x2_3.length cx2_3), (4, .int .i64 x2_4)], [⟨b1000, 95, [.slice Al0_0 l0_0.length cl0_0, .int .i64 x2_1000_1, .int .i64 x2_1000_2]⟩], [.sl 2 k49 Ax2_3 cx2_3 x2_3 1 true, .sl 0 (.int .u8) Al0_0 cl0_0 l0_0 0 false]⟩) (fun S hS => ?_) (fun n0 ih0 S hS => ?_) ⟨[], A6_1, c6_1, t2_0, t2_1, t2_2, H, rfl⟩ (fun h => wk [0, 3, 4] [0] [⟨1, 2, 1, true⟩, ⟨0, 0, 0, false⟩] h)
 · clear H; obtain ⟨_, _, _, _, _, _, H, _⟩ := hS; rw [spec_l8Groups.l0] at H; cases H
 clear H
 obtain ⟨x2_3, Ax2_3, cx2_3, x2_4, x2_1000_1, x2_1000_2, H, rfl⟩ := hS
 rw [spec_l8Groups.l0] at H
 refine gs (gs (rg (sv (EV.mv rfl) rfl (sv (EV.gtr rfl rfl) rfl (re ?_)))))
 revert H; refine ifsI ?_ ?_ <;> intro c3 H
 ·
  refine gt rfl (dT c3) (gk (gs (gb (gs (rg (sv (EV.mv rfl) rfl ?_))))))
  revert H; refine bdI ?_; rintro ⟨t4_0, t4_1, t4_2⟩ A4 H
  refine so rfl (op_callM (spec_l2Rows.ok n0 b1000 l0_0 Al0_0 cl0_0 x2_1000_1 x2_1000_2 3 _ _ _ A4) [⟨1, 0, 0, false⟩] [0] [] 2 rfl rfl rfl rfl rfl rfl rfl rfl ?_)
  rintro _ _ _ ⟨At4_0, ct4_0, rfl, rfl, rfl⟩
  refine nmE (en := [.sl 2 k49 Ax2_3 cx2_3 x2_3 1 true, .sl 0 (.int .u8) Al0_0 cl0_0 l0_0 0 false, .sl 2 k75 At4_0 ct4_0 t4_0 3 true]) (by kernel_rfl) ?_
  revert H; refine bdI ?_; rintro t5 A5 H
  refine so rfl (op_call (spec_ReferenceGroups.ok n0 t4_0 At4_0 ct4_0 _ A5) [⟨2, 0, 0, false⟩] 4 rfl rfl rfl rfl rfl ?_)
  rintro _ _ _ ⟨At5, ct5, rfl, rfl, rfl⟩
  refine sv (EV.as rfl) rfl (re (rg (sv (EV.mv rfl) rfl (sv (EV.mv rfl) rfl ?_))))
  revert H; refine ggI ?_; intro g6 H
  exact so rfl (op_app (k := k49) (s := 5) (by_ := 40) 0 3 rfl rfl rfl rfl (ap2 g6 dq) (ap2n g6 dq) (.inl rfl) true (fun _ => .inl rfl) rfl rfl fun A18_7 c18_7 => (nmE (en := [.sl 0 (.int .u8) Al0_0 cl0_0 l0_0 0 false, .sl 2 k75 At4_0 ct4_0 t4_0 3 true, .sl 2 k49 At5 ct5 t5 5 true, .sl 2 k49 A18_7 c18_7 (x2_3 ++ t5) 1 true]) (by kernel_rfl) (sv (EV.as rfl) rfl (re (pr [0, 3, 4] [0] [0, 3] rfl rfl rfl rfl (ge (rg (sv (EV.mv rfl) rfl (sv (EV.sub rfl rfl) rfl (sv (EV.as rfl) rfl (re (wk [0, 3, 4] [0] [⟨1, 2, 1, true⟩, ⟨0, 0, 0, false⟩] (ih0 _ (by omega) _ ⟨x2_3 ++ t5, A18_7, c18_7, wrap64 (x2_4 - 1), t4_1, t4_2, H, rfl⟩)))))))))))))
 ·
  refine gf rfl (dF c3) (gx rfl (gs (rg (sv (EV.mv rfl) rfl (sv (EV.as rfl) rfl (re (pr [2] [0] [0, 1] rfl rfl rfl rfl ?_)))))))
  cases H
  exact rt Try.func59 rfl (.tmp rfl .nil) rfl [0] [⟨0, 2, 1, true⟩] rfl rfl rfl rfl rfl ⟨_, _, rfl, rfl, rfl⟩
def spec_DrawRollupGroups.f (k : Nat) (l0 : List Int) : Option ((List S49)) := (spec_l1New.f k l0).bind fun bt1 => ((spec_l8Groups.f k l0 bt1.1 bt1.2).bind fun bt2 => (some bt2.1))
set_option maxHeartbeats 4000000 in
set_option maxRecDepth 100000 in
theorem spec_DrawRollupGroups.ok (k : Nat) (l0 : List Int) (Al0 : Option Addr) (cl0 : Nat) (r0 : List S49) (H : spec_DrawRollupGroups.f k l0 = some r0) : Fn Try.prog 27 [.slice Al0 l0.length cl0] [] [.sl 0 (.int .u8) Al0 cl0 l0 0 false] (fun v bx en => ∃ A0 c0, v = .slice A0 r0.length c0 ∧ bx = [] ∧ en = [.sl 2 k49 A0 c0 r0 1 true]) := by
 refine fn_ 6 Try.func27 rfl rfl rfl (fun base T w0 => ?_)
 rw [spec_DrawRollupGroups.f] at H
 refine gs (rg (sv (EV.as rfl) rfl (re (gs (rg (sv (EV.mv rfl) rfl ?_))))))
 revert H; refine bdI ?_; rintro ⟨t1_0, t1_1⟩ A1 H
 refine so rfl (op_callM (spec_l1New.ok k l0 Al0 cl0 _ _ A1) [⟨0, 0, 0, false⟩] [] [] 1 rfl rfl rfl rfl rfl rfl rfl rfl ?_)
 rintro _ _ _ ⟨b2001, rfl, rfl, rfl⟩
 refine nmE (en := [.sl 0 (.int .u8) Al0 cl0 l0 0 false]) (by kernel_rfl) ?_
 revert H; refine bdI ?_; rintro ⟨t2_0, t2_1, t2_2⟩ A2 H
 refine so rfl (op_callM (spec_l8Groups.ok k b2001 l0 Al0 cl0 t1_0 t1_1 _ _ _ A2) [⟨0, 0, 0, false⟩] [0] [] 1 rfl rfl rfl rfl rfl rfl rfl rfl ?_)
 rintro _ _ _ ⟨At2_0, ct2_0, rfl, rfl, rfl⟩
 refine nmE (en := [.sl 0 (.int .u8) Al0 cl0 l0 0 false, .sl 2 k49 At2_0 ct2_0 t2_0 2 true]) (by kernel_rfl) (sv (EV.as rfl) rfl (re ?_))
 cases H
 exact rt Try.func27 rfl (.tmp rfl .nil) rfl [] [⟨1, 2, 1, true⟩] rfl rfl rfl rfl rfl ⟨_, _, rfl, rfl, rfl⟩
def impl_decimal.f : Nat → Int → Option (ByteArray)
 | 0, _ => none
 | k + 1, a0 => if a0 < 10 then (some (strOfNums ([IntKind.u8.wrap (IntKind.u64.wrap (48 + a0))] : List Int))) else ((impl_decimal.f k (IntKind.u64.wrap (Int.tdiv a0 10))).bind fun t3 => (if t3.size + (strOfNums ([IntKind.u8.wrap (IntKind.u64.wrap (48 + (Int.tmod a0 10)))] : List Int)).size ≤ 9223372036854775807 then (some (t3 ++ (strOfNums ([IntKind.u8.wrap (IntKind.u64.wrap (48 + (Int.tmod a0 10)))] : List Int)))) else none))
set_option maxHeartbeats 4000000 in
set_option maxRecDepth 100000 in
theorem impl_decimal.ok : ∀ (k : Nat) (a0 : Int) (r0 : ByteArray) (h : impl_decimal.f k a0 = some r0), Fn Try.prog 89 [.int .u64 a0] [] [] (fun v bx en => v = .string r0 ∧ bx = [] ∧ en = []) := by
 intro k
 induction k with
 | zero => intro a0 r0 h; rw [impl_decimal.f] at h; cases h
 | succ k ih =>
 intro a0 r0 H
 refine fn_ 20 Try.func89 rfl rfl rfl (fun base T w0 => ?_)
 rw [impl_decimal.f] at H
 refine gs (rg (sv (EV.as rfl) rfl (re (gs (gs (rg (sv (EV.mv rfl) rfl (sv (EV.lss rfl rfl) rfl (re ?_)))))))))
 revert H; refine ifsI ?_ ?_ <;> intro c1 H
 ·
  refine gt rfl (dT c1) (gs (rg (sv (EV.mv rfl) rfl (sv (EV.addk rfl rfl) rfl (sv (EV.cv (k' := .u8) rfl) rfl (so rfl (op_lit (s := 1) (by_ := 1) (.int .u8) ([IntKind.u8.wrap (IntKind.u64.wrap (48 + a0))] : List Int) [[]] [] 1 [.tmp 7] rfl rfl rfl rfl rfl rfl rfl rfl rfl rfl rfl rfl rfl dq rfl fun A8_2 c8_2 => (sv (EV.bs 0 rfl rfl) rfl (sv (EV.as rfl) rfl (re (pr [2] [] [] rfl rfl rfl rfl ?_)))))))))))
  cases H
  exact rt Try.func89 rfl (.tmp rfl .nil) rfl [] [] rfl rfl rfl rfl rfl ⟨rfl, rfl, rfl⟩
 ·
  refine gf rfl (dF c1) (gk (gs (dr [] [] [] 11 rfl rfl rfl rfl (xv 0 [] [] rfl (EV.mv rfl) rfl rfl rfl rfl (xv 1 [] [] rfl (EV.quok rfl rfl dq) rfl rfl rfl rfl (xv 3 [] [] rfl (EV.mv rfl) rfl rfl rfl rfl (xv 4 [] [] rfl (EV.rem rfl rfl dq) rfl rfl rfl rfl (xv 5 [] [] rfl (EV.addk rfl rfl) rfl rfl rfl rfl (xv 6 [] [] rfl (EV.cv (k' := .u8) rfl) rfl rfl rfl rfl ?_)))))))))
  refine one2 2 7 rfl rfl rfl rfl ?_ ?_
  ·
   revert H; refine bdI ?_; rintro t3 A3 H
   refine op_call (ih (IntKind.u64.wrap (Int.tdiv a0 10)) _ A3) [] 1 rfl rfl rfl rfl rfl ?_
   rintro _ _ _ ⟨rfl, rfl, rfl⟩
   refine xs [] [] rfl rfl rfl (one1 7 rfl rfl (op_lit (s := 1) (by_ := 1) (.int .u8) ([IntKind.u8.wrap (IntKind.u64.wrap (48 + (Int.tmod a0 10)))] : List Int) [[]] [] 1 [.tmp 16] rfl rfl rfl rfl rfl rfl rfl rfl rfl rfl rfl rfl rfl dq rfl fun A17_4 c17_4 => (xs [] [] rfl rfl rfl (one1 8 rfl rfl (ov (EV.bs 0 rfl rfl) rfl (xs [] [] rfl rfl rfl ?_))))))
   revert H; refine ggI ?_; intro g5 H
   refine xv 9 [] [] rfl (EV.ads rfl rfl g5) rfl rfl rfl rfl (xv 10 [] [] rfl (EV.as rfl) rfl rfl rfl rfl (xd (pr [2] [] [] rfl rfl rfl rfl ?_)))
   cases H
   exact rt Try.func89 rfl (.tmp rfl .nil) rfl [] [] rfl rfl rfl rfl rfl ⟨rfl, rfl, rfl⟩
  ·
   refine op_lit (s := 1) (by_ := 1) (.int .u8) ([IntKind.u8.wrap (IntKind.u64.wrap (48 + (Int.tmod a0 10)))] : List Int) [[]] [] 1 [.tmp 16] rfl rfl rfl rfl rfl rfl rfl rfl rfl rfl rfl rfl rfl dq rfl fun A17_6 c17_6 => (xs [] [] rfl rfl rfl ?_)
   refine one2 2 8 rfl rfl rfl rfl ?_ ?_
   ·
    revert H; refine bdI ?_; rintro t7 A7 H
    refine op_call (ih (IntKind.u64.wrap (Int.tdiv a0 10)) _ A7) [] 2 rfl rfl rfl rfl rfl ?_
    rintro _ _ _ ⟨rfl, rfl, rfl⟩
    refine xs [] [] rfl rfl rfl (one1 8 rfl rfl (ov (EV.bs 0 rfl rfl) rfl (xs [] [] rfl rfl rfl ?_)))
    revert H; refine ggI ?_; intro g8 H
    refine xv 9 [] [] rfl (EV.ads rfl rfl g8) rfl rfl rfl rfl (xv 10 [] [] rfl (EV.as rfl) rfl rfl rfl rfl (xd (pr [2] [] [] rfl rfl rfl rfl ?_)))
    cases H
    exact rt Try.func89 rfl (.tmp rfl .nil) rfl [] [] rfl rfl rfl rfl rfl ⟨rfl, rfl, rfl⟩
   ·
    refine ov (EV.bs 0 rfl rfl) rfl (xs [] [] rfl rfl rfl (one1 2 rfl rfl ?_))
    revert H; refine bdI ?_; rintro t9 A9 H
    refine op_call (ih (IntKind.u64.wrap (Int.tdiv a0 10)) _ A9) [] 2 rfl rfl rfl rfl rfl ?_
    rintro _ _ _ ⟨rfl, rfl, rfl⟩
    refine xs [] [] rfl rfl rfl ?_
    revert H; refine ggI ?_; intro g10 H
    refine xv 9 [] [] rfl (EV.ads rfl rfl g10) rfl rfl rfl rfl (xv 10 [] [] rfl (EV.as rfl) rfl rfl rfl rfl (xd (pr [2] [] [] rfl rfl rfl rfl ?_)))
    cases H
    exact rt Try.func89 rfl (.tmp rfl .nil) rfl [] [] rfl rfl rfl rfl rfl ⟨rfl, rfl, rfl⟩
def impl_FormatInt.f (k : Nat) (a0 : Int) : Option (ByteArray) := if a0 < 0 then ((impl_decimal.f k (IntKind.u64.wrap (-(IntKind.u64.wrap a0)))).bind fun t2 => (if (⟨#[45]⟩ : ByteArray).size + t2.size ≤ 9223372036854775807 then (some ((⟨#[45]⟩ : ByteArray) ++ t2)) else none)) else ((impl_decimal.f k (IntKind.u64.wrap a0)).bind fun t4 => (some t4))
set_option maxHeartbeats 4000000 in
set_option maxRecDepth 100000 in
theorem impl_FormatInt.ok (k : Nat) (a0 : Int) (r0 : ByteArray) (H : impl_FormatInt.f k a0 = some r0) : Fn Try.prog 60 [.int .i64 a0] [] [] (fun v bx en => v = .string r0 ∧ bx = [] ∧ en = []) := by
 refine fn_ 13 Try.func60 rfl rfl rfl (fun base T w0 => ?_)
 rw [impl_FormatInt.f] at H
 refine gs (rg (sv (EV.as rfl) rfl (re (gs (gs (rg (sv (EV.mv rfl) rfl (sv (EV.lss rfl rfl) rfl (re ?_)))))))))
 revert H; refine ifsI ?_ ?_ <;> intro c1 H
 ·
  refine gt rfl (dT c1) (gs (rg (sv (EV.mv rfl) rfl (sv (EV.cv (k' := .u64) rfl) rfl (sv (EV.ngk rfl) rfl ?_)))))
  revert H; refine bdI ?_; rintro t2 A2 H
  refine so rfl (op_call (impl_decimal.ok k (IntKind.u64.wrap (-(IntKind.u64.wrap a0))) _ A2) [] 1 rfl rfl rfl rfl rfl ?_)
  rintro _ _ _ ⟨rfl, rfl, rfl⟩
  revert H; refine ggI ?_; intro g3 H
  refine sv (EV.ads rfl rfl g3) rfl (sv (EV.as rfl) rfl (re (pr [2] [] [] rfl rfl rfl rfl ?_)))
  cases H
  exact rt Try.func60 rfl (.tmp rfl .nil) rfl [] [] rfl rfl rfl rfl rfl ⟨rfl, rfl, rfl⟩
 ·
  refine gf rfl (dF c1) (gk (gs (rg (sv (EV.mv rfl) rfl (sv (EV.cv (k' := .u64) rfl) rfl ?_)))))
  revert H; refine bdI ?_; rintro t4 A4 H
  refine so rfl (op_call (impl_decimal.ok k (IntKind.u64.wrap a0) _ A4) [] 1 rfl rfl rfl rfl rfl ?_)
  rintro _ _ _ ⟨rfl, rfl, rfl⟩
  refine sv (EV.as rfl) rfl (re (pr [2] [] [] rfl rfl rfl rfl ?_))
  cases H
  exact rt Try.func60 rfl (.tmp rfl .nil) rfl [] [] rfl rfl rfl rfl rfl ⟨rfl, rfl, rfl⟩
def impl_groupText.f (k : Nat) (a0_0 : Int) (a0_1 : Int) (a0_2 : Int) (a0_3 : Int) (a0_4 : Int) : Option (ByteArray) := (impl_FormatInt.f k a0_0).bind fun t1 => (if t1.size + (⟨#[58]⟩ : ByteArray).size ≤ 9223372036854775807 then ((impl_FormatInt.f k a0_1).bind fun t3 => (if (t1 ++ (⟨#[58]⟩ : ByteArray)).size + t3.size ≤ 9223372036854775807 then (if ((t1 ++ (⟨#[58]⟩ : ByteArray)) ++ t3).size + (⟨#[44]⟩ : ByteArray).size ≤ 9223372036854775807 then ((impl_FormatInt.f k a0_2).bind fun t6 => (if (((t1 ++ (⟨#[58]⟩ : ByteArray)) ++ t3) ++ (⟨#[44]⟩ : ByteArray)).size + t6.size ≤ 9223372036854775807 then (if ((((t1 ++ (⟨#[58]⟩ : ByteArray)) ++ t3) ++ (⟨#[44]⟩ : ByteArray)) ++ t6).size + (⟨#[44]⟩ : ByteArray).size ≤ 9223372036854775807 then ((impl_FormatInt.f k a0_3).bind fun t9 => (if (((((t1 ++ (⟨#[58]⟩ : ByteArray)) ++ t3) ++ (⟨#[44]⟩ : ByteArray)) ++ t6) ++ (⟨#[44]⟩ : ByteArray)).size + t9.size ≤ 9223372036854775807 then (if ((((((t1 ++ (⟨#[58]⟩ : ByteArray)) ++ t3) ++ (⟨#[44]⟩ : ByteArray)) ++ t6) ++ (⟨#[44]⟩ : ByteArray)) ++ t9).size + (⟨#[44]⟩ : ByteArray).size ≤ 9223372036854775807 then ((impl_FormatInt.f k a0_4).bind fun t12 => (if (((((((t1 ++ (⟨#[58]⟩ : ByteArray)) ++ t3) ++ (⟨#[44]⟩ : ByteArray)) ++ t6) ++ (⟨#[44]⟩ : ByteArray)) ++ t9) ++ (⟨#[44]⟩ : ByteArray)).size + t12.size ≤ 9223372036854775807 then (some ((((((((t1 ++ (⟨#[58]⟩ : ByteArray)) ++ t3) ++ (⟨#[44]⟩ : ByteArray)) ++ t6) ++ (⟨#[44]⟩ : ByteArray)) ++ t9) ++ (⟨#[44]⟩ : ByteArray)) ++ t12)) else none)) else none) else none)) else none) else none)) else none) else none)) else none)
set_option maxHeartbeats 4000000 in
set_option maxRecDepth 100000 in
theorem impl_groupText.ok (k : Nat) (a0_0 : Int) (a0_1 : Int) (a0_2 : Int) (a0_3 : Int) (a0_4 : Int) (r0 : ByteArray) (H : impl_groupText.f k a0_0 a0_1 a0_2 a0_3 a0_4 = some r0) : Fn Try.prog 61 [.agg #[.int .i64 a0_0, .int .i64 a0_1, .int .i64 a0_2, .int .i64 a0_3, .int .i64 a0_4]] [] [] (fun v bx en => v = .string r0 ∧ bx = [] ∧ en = []) := by
 refine fn_ 26 Try.func61 rfl rfl rfl (fun base T w0 => ?_)
 rw [impl_groupText.f] at H
 refine gs (rg (so rfl (op_box (cs := [.int .i64 a0_0, .int .i64 a0_1, .int .i64 a0_2, .int .i64 a0_3, .int .i64 a0_4]) rfl rfl rfl fun b1 => (sv (EV.as rfl) rfl (re (gs (dr [0] [] [] 24 rfl rfl rfl rfl (xv 0 [0] [] rfl (EV.fa 0 rfl) rfl rfl rfl rfl (xv 1 [0] [] rfl (EV.ld 0 none rfl rfl rfl) rfl rfl rfl rfl (xv 4 [0] [] rfl (EV.fa 1 rfl) rfl rfl rfl rfl (xv 5 [0] [] rfl (EV.ld 0 none rfl rfl rfl) rfl rfl rfl rfl (xv 9 [0] [] rfl (EV.fa 2 rfl) rfl rfl rfl rfl (xv 10 [0] [] rfl (EV.ld 0 none rfl rfl rfl) rfl rfl rfl rfl (xv 14 [0] [] rfl (EV.fa 3 rfl) rfl rfl rfl rfl (xv 15 [0] [] rfl (EV.ld 0 none rfl rfl rfl) rfl rfl rfl rfl (xv 19 [0] [] rfl (EV.fa 4 rfl) rfl rfl rfl rfl (xv 20 [0] [] rfl (EV.ld 0 none rfl rfl rfl) rfl rfl rfl rfl (one1 2 rfl rfl ?_))))))))))))))))))
 revert H; refine bdI ?_; rintro t1 A1 H
 refine op_call (impl_FormatInt.ok k a0_0 _ A1) [] 1 rfl rfl rfl rfl rfl ?_
 rintro _ _ _ ⟨rfl, rfl, rfl⟩
 refine xs [0] [] rfl rfl rfl ?_
 revert H; refine ggI ?_; intro g2 H
 refine xv 3 [0] [] rfl (EV.ads rfl rfl g2) rfl rfl rfl rfl (one1 6 rfl rfl ?_)
 revert H; refine bdI ?_; rintro t3 A3 H
 refine op_call (impl_FormatInt.ok k a0_1 _ A3) [] 1 rfl rfl rfl rfl rfl ?_
 rintro _ _ _ ⟨rfl, rfl, rfl⟩
 refine xs [0] [] rfl rfl rfl ?_
 revert H; refine ggI ?_; intro g4 H
 refine xv 7 [0] [] rfl (EV.ads rfl rfl g4) rfl rfl rfl rfl ?_
 revert H; refine ggI ?_; intro g5 H
 refine xv 8 [0] [] rfl (EV.ads rfl rfl g5) rfl rfl rfl rfl (one1 11 rfl rfl ?_)
 revert H; refine bdI ?_; rintro t6 A6 H
 refine op_call (impl_FormatInt.ok k a0_2 _ A6) [] 1 rfl rfl rfl rfl rfl ?_
 rintro _ _ _ ⟨rfl, rfl, rfl⟩
 refine xs [0] [] rfl rfl rfl ?_
 revert H; refine ggI ?_; intro g7 H
 refine xv 12 [0] [] rfl (EV.ads rfl rfl g7) rfl rfl rfl rfl ?_
 revert H; refine ggI ?_; intro g8 H
 refine xv 13 [0] [] rfl (EV.ads rfl rfl g8) rfl rfl rfl rfl (one1 16 rfl rfl ?_)
 revert H; refine bdI ?_; rintro t9 A9 H
 refine op_call (impl_FormatInt.ok k a0_3 _ A9) [] 1 rfl rfl rfl rfl rfl ?_
 rintro _ _ _ ⟨rfl, rfl, rfl⟩
 refine xs [0] [] rfl rfl rfl ?_
 revert H; refine ggI ?_; intro g10 H
 refine xv 17 [0] [] rfl (EV.ads rfl rfl g10) rfl rfl rfl rfl ?_
 revert H; refine ggI ?_; intro g11 H
 refine xv 18 [0] [] rfl (EV.ads rfl rfl g11) rfl rfl rfl rfl (one1 21 rfl rfl ?_)
 revert H; refine bdI ?_; rintro t12 A12 H
 refine op_call (impl_FormatInt.ok k a0_4 _ A12) [] 1 rfl rfl rfl rfl rfl ?_
 rintro _ _ _ ⟨rfl, rfl, rfl⟩
 refine xs [0] [] rfl rfl rfl ?_
 revert H; refine ggI ?_; intro g13 H
 refine xv 22 [0] [] rfl (EV.ads rfl rfl g13) rfl rfl rfl rfl (xv 23 [0] [] rfl (EV.as rfl) rfl rfl rfl rfl (xd (pr [2] [] [] rfl rfl rfl rfl ?_)))
 cases H
 exact rt Try.func61 rfl (.tmp rfl .nil) rfl [] [] rfl rfl rfl rfl rfl ⟨rfl, rfl, rfl⟩
mutual
def impl_joined.j0 : Nat → ByteArray → ByteArray → ByteArray → Int → Int → (List ByteArray) → Option (ByteArray)
 | 0, _, _, _, _, _, _ => none
 | k + 1, x10_1, x10_5, x10_7, x10_9, x10_10, l0 => if x10_5.size + x10_7.size ≤ 9223372036854775807 then (impl_joined.l0 k x10_1 (x10_5 ++ x10_7) x10_9 (wrap64 (x10_10 + 1)) l0) else none
def impl_joined.l0 : Nat → ByteArray → ByteArray → Int → Int → (List ByteArray) → Option (ByteArray)
 | 0, _, _, _, _, _ => none
 | k + 1, x6_1, x6_5, x6_9, x6_10, l0 => if x6_10 < x6_9 then (if 0 ≤ x6_10 then (if x6_10 < (l0.length : Int) then (if x6_10 > 0 then (if x6_5.size + x6_1.size ≤ 9223372036854775807 then (impl_joined.j0 k x6_1 (x6_5 ++ x6_1) (rdOf ByteArray.empty l0 x6_10) x6_9 x6_10 l0) else none) else (impl_joined.j0 k x6_1 x6_5 (rdOf ByteArray.empty l0 x6_10) x6_9 x6_10 l0)) else none) else none) else (some x6_5)
end
def impl_joined.f (k : Nat) (l0 : List ByteArray) (a1 : ByteArray) : Option (ByteArray) := impl_joined.l0 k a1 (⟨#[]⟩ : ByteArray) (l0.length : Int) 0 l0
set_option maxHeartbeats 4000000 in
set_option maxRecDepth 100000 in
theorem impl_joined.ok (k : Nat) (l0 : List ByteArray) (Al0 : Option Addr) (cl0 : Nat) (a1 : ByteArray) (r0 : ByteArray) (H : impl_joined.f k l0 a1 = some r0) : Fn Try.prog 62 [.slice Al0 l0.length cl0, .string a1] [] [.sl 0 .str Al0 cl0 l0 0 false] (fun v bx en => v = .string r0 ∧ bx = [] ∧ en = []) := by
 refine fn_ 25 Try.func62 rfl rfl rfl (fun base T w0 => ?_)
 rw [impl_joined.f] at H
 refine gs (rg (sv (EV.as rfl) rfl (re (gs (rg (sv (EV.as rfl) rfl (re (gs (gs (rg (sv (EV.mv rfl) rfl (sv (EV.ln rfl) rfl (sv (EV.mv rfl) rfl (re (gb ?_)))))))))))))))
 refine lo (fun kk S => ∃ (x6_1 : ByteArray) (x6_5 : ByteArray) (x6_9 : Int) (x6_10 : Int), impl_joined.l0 kk x6_1 x6_5 x6_9 x6_10 l0 = some r0 ∧ S = ⟨[(1, .string x6_1), (5, .string x6_5), (8, .slice Al0 l0.length cl0), (9, .int .i64 x6_9), (10, .int .i64 x6_10)], [], [.sl 0 .str Al0 cl0 l0 0 false]⟩) (fun S hS => ?_) (fun n0 ih0 S hS => ?_) ⟨a1, (⟨#[]⟩ : ByteArray), (l0.length : Int), 0, H, rfl⟩ (fun h => wk [1, 5, 8, 9, 10] [] [⟨0, 0, 0, false⟩] h)
 · clear H; obtain ⟨_, _, _, _, H, _⟩ := hS; rw [impl_joined.l0] at H; cases H
 clear H
 obtain ⟨x6_1, x6_5, x6_9, x6_10, H, rfl⟩ := hS
 rw [impl_joined.l0] at H
 refine gs (rg (sv (EV.lss rfl rfl) rfl (re (gs ?_))))
 revert H; refine ifsI ?_ ?_ <;> intro c1 H
 ·
  refine gt rfl (dT c1) (gk (gs (gb (gs (rg (sv (EV.mv rfl) rfl ?_))))))
  revert H; refine ggI ?_; intro g2 H
  revert H; refine ggI ?_; intro g3 H
  refine sv (EV.ix 0 rfl rfl rfl g2 g3 rfl) rfl (sv (EV.le (v := .string (rdOf ByteArray.empty l0 x6_10)) x6_10 0 none 0 ByteArray.empty rfl rfl rfl g2 g3 rfl rfl rfl) rfl (sv (EV.as rfl) rfl (sv (EV.as rfl) rfl (re ?_))))
  refine jo (fun S => ∃ (m : Nat) (x10_1 : ByteArray) (x10_5 : ByteArray) (x10_7 : ByteArray) (x10_9 : Int) (x10_10 : Int), m ≤ n0 ∧ impl_joined.j0 m x10_1 x10_5 x10_7 x10_9 x10_10 l0 = some r0 ∧ S = ⟨[(1, .string x10_1), (5, .string x10_5), (7, .string x10_7), (8, .slice Al0 l0.length cl0), (9, .int .i64 x10_9), (10, .int .i64 x10_10)], [], [.sl 0 .str Al0 cl0 l0 0 false]⟩) (fun S hS => ?_) (fun jh0 => ?_)
  ·
   clear H
   obtain ⟨m4, x10_1, x10_5, x10_7, x10_9, x10_10, lm4, H, rfl⟩ := hS
   rcases m4 with _ | m4
   · rw [impl_joined.j0] at H; cases H
   rw [impl_joined.j0] at H
   refine rg (sv (EV.mv rfl) rfl (sv (EV.mv rfl) rfl ?_))
   revert H; refine ggI ?_; intro g5 H
   exact sv (EV.ads rfl rfl g5) rfl (sv (EV.as rfl) rfl (re (ge (rg (sv (EV.add rfl rfl) rfl (sv (EV.mv rfl) rfl (re (wk [1, 5, 8, 9, 10] [] [⟨0, 0, 0, false⟩] (ih0 _ (by omega) _ ⟨x10_1, x10_5 ++ x10_7, x10_9, wrap64 (x10_10 + 1), H, rfl⟩)))))))))
  ·
   refine gs (rg (sv (EV.mv rfl) rfl (sv (EV.gtr rfl rfl) rfl (re (pr [1, 5, 7, 8, 9, 10, 16] [] [0] rfl rfl rfl rfl ?_)))))
   revert H; refine ifsI ?_ ?_ <;> intro c6 H
   ·
    refine gt rfl (dT c6) (rg (sv (EV.mv rfl) rfl (sv (EV.mv rfl) rfl ?_)))
    revert H; refine ggI ?_; intro g7 H
    exact sv (EV.ads rfl rfl g7) rfl (sv (EV.as rfl) rfl (re (wk [1, 5, 7, 8, 9, 10] [] [⟨0, 0, 0, false⟩] (jh0 _ ⟨_, x6_1, x6_5 ++ x6_1, rdOf ByteArray.empty l0 x6_10, x6_9, x6_10, by omega, H, rfl⟩))))
   ·
    exact gf rfl (dF c6) (gk (wk [1, 5, 7, 8, 9, 10] [] [⟨0, 0, 0, false⟩] (jh0 _ ⟨_, x6_1, x6_5, rdOf ByteArray.empty l0 x6_10, x6_9, x6_10, by omega, H, rfl⟩)))
 ·
  refine gf rfl (dF c1) (gx rfl (gs (rg (sv (EV.mv rfl) rfl (sv (EV.as rfl) rfl (re (pr [4] [] [] rfl rfl rfl rfl ?_)))))))
  cases H
  exact rt Try.func62 rfl (.tmp rfl .nil) rfl [] [] rfl rfl rfl rfl rfl ⟨rfl, rfl, rfl⟩
def impl_FormatRollup.l0 : Nat → (List ByteArray) → Int → Int → (List S51) → Option (ByteArray)
 | 0, _, _, _, _ => none
 | k + 1, x2_3, x2_8, x2_9, l0 => if x2_9 < x2_8 then (if 0 ≤ x2_9 then (if x2_9 < (l0.length : Int) then (if x2_3.length < 8796093022208 then ((impl_FormatInt.f k ((rd_T51 l0 x2_9).f0)).bind fun t6 => (if t6.size + (⟨#[47]⟩ : ByteArray).size ≤ 9223372036854775807 then ((impl_groupText.f k ((rd_T51 l0 x2_9).f1.f0) ((rd_T51 l0 x2_9).f1.f1) ((rd_T51 l0 x2_9).f1.f2) ((rd_T51 l0 x2_9).f1.f3) ((rd_T51 l0 x2_9).f1.f4)).bind fun t8 => (if (t6 ++ (⟨#[47]⟩ : ByteArray)).size + t8.size ≤ 9223372036854775807 then (impl_FormatRollup.l0 k (x2_3 ++ ([(t6 ++ (⟨#[47]⟩ : ByteArray)) ++ t8] : List ByteArray)) x2_8 (wrap64 (x2_9 + 1)) l0) else none)) else none)) else none) else none) else none) else ((impl_joined.f k x2_3 (⟨#[32]⟩ : ByteArray)).bind fun t12 => (some t12))
def impl_FormatRollup.f (k : Nat) (l0 : List S51) : Option (ByteArray) := impl_FormatRollup.l0 k [] (l0.length : Int) 0 l0
set_option maxHeartbeats 4000000 in
set_option maxRecDepth 100000 in
theorem impl_FormatRollup.ok (k : Nat) (l0 : List S51) (Al0 : Option Addr) (cl0 : Nat) (r0 : ByteArray) (H : impl_FormatRollup.f k l0 = some r0) : Fn Try.prog 30 [.slice Al0 l0.length cl0] [] [.sl 0 k51 Al0 cl0 l0 0 false] (fun v bx en => v = .string r0 ∧ bx = [] ∧ en = []) := by
 refine fn_ 27 Try.func30 rfl rfl rfl (fun base T w0 => ?_)
 rw [impl_FormatRollup.f] at H
 refine gs (rg (sv (EV.as rfl) rfl (re (gs (rg (so rfl (op_lit (s := 1) (by_ := 16) .str ([] : List ByteArray) [] [] 1 [] rfl rfl rfl rfl rfl rfl rfl rfl rfl rfl rfl rfl rfl dq rfl fun A6_1 c6_1 => (sv (EV.as rfl) rfl (re (gs (gs (rg (sv (EV.mv rfl) rfl (sv (EV.ln rfl) rfl (sv (EV.mv rfl) rfl (re (gb ?_)))))))))))))))))
 refine lo (fun kk S => ∃ (x2_3 : List ByteArray) (Ax2_3 : Option Addr) (cx2_3 : Nat) (x2_8 : Int) (x2_9 : Int), impl_FormatRollup.l0 kk x2_3 x2_8 x2_9 l0 = some r0 ∧ S = ⟨[(3, .slice Ax2_3 x2_3.length cx2_3), (7, .slice Al0 l0.length cl0), (8, .int .i64 x2_8), (9, .int .i64 x2_9)], [], [.sl 2 .str Ax2_3 cx2_3 x2_3 1 true, .sl 0 k51 Al0 cl0 l0 0 false]⟩) (fun S hS => ?_) (fun n0 ih0 S hS => ?_) ⟨[], A6_1, c6_1, (l0.length : Int), 0, H, rfl⟩ (fun h => wk [3, 7, 8, 9] [] [⟨1, 2, 1, true⟩, ⟨0, 0, 0, false⟩] h)
 · clear H; obtain ⟨_, _, _, _, _, H, _⟩ := hS; rw [impl_FormatRollup.l0] at H; cases H
 clear H
 obtain ⟨x2_3, Ax2_3, cx2_3, x2_8, x2_9, H, rfl⟩ := hS
 rw [impl_FormatRollup.l0] at H
 refine gs (rg (sv (EV.lss rfl rfl) rfl (re (gs ?_))))
 revert H; refine ifsI ?_ ?_ <;> intro c2 H
 ·
  refine gt rfl (dT c2) (gk (gs (gb (gs (rg ?_)))))
  revert H; refine ggI ?_; intro g3 H
  revert H; refine ggI ?_; intro g4 H
  refine sv (EV.ix 1 rfl rfl rfl g3 g4 rfl) rfl (sv (EV.le (v := .agg #[.int .i64 ((rd_T51 l0 x2_9).f0), .int .i64 ((rd_T51 l0 x2_9).f1.f0), .int .i64 ((rd_T51 l0 x2_9).f1.f1), .int .i64 ((rd_T51 l0 x2_9).f1.f2), .int .i64 ((rd_T51 l0 x2_9).f1.f3), .int .i64 ((rd_T51 l0 x2_9).f1.f4)]) x2_9 0 (some 6) 1 z51 rfl rfl rfl g3 g4 rfl rfl rfl) rfl (so rfl (op_alloc (cs := [.int .i64 0, .int .i64 0, .int .i64 0, .int .i64 0, .int .i64 0, .int .i64 0]) (by kernel_rfl) rfl fun b5 => (so rfl (op_st (cs' := [.int .i64 ((rd_T51 l0 x2_9).f0), .int .i64 ((rd_T51 l0 x2_9).f1.f0), .int .i64 ((rd_T51 l0 x2_9).f1.f1), .int .i64 ((rd_T51 l0 x2_9).f1.f2), .int .i64 ((rd_T51 l0 x2_9).f1.f3), .int .i64 ((rd_T51 l0 x2_9).f1.f4)]) 0 rfl rfl rfl rfl rfl rfl (re ?_))))))
  revert H; refine ggI ?_; intro g5 H
  refine dr [0] [1] [11] 12 rfl rfl rfl rfl (xv 0 [0] [1] rfl (EV.mv rfl) rfl rfl rfl rfl (xv 1 [0] [1] rfl (EV.fa 0 rfl) rfl rfl rfl rfl (xv 2 [0] [1] rfl (EV.ld 0 none rfl rfl rfl) rfl rfl rfl rfl (xv 5 [0] [1] rfl (EV.fa 1 rfl) rfl rfl rfl rfl (xv 6 [0] [1] rfl (EV.ld (v := .agg #[.int .i64 ((rd_T51 l0 x2_9).f1.f0), .int .i64 ((rd_T51 l0 x2_9).f1.f1), .int .i64 ((rd_T51 l0 x2_9).f1.f2), .int .i64 ((rd_T51 l0 x2_9).f1.f3), .int .i64 ((rd_T51 l0 x2_9).f1.f4)]) 0 (some 5) rfl rfl rfl) rfl rfl rfl rfl (one1 3 rfl rfl ?_))))))
  revert H; refine bdI ?_; rintro t6 A6 H
  refine op_call (impl_FormatInt.ok n0 ((rd_T51 l0 x2_9).f0) _ A6) [] 2 rfl rfl rfl rfl rfl ?_
  rintro _ _ _ ⟨rfl, rfl, rfl⟩
  refine xs [0] [1] rfl rfl rfl ?_
  revert H; refine ggI ?_; intro g7 H
  refine xv 4 [0] [1] rfl (EV.ads rfl rfl g7) rfl rfl rfl rfl (one1 7 rfl rfl ?_)
  revert H; refine bdI ?_; rintro t8 A8 H
  refine op_call (impl_groupText.ok n0 ((rd_T51 l0 x2_9).f1.f0) ((rd_T51 l0 x2_9).f1.f1) ((rd_T51 l0 x2_9).f1.f2) ((rd_T51 l0 x2_9).f1.f3) ((rd_T51 l0 x2_9).f1.f4) _ A8) [] 2 rfl rfl rfl rfl rfl ?_
  rintro _ _ _ ⟨rfl, rfl, rfl⟩
  refine xs [0] [1] rfl rfl rfl ?_
  revert H; refine ggI ?_; intro g9 H
  exact xv 8 [0] [1] rfl (EV.ads rfl rfl g9) rfl rfl rfl rfl (one1 9 rfl rfl (op_lit (s := 1) (by_ := 16) .str ([(t6 ++ (⟨#[47]⟩ : ByteArray)) ++ t8] : List ByteArray) [[]] [] 2 [.tmp 21] rfl rfl rfl rfl rfl rfl rfl rfl rfl rfl rfl rfl rfl dq rfl fun A22_10 c22_10 => (xs [0] [1] rfl rfl rfl (one1 10 rfl rfl (op_app (k := .str) (s := 1) (by_ := 16) 0 2 rfl rfl rfl rfl (ap1 g5 dq) (ap1n g5 dq) (.inl rfl) true (fun _ => .inl rfl) rfl rfl fun A23_11 c23_11 => (nmE (en := [.sl 0 k51 Al0 cl0 l0 0 false, .sl 2 .str A22_10 c22_10 ([(t6 ++ (⟨#[47]⟩ : ByteArray)) ++ t8] : List ByteArray) 2 true, .sl 2 .str A23_11 c23_11 (x2_3 ++ ([(t6 ++ (⟨#[47]⟩ : ByteArray)) ++ t8] : List ByteArray)) 1 true]) (by kernel_rfl) (xs [0] [0] rfl rfl rfl (one1 11 rfl rfl (ov (EV.as rfl) rfl (xn rfl (xd (pr [3, 7, 8, 9] [] [0, 2] rfl rfl rfl rfl (ge (rg (sv (EV.add rfl rfl) rfl (sv (EV.mv rfl) rfl (re (wk [3, 7, 8, 9] [] [⟨1, 2, 1, true⟩, ⟨0, 0, 0, false⟩] (ih0 _ (by omega) _ ⟨x2_3 ++ ([(t6 ++ (⟨#[47]⟩ : ByteArray)) ++ t8] : List ByteArray), A23_11, c23_11, x2_8, wrap64 (x2_9 + 1), H, rfl⟩)))))))))))))))))))
 ·
  refine gf rfl (dF c2) (gx rfl (gs (rg (sv (EV.mv rfl) rfl ?_))))
  revert H; refine bdI ?_; rintro t12 A12 H
  refine so rfl (op_call (impl_joined.ok n0 x2_3 Ax2_3 cx2_3 (⟨#[32]⟩ : ByteArray) _ A12) [⟨0, 0, 0, false⟩] 2 rfl rfl rfl rfl rfl ?_)
  rintro _ _ _ ⟨rfl, rfl, rfl⟩
  refine sv (EV.as rfl) rfl (re (pr [2] [] [] rfl rfl rfl rfl ?_))
  cases H
  exact rt Try.func30 rfl (.tmp rfl .nil) rfl [] [] rfl rfl rfl rfl rfl ⟨rfl, rfl, rfl⟩
mutual
def spec_FormatInt.j0 : Nat → Int → ByteArray → Bool → Int → Option (ByteArray)
 | 0, _, _, _, _ => none
 | k + 1, x6_0, x6_3, x6_4, x6_5 => if (strOfNums ([IntKind.u8.wrap (wrap64 (48 + x6_5))] : List Int)).size + x6_3.size ≤ 9223372036854775807 then (spec_FormatInt.l0 k (wrap64 (Int.tdiv x6_0 10)) ((strOfNums ([IntKind.u8.wrap (wrap64 (48 + x6_5))] : List Int)) ++ x6_3) x6_4) else none
def spec_FormatInt.l0 : Nat → Int → ByteArray → Bool → Option (ByteArray)
 | 0, _, _, _ => none
 | k + 1, x4_0, x4_3, x4_4 => if x4_0 = 0 then (if x4_4 = true then (if (⟨#[45]⟩ : ByteArray).size + x4_3.size ≤ 9223372036854775807 then (some ((⟨#[45]⟩ : ByteArray) ++ x4_3)) else none) else (some x4_3)) else (if (Int.tmod x4_0 10) < 0 then (spec_FormatInt.j0 k x4_0 x4_3 x4_4 (wrap64 (-(Int.tmod x4_0 10)))) else (spec_FormatInt.j0 k x4_0 x4_3 x4_4 (Int.tmod x4_0 10)))
end
def spec_FormatInt.f (k : Nat) (a0 : Int) : Option (ByteArray) := if a0 = 0 then (some (⟨#[48]⟩ : ByteArray)) else (spec_FormatInt.l0 k a0 (⟨#[]⟩ : ByteArray) (decide (a0 < 0)))
set_option maxHeartbeats 4000000 in
set_option maxRecDepth 100000 in
theorem spec_FormatInt.ok (k : Nat) (a0 : Int) (r0 : ByteArray) (H : spec_FormatInt.f k a0 = some r0) : Fn Try.prog 63 [.int .i64 a0] [] [] (fun v bx en => v = .string r0 ∧ bx = [] ∧ en = []) := by
 refine fn_ 31 Try.func63 rfl rfl rfl (fun base T w0 => ?_)
 rw [spec_FormatInt.f] at H
 refine gs (rg (sv (EV.as rfl) rfl (re (gs (gs (rg (sv (EV.mv rfl) rfl (sv (EV.eql rfl rfl) rfl (re ?_)))))))))
 revert H; refine ifsI ?_ ?_ <;> intro c1 H
 ·
  refine gt rfl (dT c1) (gs (rg (sv (EV.as rfl) rfl (re ?_))))
  cases H
  exact rt Try.func63 rfl (.tmp rfl .nil) rfl [] [] rfl rfl rfl rfl rfl ⟨rfl, rfl, rfl⟩
 ·
  refine gf rfl (dF c1) (gk (gs (rg (sv (EV.as rfl) rfl (re (gs (rg (sv (EV.mv rfl) rfl (sv (EV.lss rfl rfl) rfl (sv (EV.as rfl) rfl (re (gs (gb ?_)))))))))))))
  refine lo (fun kk S => ∃ (x4_0 : Int) (x4_3 : ByteArray) (x4_4 : Bool), spec_FormatInt.l0 kk x4_0 x4_3 x4_4 = some r0 ∧ S = ⟨[(0, .int .i64 x4_0), (3, .string x4_3), (4, .bool x4_4)], [], []⟩) (fun S hS => ?_) (fun n0 ih0 S hS => ?_) ⟨a0, (⟨#[]⟩ : ByteArray), decide (a0 < 0), H, rfl⟩ (fun h => wk [0, 3, 4] [] [] h)
  · clear H; obtain ⟨_, _, _, H, _⟩ := hS; rw [spec_FormatInt.l0] at H; cases H
  clear H
  obtain ⟨x4_0, x4_3, x4_4, H, rfl⟩ := hS
  rw [spec_FormatInt.l0] at H
  refine gs (gs (rg (sv (EV.mv rfl) rfl (sv (EV.neq rfl rfl) rfl (re ?_)))))
  revert H; refine ifsI ?_ ?_ <;> intro c2 H
  ·
   refine gf rfl (nF c2) (gx rfl (gs (gs (rg (sv (EV.mv rfl) rfl (re ?_))))))
   revert H; refine ifsI ?_ ?_ <;> intro c3 H
   ·
    subst c3
    refine gt rfl rfl (gs (rg (sv (EV.mv rfl) rfl ?_)))
    revert H; refine ggI ?_; intro g4 H
    refine sv (EV.ads rfl rfl g4) rfl (sv (EV.as rfl) rfl (re (pr [2] [] [] rfl rfl rfl rfl ?_)))
    cases H
    exact rt Try.func63 rfl (.tmp rfl .nil) rfl [] [] rfl rfl rfl rfl rfl ⟨rfl, rfl, rfl⟩
   ·
    obtain rfl := bF c3
    refine gf rfl rfl (gk (gs (rg (sv (EV.mv rfl) rfl (sv (EV.as rfl) rfl (re (pr [2] [] [] rfl rfl rfl rfl ?_)))))))
    cases H
    exact rt Try.func63 rfl (.tmp rfl .nil) rfl [] [] rfl rfl rfl rfl rfl ⟨rfl, rfl, rfl⟩
  ·
   refine gt rfl (nT c2) (gk (gb (gs (rg (sv (EV.mv rfl) rfl (sv (EV.rem rfl rfl dq) rfl (sv (EV.as rfl) rfl (re ?_))))))))
   refine jo (fun S => ∃ (m : Nat) (x6_0 : Int) (x6_3 : ByteArray) (x6_4 : Bool) (x6_5 : Int), m ≤ n0 ∧ spec_FormatInt.j0 m x6_0 x6_3 x6_4 x6_5 = some r0 ∧ S = ⟨[(0, .int .i64 x6_0), (3, .string x6_3), (4, .bool x6_4), (5, .int .i64 x6_5)], [], []⟩) (fun S hS => ?_) (fun jh0 => ?_)
   ·
    clear H
    obtain ⟨m5, x6_0, x6_3, x6_4, x6_5, lm5, H, rfl⟩ := hS
    rcases m5 with _ | m5
    · rw [spec_FormatInt.j0] at H; cases H
    rw [spec_FormatInt.j0] at H
    refine gs (rg (sv (EV.mv rfl) rfl (sv (EV.add rfl rfl) rfl (sv (EV.cv (k' := .u8) rfl) rfl (so rfl (op_lit (s := 1) (by_ := 1) (.int .u8) ([IntKind.u8.wrap (wrap64 (48 + x6_5))] : List Int) [[]] [] 1 [.tmp 20] rfl rfl rfl rfl rfl rfl rfl rfl rfl rfl rfl rfl rfl dq rfl fun A21_6 c21_6 => (sv (EV.bs 0 rfl rfl) rfl (sv (EV.mv rfl) rfl ?_))))))))
    revert H; refine ggI ?_; intro g7 H
    exact sv (EV.ads rfl rfl g7) rfl (sv (EV.as rfl) rfl (re (pr [0, 3, 4] [] [] rfl rfl rfl rfl (rg (sv (EV.mv rfl) rfl (sv (EV.quo rfl rfl dq) rfl (sv (EV.as rfl) rfl (re (ge (wk [0, 3, 4] [] [] (ih0 _ (by omega) _ ⟨wrap64 (Int.tdiv x6_0 10), (strOfNums ([IntKind.u8.wrap (wrap64 (48 + x6_5))] : List Int)) ++ x6_3, x6_4, H, rfl⟩)))))))))))
   ·
    refine gs (rg (sv (EV.mv rfl) rfl (sv (EV.lss rfl rfl) rfl (re ?_))))
    revert H; refine ifsI ?_ ?_ <;> intro c8 H
    ·
     exact gt rfl (dT c8) (rg (sv (EV.mv rfl) rfl (sv (EV.ng rfl) rfl (sv (EV.as rfl) rfl (re (pr [0, 3, 4, 5] [] [] rfl rfl rfl rfl (wk [0, 3, 4, 5] [] [] (jh0 _ ⟨_, x4_0, x4_3, x4_4, wrap64 (-(Int.tmod x4_0 10)), by omega, H, rfl⟩))))))))
    ·
     exact gf rfl (dF c8) (gk (wk [0, 3, 4, 5] [] [] (jh0 _ ⟨_, x4_0, x4_3, x4_4, Int.tmod x4_0 10, by omega, H, rfl⟩)))
end Go.Proofs.Ytgpencaijhbolaa.K
