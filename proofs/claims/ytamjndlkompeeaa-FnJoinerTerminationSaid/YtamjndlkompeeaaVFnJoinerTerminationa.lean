/- Walks: what the functions compute. Printed by gen.py; no condition. -/
import Derived.Test.YtamjndlkompeeaaProg
import Derived.Test.YtamjndlkompeeaaSB
namespace Go.Proofs.Ytamjndlkompeeaa.K
open Go Go.RowKit
set_option linter.unusedVariables false
set_option linter.unusedSimpArgs false
structure S99 where
  f0 : Int
  f1 : Int
  f2 : Int
def z99 : S99 := ⟨0, 0, 0⟩
def k99 : Kd S99 := .iso (fun p => ⟨p.1, p.2.1, p.2.2⟩) (fun x => (x.f0, x.f1, x.f2)) (fun _ => rfl) (.pair (.int .i64) (.pair (.int .i64) (.int .i64)))
def rd_T99 (xs : List S99) (i : Int) : S99 := xs.getD i.toNat z99
structure S27 where
  f0 : Int
  f1 : List S99
  f2 : List S99
  f3 : List Bool
  f4 : Int
def z27 : S27 := ⟨0, [], [], [], 0⟩
def k27 : Kd S27 := .iso (fun p => ⟨p.1, p.2.1, p.2.2.1, p.2.2.2.1, p.2.2.2.2⟩) (fun x => (x.f0, x.f1, x.f2, x.f3, x.f4)) (fun _ => rfl) (.pair (.int .i64) (.pair (.slice k99) (.pair (.slice k99) (.pair (.slice .bool) (.int .i64)))))
def rd_T27 (xs : List S27) (i : Int) : S27 := xs.getD i.toNat z27
structure S102 where
  f0 : List S99
  f1 : Int
def z102 : S102 := ⟨[], 0⟩
def k102 : Kd S102 := .iso (fun p => ⟨p.1, p.2⟩) (fun x => (x.f0, x.f1)) (fun _ => rfl) (.pair (.slice k99) (.int .i64))
def rd_T102 (xs : List S102) (i : Int) : S102 := xs.getD i.toNat z102
structure S46 where
  f0 : List S102
  f1 : Int
  f2 : Bool
def z46 : S46 := ⟨[], 0, false⟩
def k46 : Kd S46 := .iso (fun p => ⟨p.1, p.2.1, p.2.2⟩) (fun x => (x.f0, x.f1, x.f2)) (fun _ => rfl) (.pair (.slice k102) (.pair (.int .i64) .bool))
def rd_T46 (xs : List S46) (i : Int) : S46 := xs.getD i.toNat z46
structure S60 where
  f0 : List S27
  f1 : Int
  f2 : Int
def z60 : S60 := ⟨[], 0, 0⟩
def k60 : Kd S60 := .iso (fun p => ⟨p.1, p.2.1, p.2.2⟩) (fun x => (x.f0, x.f1, x.f2)) (fun _ => rfl) (.pair (.slice k27) (.pair (.int .i64) (.int .i64)))
def rd_T60 (xs : List S60) (i : Int) : S60 := xs.getD i.toNat z60
structure S151 where
  f0 : S99
  f1 : S99
  f2 : Bool
def z151 : S151 := ⟨z99, z99, false⟩
def k151 : Kd S151 := .iso (fun p => ⟨p.1, p.2.1, p.2.2⟩) (fun x => (x.f0, x.f1, x.f2)) (fun _ => rfl) (.pair k99 (.pair k99 .bool))
def rd_T151 (xs : List S151) (i : Int) : S151 := xs.getD i.toNat z151
structure S110 where
  f0 : List S151
  f1 : Int
  f2 : Int
  f3 : Int
def z110 : S110 := ⟨[], 0, 0, 0⟩
def k110 : Kd S110 := .iso (fun p => ⟨p.1, p.2.1, p.2.2.1, p.2.2.2⟩) (fun x => (x.f0, x.f1, x.f2, x.f3)) (fun _ => rfl) (.pair (.slice k151) (.pair (.int .i64) (.pair (.int .i64) (.int .i64))))
def rd_T110 (xs : List S110) (i : Int) : S110 := xs.getD i.toNat z110
structure S119 where
  f0 : List Int
  f1 : Int
  f2 : Int
def z119 : S119 := ⟨[], 0, 0⟩
def k119 : Kd S119 := .iso (fun p => ⟨p.1, p.2.1, p.2.2⟩) (fun x => (x.f0, x.f1, x.f2)) (fun _ => rfl) (.pair (.slice (.int .u8)) (.pair (.int .i64) (.int .i64)))
def rd_T119 (xs : List S119) (i : Int) : S119 := xs.getD i.toNat z119
structure S147 where
  f0 : Int
  f1 : Int
  f2 : Int
  f3 : Int
  f4 : Int
def z147 : S147 := ⟨0, 0, 0, 0, 0⟩
def k147 : Kd S147 := .iso (fun p => ⟨p.1, p.2.1, p.2.2.1, p.2.2.2.1, p.2.2.2.2⟩) (fun x => (x.f0, x.f1, x.f2, x.f3, x.f4)) (fun _ => rfl) (.pair (.int .i64) (.pair (.int .i64) (.pair (.int .i64) (.pair (.int .i64) (.int .i64)))))
def rd_T147 (xs : List S147) (i : Int) : S147 := xs.getD i.toNat z147
theorem eqD99 (d : Nat) (w : World) (x0 y0 : Int) (x1 y1 : Int) (x2 y2 : Int) : (Op.equalIn (d + 2) 99 (.agg #[.int .i64 x0, .int .i64 x1, .int .i64 x2]) (.agg #[.int .i64 y0, .int .i64 y1, .int .i64 y2])).run Try.prog w = .ok (x0 == y0 && (x1 == y1 && (x2 == y2))) w := by
  refine eq_of (d := d + 1) Try.underlying99 (by kernel_rfl) ?_
  refine eq_cons (by rfl) (by first | (go_simp; done) | (go_simp; rfl)) (by first | (go_simp; done) | (go_simp; rfl)) (by go_simp) ?_
  refine eq_cons (by rfl) (by first | (go_simp; done) | (go_simp; rfl)) (by first | (go_simp; done) | (go_simp; rfl)) (by go_simp) ?_
  exact eq_last (by rfl) (by first | (go_simp; done) | (go_simp; rfl)) (by first | (go_simp; done) | (go_simp; rfl)) (by go_simp)
theorem eq99 (d : Nat) (w : World) (x0 y0 : Int) (x1 y1 : Int) (x2 y2 : Int) : (Op.equalIn (d + 20) 99 (.agg #[.int .i64 x0, .int .i64 x1, .int .i64 x2]) (.agg #[.int .i64 y0, .int .i64 y1, .int .i64 y2])).run Try.prog w = .ok (x0 == y0 && (x1 == y1 && (x2 == y2))) w := eqD99 (d + 18) w x0 y0 x1 y1 x2 y2
theorem mk25 : ∀ (zz : Value) (e : TypeId) (i : TypeInfo), Try.prog.underlying 25 = some (.slice e) → Try.prog.info? e = some i → i.zero = some zz → ∀ w, Kd.rep .bool 1 w zz.cells.toList false [] := by
  intro zz e i hu hi hz w
  have h1 : (Try.prog.underlying 25).bind (fun d => match d with | .slice e => (Try.prog.info? e).bind (fun i => i.zero) | _ => none) = some (.bool false) := by kernel_rfl
  rw [hu] at h1
  simp only [Option.bind_some, hi, hz, Option.some.injEq] at h1
  subst h1
  exact Kd.closed .bool (o := 1) (w := w) (x := false) (hs := []) (bs := []) 0 false (Nat.le_refl 1) rfl .nil

mutual
def spec_l1New.j0 : Nat → Int → (List Int) → Option (Int × Int)
 | 0, _, _ => none
 | k + 1, x2_3, l0 => some (0, x2_3)
def spec_l1New.l0 : Nat → Int → Int → (List Int) → Option (Int × Int)
 | 0, _, _, _ => none
 | k + 1, x3_3, x3_4, l0 => if x3_4 < (l0.length : Int) then (if x3_4 < 4000 then (if 0 ≤ x3_4 then (spec_l1New.l0 k (andI (wrap64 ((wrap64 ((wrap64 (x3_3 * 131)) + (IntKind.i64.wrap (rdOf 0 l0 x3_4)))) + 7)) 1073741823) (wrap64 (x3_4 + 1)) l0) else none) else (spec_l1New.j0 k x3_3 l0)) else (spec_l1New.j0 k x3_3 l0)
end
def spec_l1New.f (k : Nat) (l0 : List Int) : Option (Int × Int) := spec_l1New.l0 k (wrap64 (10101 + (l0.length : Int))) 0 l0
set_option maxHeartbeats 4000000 in
set_option maxRecDepth 100000 in
theorem spec_l1New.ok (k : Nat) (l0 : List Int) (Al0 : Option Addr) (cl0 : Nat) (r0 : Int) (r1 : Int) (H : spec_l1New.f k l0 = some (r0, r1)) : Fn Try.prog 54 [.slice Al0 l0.length cl0] [] [.sl 0 (.int .u8) Al0 cl0 l0 0 false] (fun v bx en => ∃ rb0, v = .pointer (some ⟨rb0, 0, none⟩) ∧ bx = [⟨rb0, 119, [.slice Al0 l0.length cl0, .int .i64 r0, .int .i64 r1]⟩] ∧ en = []) := by
 refine fn_ 32 Try.func54 rfl rfl rfl (fun base T w0 => ?_)
 rw [spec_l1New.f] at H
 refine gs (rg (sv (EV.as rfl) rfl (re (gs (rg (sv (EV.mv rfl) rfl (sv (EV.ln rfl) rfl (sv (EV.add rfl rfl) rfl (sv (EV.as rfl) rfl (re ?_))))))))))
 refine jo (fun S => ∃ (m : Nat) (x2_3 : Int), spec_l1New.j0 m x2_3 l0 = some (r0, r1) ∧ S = ⟨[(0, .slice Al0 l0.length cl0), (3, .int .i64 x2_3)], [], [.sl 0 (.int .u8) Al0 cl0 l0 0 false]⟩) (fun S hS => ?_) (fun jh0 => ?_)
 ·
  clear H
  obtain ⟨m1, x2_3, H, rfl⟩ := hS
  rcases m1 with _ | m1
  · rw [spec_l1New.j0] at H; cases H
  rw [spec_l1New.j0] at H
  refine gs (rg (sv (EV.mv rfl) rfl (sv (EV.mv rfl) rfl (sv (EV.bd (v := .agg #[.slice Al0 l0.length cl0, .int .i64 0, .int .i64 x2_3]) rfl (by kernel_rfl)) rfl (so rfl (op_box (cs := [.slice Al0 l0.length cl0, .int .i64 0, .int .i64 x2_3]) rfl rfl rfl fun b31 => (sv (EV.as rfl) rfl (re (pr [2] [0] [0] rfl rfl rfl rfl ?_)))))))))
  cases H
  exact rt Try.func54 rfl (.tmp rfl .nil) rfl [0] [] rfl rfl rfl rfl rfl ⟨_, rfl, rfl, rfl⟩
 ·
  refine gs (rg (sv (EV.as rfl) rfl (re (gb ?_))))
  refine lo (fun kk S => ∃ (x3_3 : Int) (x3_4 : Int), spec_l1New.l0 kk x3_3 x3_4 l0 = some (r0, r1) ∧ S = ⟨[(0, .slice Al0 l0.length cl0), (3, .int .i64 x3_3), (4, .int .i64 x3_4)], [], [.sl 0 (.int .u8) Al0 cl0 l0 0 false]⟩) (fun S hS => ?_) (fun n0 ih0 S hS => ?_) ⟨wrap64 (10101 + (l0.length : Int)), 0, H, rfl⟩ (fun h => wk [0, 3, 4] [] [⟨0, 0, 0, false⟩] h)
  · clear H; obtain ⟨_, _, H, _⟩ := hS; rw [spec_l1New.l0] at H; cases H
  clear H
  obtain ⟨x3_3, x3_4, H, rfl⟩ := hS
  rw [spec_l1New.l0] at H
  refine gs (gs (rg (sv (EV.mv rfl) rfl (sv (EV.mv rfl) rfl (sv (EV.ln rfl) rfl (sv (EV.lss rfl rfl) rfl (sv (EV.mv rfl) rfl ?_)))))))
  revert H; refine ifsI ?_ ?_ <;> intro c2 H
  ·
   refine ts 12 rfl (dT c2) (sv (EV.mv rfl) rfl (sv (EV.lss rfl rfl) rfl (sv (EV.pt rfl rfl rfl) rfl (re ?_))))
   revert H; refine ifsI ?_ ?_ <;> intro c3 H
   ·
    refine gt rfl (dT c3) (gk (gs (gb (rg (sv (EV.mv rfl) rfl (sv (EV.mul rfl rfl) rfl (sv (EV.mv rfl) rfl (sv (EV.mv rfl) rfl ?_))))))))
    revert H; refine ggI ?_; intro g4 H
    exact sv (EV.ix 0 rfl rfl rfl g4 c2 rfl) rfl (sv (EV.le (v := .int .u8 (rdOf 0 l0 x3_4)) x3_4 0 none 0 0 rfl rfl rfl g4 c2 rfl rfl rfl) rfl (sv (EV.cv (k' := .i64) rfl) rfl (sv (EV.add rfl rfl) rfl (sv (EV.add rfl rfl) rfl (sv (EV.andI rfl rfl) rfl (sv (EV.as rfl) rfl (re (pr [0, 3, 4, 13, 14] [] [0] rfl rfl rfl rfl (ge (rg (sv (EV.mv rfl) rfl (sv (EV.add rfl rfl) rfl (sv (EV.as rfl) rfl (re (wk [0, 3, 4] [] [⟨0, 0, 0, false⟩] (ih0 _ (by omega) _ ⟨andI (wrap64 ((wrap64 ((wrap64 (x3_3 * 131)) + (IntKind.i64.wrap (rdOf 0 l0 x3_4)))) + 7)) 1073741823, wrap64 (x3_4 + 1), H, rfl⟩))))))))))))))))
   ·
    exact gf rfl (dF c3) (gx rfl (wk [0, 3] [] [⟨0, 0, 0, false⟩] (jh0 _ ⟨_, x3_3, H, rfl⟩)))
  ·
   exact ts 12 rfl (dF c2) (sk rfl (sk rfl (sv (EV.pf rfl rfl rfl) rfl (re (pr [0, 3, 4, 15] [] [0] rfl rfl rfl rfl (gf rfl rfl (gx rfl (wk [0, 3] [] [⟨0, 0, 0, false⟩] (jh0 _ ⟨_, x3_3, H, rfl⟩)))))))))
def spec_l1Byte.f (l0_0 : List Int) (a0_1 : Int) (a0_2 : Int) : Option (Int × Int × Int) := if a0_1 < (l0_0.length : Int) then (if 0 ≤ a0_1 then (some (andI (wrap64 ((andI (xorI (shrI (wrap64 ((wrap64 (a0_2 * 6364136223846793005)) + 1442695040888963407)) 33) (shrI (wrap64 ((wrap64 (a0_2 * 6364136223846793005)) + 1442695040888963407)) 45)) 255) + (IntKind.i64.wrap (rdOf 0 l0_0 a0_1)))) 255, wrap64 (a0_1 + 1), wrap64 ((wrap64 (a0_2 * 6364136223846793005)) + 1442695040888963407))) else none) else (some (andI (xorI (shrI (wrap64 ((wrap64 (a0_2 * 6364136223846793005)) + 1442695040888963407)) 33) (shrI (wrap64 ((wrap64 (a0_2 * 6364136223846793005)) + 1442695040888963407)) 45)) 255, a0_1, wrap64 ((wrap64 (a0_2 * 6364136223846793005)) + 1442695040888963407)))
set_option maxHeartbeats 4000000 in
set_option maxRecDepth 100000 in
theorem spec_l1Byte.ok (b1000 : Nat) (l0_0 : List Int) (Al0_0 : Option Addr) (cl0_0 : Nat) (a0_1 : Int) (a0_2 : Int) (r0 : Int) (r1 : Int) (r2 : Int) (H : spec_l1Byte.f l0_0 a0_1 a0_2 = some (r0, r1, r2)) : Fn Try.prog 109 [.pointer (some ⟨b1000, 0, none⟩)] [⟨b1000, 119, [.slice Al0_0 l0_0.length cl0_0, .int .i64 a0_1, .int .i64 a0_2]⟩] [.sl 0 (.int .u8) Al0_0 cl0_0 l0_0 0 false] (fun v bx en => v = .int .i64 r0 ∧ bx = [⟨b1000, 119, [.slice Al0_0 l0_0.length cl0_0, .int .i64 r1, .int .i64 r2]⟩] ∧ en = []) := by
 refine fn_ 58 Try.func109 rfl rfl rfl (fun base T w0 => ?_)
 rw [spec_l1Byte.f] at H
 refine gs (rg (sv (EV.as rfl) rfl (re (gs (rg (sv (EV.mv rfl) rfl (sv (EV.mv rfl) rfl (sv (EV.nc rfl) rfl (sv (EV.fa 2 rfl) rfl (sv (EV.ld 0 none rfl rfl rfl) rfl (sv (EV.mul rfl rfl) rfl (sv (EV.add rfl rfl) rfl (sv (EV.nc rfl) rfl (sv (EV.fa 2 rfl) rfl (so rfl (op_st (cs' := [.slice Al0_0 l0_0.length cl0_0, .int .i64 a0_1, .int .i64 (wrap64 ((wrap64 (a0_2 * 6364136223846793005)) + 1442695040888963407))]) 0 rfl rfl rfl rfl rfl rfl (re (pr [0] [0] [0] rfl rfl rfl rfl (gs (dr [0] [0] [] 13 rfl rfl rfl rfl (xv 0 [0] [0] rfl (EV.mv rfl) rfl rfl rfl rfl (xv 1 [0] [0] rfl (EV.nc rfl) rfl rfl rfl rfl (xv 2 [0] [0] rfl (EV.fa 2 rfl) rfl rfl rfl rfl (xv 3 [0] [0] rfl (EV.ld 0 none rfl rfl rfl) rfl rfl rfl rfl (xv 4 [0] [0] rfl (EV.shr rfl rfl dq) rfl rfl rfl rfl (xv 5 [0] [0] rfl (EV.mv rfl) rfl rfl rfl rfl (xv 6 [0] [0] rfl (EV.nc rfl) rfl rfl rfl rfl (xv 7 [0] [0] rfl (EV.fa 2 rfl) rfl rfl rfl rfl (xv 8 [0] [0] rfl (EV.ld 0 none rfl rfl rfl) rfl rfl rfl rfl ?_)))))))))))))))))))))))))))))
 refine xv 9 [0] [0] rfl (EV.shr rfl rfl dq) rfl rfl rfl rfl (xv 10 [0] [0] rfl (EV.xorI rfl rfl) rfl rfl rfl rfl (xv 11 [0] [0] rfl (EV.andI rfl rfl) rfl rfl rfl rfl (xv 12 [0] [0] rfl (EV.as rfl) rfl rfl rfl rfl (xd (pr [0, 3] [0] [0] rfl rfl rfl rfl (gs (gs (dr [0] [0] [] 10 rfl rfl rfl rfl (xv 0 [0] [0] rfl (EV.mv rfl) rfl rfl rfl rfl (xv 1 [0] [0] rfl (EV.nc rfl) rfl rfl rfl rfl (xv 2 [0] [0] rfl (EV.fa 1 rfl) rfl rfl rfl rfl (xv 3 [0] [0] rfl (EV.ld 0 none rfl rfl rfl) rfl rfl rfl rfl (xv 4 [0] [0] rfl (EV.mv rfl) rfl rfl rfl rfl (xv 5 [0] [0] rfl (EV.nc rfl) rfl rfl rfl rfl (xv 6 [0] [0] rfl (EV.fa 0 rfl) rfl rfl rfl rfl (xv 7 [0] [0] rfl (EV.ld 0 none rfl rfl rfl) rfl rfl rfl rfl (xv 8 [0] [0] rfl (EV.ln rfl) rfl rfl rfl rfl (xv 9 [0] [0] rfl (EV.lss rfl rfl) rfl rfl rfl rfl (xd (pr [0, 3, 34] [0] [0] rfl rfl rfl rfl ?_))))))))))))))))))))
 revert H; refine ifsI ?_ ?_ <;> intro c1 H
 ·
  refine gt rfl (dT c1) (gs ?_)
  revert H; refine ggI ?_; intro g2 H
  refine dr [0] [0] [] 15 rfl rfl rfl rfl (xv 0 [0] [0] rfl (EV.mv rfl) rfl rfl rfl rfl (xv 1 [0] [0] rfl (EV.mv rfl) rfl rfl rfl rfl (xv 2 [0] [0] rfl (EV.nc rfl) rfl rfl rfl rfl (xv 3 [0] [0] rfl (EV.fa 0 rfl) rfl rfl rfl rfl (xv 4 [0] [0] rfl (EV.ld 0 none rfl rfl rfl) rfl rfl rfl rfl (xv 5 [0] [0] rfl (EV.mv rfl) rfl rfl rfl rfl (xv 6 [0] [0] rfl (EV.nc rfl) rfl rfl rfl rfl (xv 7 [0] [0] rfl (EV.fa 1 rfl) rfl rfl rfl rfl (xv 8 [0] [0] rfl (EV.ld 0 none rfl rfl rfl) rfl rfl rfl rfl (xv 9 [0] [0] rfl (EV.ix 0 rfl rfl rfl g2 c1 rfl) rfl rfl rfl rfl (xv 10 [0] [0] rfl (EV.le (v := .int .u8 (rdOf 0 l0_0 a0_1)) a0_1 0 none 0 0 rfl rfl rfl g2 c1 rfl rfl rfl) rfl rfl rfl rfl (xv 11 [0] [0] rfl (EV.cv (k' := .i64) rfl) rfl rfl rfl rfl (xv 12 [0] [0] rfl (EV.add rfl rfl) rfl rfl rfl rfl (xv 13 [0] [0] rfl (EV.andI rfl rfl) rfl rfl rfl rfl (xv 14 [0] [0] rfl (EV.as rfl) rfl rfl rfl rfl (xd (pr [0, 3] [0] [0] rfl rfl rfl rfl (rg (sv (EV.mv rfl) rfl (sv (EV.mv rfl) rfl (sv (EV.nc rfl) rfl (sv (EV.fa 1 rfl) rfl (sv (EV.ld 0 none rfl rfl rfl) rfl (sv (EV.add rfl rfl) rfl (sv (EV.nc rfl) rfl (sv (EV.fa 1 rfl) rfl (so rfl (op_st (cs' := [.slice Al0_0 l0_0.length cl0_0, .int .i64 (wrap64 (a0_1 + 1)), .int .i64 (wrap64 ((wrap64 (a0_2 * 6364136223846793005)) + 1442695040888963407))]) 0 rfl rfl rfl rfl rfl rfl (re ?_)))))))))))))))))))))))))))))
  refine pr [3] [0] [0] rfl rfl rfl rfl (gs (rg (sv (EV.mv rfl) rfl (sv (EV.as rfl) rfl (re ?_)))))
  cases H
  exact rt Try.func109 rfl (.tmp rfl .nil) rfl [0] [] rfl rfl rfl rfl rfl ⟨rfl, rfl, rfl⟩
 ·
  refine gf rfl (dF c1) (gk (gs (rg (sv (EV.mv rfl) rfl (sv (EV.as rfl) rfl (re ?_))))))
  cases H
  exact rt Try.func109 rfl (.tmp rfl .nil) rfl [0] [] rfl rfl rfl rfl rfl ⟨rfl, rfl, rfl⟩
def spec_l1Below.f (l0_0 : List Int) (a0_1 : Int) (a0_2 : Int) (a1 : Int) : Option (Int × Int × Int) := if a1 ≤ 0 then (some (0, a0_1, a0_2)) else (if a1 ≤ 256 then ((spec_l1Byte.f l0_0 a0_1 a0_2).bind fun bt3 => (if a1 ≠ 0 then (some (Int.tmod bt3.1 a1, bt3.2.1, bt3.2.2)) else none)) else ((spec_l1Byte.f l0_0 a0_1 a0_2).bind fun bt5 => ((spec_l1Byte.f l0_0 bt5.2.1 bt5.2.2).bind fun bt6 => ((spec_l1Byte.f l0_0 bt6.2.1 bt6.2.2).bind fun bt7 => ((spec_l1Byte.f l0_0 bt7.2.1 bt7.2.2).bind fun bt8 => (if a1 ≠ 0 then (some (Int.tmod (wrap64 ((wrap64 ((wrap64 ((wrap64 (bt5.1 * 16777216)) + (wrap64 (bt6.1 * 65536)))) + (wrap64 (bt7.1 * 256)))) + bt8.1)) a1, bt8.2.1, bt8.2.2)) else none))))))
set_option maxHeartbeats 4000000 in
set_option maxRecDepth 100000 in
theorem spec_l1Below.ok (b1000 : Nat) (l0_0 : List Int) (Al0_0 : Option Addr) (cl0_0 : Nat) (a0_1 : Int) (a0_2 : Int) (a1 : Int) (r0 : Int) (r1 : Int) (r2 : Int) (H : spec_l1Below.f l0_0 a0_1 a0_2 a1 = some (r0, r1, r2)) : Fn Try.prog 99 [.pointer (some ⟨b1000, 0, none⟩), .int .i64 a1] [⟨b1000, 119, [.slice Al0_0 l0_0.length cl0_0, .int .i64 a0_1, .int .i64 a0_2]⟩] [.sl 0 (.int .u8) Al0_0 cl0_0 l0_0 0 false] (fun v bx en => v = .int .i64 r0 ∧ bx = [⟨b1000, 119, [.slice Al0_0 l0_0.length cl0_0, .int .i64 r1, .int .i64 r2]⟩] ∧ en = []) := by
 refine fn_ 37 Try.func99 rfl rfl rfl (fun base T w0 => ?_)
 rw [spec_l1Below.f] at H
 refine gs (rg (sv (EV.as rfl) rfl (re (gs (gs (rg (sv (EV.mv rfl) rfl (sv (EV.leq rfl rfl) rfl (re ?_)))))))))
 revert H; refine ifsI ?_ ?_ <;> intro c1 H
 ·
  refine gt rfl (dT c1) (gs (rg (sv (EV.as rfl) rfl (re ?_))))
  cases H
  exact rt Try.func99 rfl (.tmp rfl .nil) rfl [0] [] rfl rfl rfl rfl rfl ⟨rfl, rfl, rfl⟩
 ·
  refine gf rfl (dF c1) (gk (gs (gs (rg (sv (EV.mv rfl) rfl (sv (EV.leq rfl rfl) rfl (re ?_)))))))
  revert H; refine ifsI ?_ ?_ <;> intro c2 H
  ·
   refine gt rfl (dT c2) (gs (rg (sv (EV.mv rfl) rfl ?_)))
   revert H; refine bdI ?_; rintro ⟨t3_0, t3_1, t3_2⟩ A3 H
   refine so rfl (op_callM (spec_l1Byte.ok b1000 l0_0 Al0_0 cl0_0 a0_1 a0_2 _ _ _ A3) [⟨0, 0, 0, false⟩] [0] [] 1 rfl rfl rfl rfl rfl rfl rfl rfl ?_)
   rintro _ _ _ ⟨rfl, rfl, rfl⟩
   refine nmE (en := [.sl 0 (.int .u8) Al0_0 cl0_0 l0_0 0 false]) (by kernel_rfl) (sv (EV.mv rfl) rfl ?_)
   revert H; refine ggI ?_; intro g4 H
   refine sv (EV.rem rfl rfl g4) rfl (sv (EV.as rfl) rfl (re (pr [4] [0] [0] rfl rfl rfl rfl ?_)))
   cases H
   exact rt Try.func99 rfl (.tmp rfl .nil) rfl [0] [] rfl rfl rfl rfl rfl ⟨rfl, rfl, rfl⟩
  ·
   refine gf rfl (dF c2) (gk (gs (rg (sv (EV.mv rfl) rfl ?_))))
   revert H; refine bdI ?_; rintro ⟨t5_0, t5_1, t5_2⟩ A5 H
   refine so rfl (op_callM (spec_l1Byte.ok b1000 l0_0 Al0_0 cl0_0 a0_1 a0_2 _ _ _ A5) [⟨0, 0, 0, false⟩] [0] [] 1 rfl rfl rfl rfl rfl rfl rfl rfl ?_)
   rintro _ _ _ ⟨rfl, rfl, rfl⟩
   refine nmE (en := [.sl 0 (.int .u8) Al0_0 cl0_0 l0_0 0 false]) (by kernel_rfl) (sv (EV.as rfl) rfl (re (pr [0, 1, 5] [0] [0] rfl rfl rfl rfl (gs (rg (sv (EV.mv rfl) rfl ?_))))))
   revert H; refine bdI ?_; rintro ⟨t6_0, t6_1, t6_2⟩ A6 H
   refine so rfl (op_callM (spec_l1Byte.ok b1000 l0_0 Al0_0 cl0_0 t5_1 t5_2 _ _ _ A6) [⟨0, 0, 0, false⟩] [0] [] 1 rfl rfl rfl rfl rfl rfl rfl rfl ?_)
   rintro _ _ _ ⟨rfl, rfl, rfl⟩
   refine nmE (en := [.sl 0 (.int .u8) Al0_0 cl0_0 l0_0 0 false]) (by kernel_rfl) (sv (EV.as rfl) rfl (re (gs (rg (sv (EV.mv rfl) rfl ?_)))))
   revert H; refine bdI ?_; rintro ⟨t7_0, t7_1, t7_2⟩ A7 H
   refine so rfl (op_callM (spec_l1Byte.ok b1000 l0_0 Al0_0 cl0_0 t6_1 t6_2 _ _ _ A7) [⟨0, 0, 0, false⟩] [0] [] 1 rfl rfl rfl rfl rfl rfl rfl rfl ?_)
   rintro _ _ _ ⟨rfl, rfl, rfl⟩
   refine nmE (en := [.sl 0 (.int .u8) Al0_0 cl0_0 l0_0 0 false]) (by kernel_rfl) (sv (EV.as rfl) rfl (re (gs (rg (sv (EV.mv rfl) rfl ?_)))))
   revert H; refine bdI ?_; rintro ⟨t8_0, t8_1, t8_2⟩ A8 H
   refine so rfl (op_callM (spec_l1Byte.ok b1000 l0_0 Al0_0 cl0_0 t7_1 t7_2 _ _ _ A8) [⟨0, 0, 0, false⟩] [0] [] 1 rfl rfl rfl rfl rfl rfl rfl rfl ?_)
   rintro _ _ _ ⟨rfl, rfl, rfl⟩
   refine nmE (en := [.sl 0 (.int .u8) Al0_0 cl0_0 l0_0 0 false]) (by kernel_rfl) (sv (EV.as rfl) rfl (re (pr [1, 5, 6, 7, 8] [0] [0] rfl rfl rfl rfl (gs (rg (sv (EV.mv rfl) rfl (sv (EV.mul rfl rfl) rfl (sv (EV.mv rfl) rfl (sv (EV.mul rfl rfl) rfl (sv (EV.add rfl rfl) rfl (sv (EV.mv rfl) rfl (sv (EV.mul rfl rfl) rfl (sv (EV.add rfl rfl) rfl (sv (EV.mv rfl) rfl (sv (EV.add rfl rfl) rfl (sv (EV.mv rfl) rfl ?_))))))))))))))))
   revert H; refine ggI ?_; intro g9 H
   refine sv (EV.rem rfl rfl g9) rfl (sv (EV.as rfl) rfl (re (pr [4] [0] [0] rfl rfl rfl rfl ?_)))
   cases H
   exact rt Try.func99 rfl (.tmp rfl .nil) rfl [0] [] rfl rfl rfl rfl rfl ⟨rfl, rfl, rfl⟩
def spec_l1PickInt.f (l0_0 : List Int) (a0_1 : Int) (a0_2 : Int) (l1 : List Int) : Option (Int × Int × Int) := (spec_l1Below.f l0_0 a0_1 a0_2 (l1.length : Int)).bind fun bt1 => (if 0 ≤ bt1.1 then (if bt1.1 < (l1.length : Int) then (some (rdOf 0 l1 bt1.1, bt1.2.1, bt1.2.2)) else none) else none)
set_option maxHeartbeats 4000000 in
set_option maxRecDepth 100000 in
theorem spec_l1PickInt.ok (b1000 : Nat) (l0_0 : List Int) (Al0_0 : Option Addr) (cl0_0 : Nat) (a0_1 : Int) (a0_2 : Int) (l1 : List Int) (Al1 : Option Addr) (cl1 : Nat) (r0 : Int) (r1 : Int) (r2 : Int) (H : spec_l1PickInt.f l0_0 a0_1 a0_2 l1 = some (r0, r1, r2)) : Fn Try.prog 100 [.pointer (some ⟨b1000, 0, none⟩), .slice Al1 l1.length cl1] [⟨b1000, 119, [.slice Al0_0 l0_0.length cl0_0, .int .i64 a0_1, .int .i64 a0_2]⟩] [.sl 0 (.int .u8) Al0_0 cl0_0 l0_0 0 false, .sl 0 (.int .i64) Al1 cl1 l1 0 false] (fun v bx en => v = .int .i64 r0 ∧ bx = [⟨b1000, 119, [.slice Al0_0 l0_0.length cl0_0, .int .i64 r1, .int .i64 r2]⟩] ∧ en = []) := by
 refine fn_ 12 Try.func100 rfl rfl rfl (fun base T w0 => ?_)
 rw [spec_l1PickInt.f] at H
 refine gs (rg (sv (EV.as rfl) rfl (re (gs (rg (sv (EV.mv rfl) rfl (sv (EV.mv rfl) rfl (sv (EV.mv rfl) rfl (sv (EV.ln rfl) rfl ?_)))))))))
 revert H; refine bdI ?_; rintro ⟨t1_0, t1_1, t1_2⟩ A1 H
 refine so rfl (op_callM (spec_l1Below.ok b1000 l0_0 Al0_0 cl0_0 a0_1 a0_2 (l1.length : Int) _ _ _ A1) [⟨0, 0, 0, false⟩] [0] [] 1 rfl rfl rfl rfl rfl rfl rfl rfl ?_)
 rintro _ _ _ ⟨rfl, rfl, rfl⟩
 refine nmE (en := [.sl 0 (.int .u8) Al0_0 cl0_0 l0_0 0 false, .sl 0 (.int .i64) Al1 cl1 l1 0 false]) (by kernel_rfl) ?_
 revert H; refine ggI ?_; intro g2 H
 revert H; refine ggI ?_; intro g3 H
 refine sv (EV.ix 1 rfl rfl rfl g2 g3 rfl) rfl (sv (EV.le (v := .int .i64 (rdOf 0 l1 t1_0)) t1_0 0 none 1 0 rfl rfl rfl g2 g3 rfl rfl rfl) rfl (sv (EV.as rfl) rfl (re (pr [4] [0] [0] rfl rfl rfl rfl ?_))))
 cases H
 exact rt Try.func100 rfl (.tmp rfl .nil) rfl [0] [] rfl rfl rfl rfl rfl ⟨rfl, rfl, rfl⟩
def spec_l2Row.f (l0_0 : List Int) (a0_1 : Int) (a0_2 : Int) (a1 : Int) : Option (Int × Int × Int × Int × Int) := (spec_l1Below.f l0_0 a0_1 a0_2 a1).bind fun bt1 => ((spec_l1Below.f l0_0 bt1.2.1 bt1.2.2 100).bind fun bt2 => ((spec_l1PickInt.f l0_0 bt2.2.1 bt2.2.2 ([0, 0, 1, 2, 3] : List Int)).bind fun bt4 => (some (bt1.1, bt2.1, bt4.1, bt4.2.1, bt4.2.2))))
set_option maxHeartbeats 4000000 in
set_option maxRecDepth 100000 in
theorem spec_l2Row.ok (b1000 : Nat) (l0_0 : List Int) (Al0_0 : Option Addr) (cl0_0 : Nat) (a0_1 : Int) (a0_2 : Int) (a1 : Int) (r0 : Int) (r1 : Int) (r2 : Int) (r3 : Int) (r4 : Int) (H : spec_l2Row.f l0_0 a0_1 a0_2 a1 = some (r0, r1, r2, r3, r4)) : Fn Try.prog 120 [.pointer (some ⟨b1000, 0, none⟩), .int .i64 a1] [⟨b1000, 119, [.slice Al0_0 l0_0.length cl0_0, .int .i64 a0_1, .int .i64 a0_2]⟩] [.sl 0 (.int .u8) Al0_0 cl0_0 l0_0 0 false] (fun v bx en => v = .agg #[.int .i64 r0, .int .i64 r1, .int .i64 r2] ∧ bx = [⟨b1000, 119, [.slice Al0_0 l0_0.length cl0_0, .int .i64 r3, .int .i64 r4]⟩] ∧ en = []) := by
 refine fn_ 14 Try.func120 rfl rfl rfl (fun base T w0 => ?_)
 rw [spec_l2Row.f] at H
 refine gs (rg (so rfl (op_alloc (cs := [.int .i64 0, .int .i64 0, .int .i64 0]) (by kernel_rfl) rfl fun b4 => (re (gs (rg (sv (EV.mv rfl) rfl (sv (EV.mv rfl) rfl ?_))))))))
 revert H; refine bdI ?_; rintro ⟨t1_0, t1_1, t1_2⟩ A1 H
 refine so rfl (op_callM (spec_l1Below.ok b1000 l0_0 Al0_0 cl0_0 a0_1 a0_2 a1 _ _ _ A1) [⟨0, 0, 0, false⟩] [0] [1] 1 rfl rfl rfl rfl rfl rfl rfl rfl ?_)
 rintro _ _ _ ⟨rfl, rfl, rfl⟩
 refine nmE (en := [.sl 0 (.int .u8) Al0_0 cl0_0 l0_0 0 false]) (by kernel_rfl) (sv (EV.mv rfl) rfl ?_)
 revert H; refine bdI ?_; rintro ⟨t2_0, t2_1, t2_2⟩ A2 H
 refine so rfl (op_callM (spec_l1Below.ok b1000 l0_0 Al0_0 cl0_0 t1_1 t1_2 100 _ _ _ A2) [⟨0, 0, 0, false⟩] [1] [0] 1 rfl rfl rfl rfl rfl rfl rfl rfl ?_)
 rintro _ _ _ ⟨rfl, rfl, rfl⟩
 refine nmE (en := [.sl 0 (.int .u8) Al0_0 cl0_0 l0_0 0 false]) (by kernel_rfl) (sv (EV.mv rfl) rfl (so rfl (op_lit (s := 1) (by_ := 8) (.int .i64) ([0, 0, 1, 2, 3] : List Int) [[], [], [], [], []] [] 1 [.const (.int .i64 0), .const (.int .i64 0), .const (.int .i64 1), .const (.int .i64 2), .const (.int .i64 3)] rfl rfl rfl rfl rfl rfl rfl rfl rfl rfl rfl rfl rfl dq rfl fun A11_3 c11_3 => ?_)))
 revert H; refine bdI ?_; rintro ⟨t4_0, t4_1, t4_2⟩ A4 H
 refine so rfl (op_callM (spec_l1PickInt.ok b1000 l0_0 Al0_0 cl0_0 t2_1 t2_2 ([0, 0, 1, 2, 3] : List Int) A11_3 c11_3 _ _ _ A4) [⟨0, 0, 0, false⟩, ⟨1, 0, 0, false⟩] [1] [0] 2 rfl rfl rfl rfl rfl rfl rfl rfl ?_)
 rintro _ _ _ ⟨rfl, rfl, rfl⟩
 refine nmE (en := [.sl 0 (.int .u8) Al0_0 cl0_0 l0_0 0 false, .sl 2 (.int .i64) A11_3 c11_3 ([0, 0, 1, 2, 3] : List Int) 1 true]) (by kernel_rfl) (sv (EV.bd (v := .agg #[.int .i64 t1_0, .int .i64 t2_0, .int .i64 t4_0]) rfl (by kernel_rfl)) rfl (so rfl (op_st (cs' := [.int .i64 t1_0, .int .i64 t2_0, .int .i64 t4_0]) 0 rfl rfl rfl rfl rfl rfl (re (pr [4] [0, 1] [0] rfl rfl rfl rfl ?_)))))
 cases H
 exact rt Try.func120 rfl (.cell 0 (some 3) rfl rfl rfl .nil) rfl [1] [] rfl rfl rfl rfl rfl ⟨rfl, rfl, rfl⟩
def spec_l2Rows.l0 : Nat → (List S99) → Int → Int → Int → Int → (List Int) → Option ((List S99) × Int × Int)
 | 0, _, _, _, _, _, _ => none
 | k + 1, x2_5, x2_6, x2_7, x2_1000_1, x2_1000_2, l0_0 => if x2_7 > 0 then ((spec_l2Row.f l0_0 x2_1000_1 x2_1000_2 x2_6).bind fun bt6 => (if x2_5.length < 5864062014805 then (spec_l2Rows.l0 k (x2_5 ++ ([(⟨bt6.1, bt6.2.1, bt6.2.2.1⟩ : S99)] : List S99)) x2_6 (wrap64 (x2_7 - 1)) bt6.2.2.2.1 bt6.2.2.2.2 l0_0) else none)) else (some (x2_5, x2_1000_1, x2_1000_2))
def spec_l2Rows.f (k : Nat) (l0_0 : List Int) (a0_1 : Int) (a0_2 : Int) (a1 : Int) : Option ((List S99) × Int × Int) := (spec_l1PickInt.f l0_0 a0_1 a0_2 ([1, 2, 4, 10] : List Int)).bind fun bt3 => ((spec_l1Below.f l0_0 bt3.2.1 bt3.2.2 (wrap64 (a1 + 1))).bind fun bt4 => (spec_l2Rows.l0 k [] bt3.1 bt4.1 bt4.2.1 bt4.2.2 l0_0))
set_option maxHeartbeats 4000000 in
set_option maxRecDepth 100000 in
theorem spec_l2Rows.ok (k : Nat) (b1000 : Nat) (l0_0 : List Int) (Al0_0 : Option Addr) (cl0_0 : Nat) (a0_1 : Int) (a0_2 : Int) (a1 : Int) (r0 : List S99) (r1 : Int) (r2 : Int) (H : spec_l2Rows.f k l0_0 a0_1 a0_2 a1 = some (r0, r1, r2)) : Fn Try.prog 107 [.pointer (some ⟨b1000, 0, none⟩), .int .i64 a1] [⟨b1000, 119, [.slice Al0_0 l0_0.length cl0_0, .int .i64 a0_1, .int .i64 a0_2]⟩] [.sl 0 (.int .u8) Al0_0 cl0_0 l0_0 0 false] (fun v bx en => ∃ A0 c0, v = .slice A0 r0.length c0 ∧ bx = [⟨b1000, 119, [.slice Al0_0 l0_0.length cl0_0, .int .i64 r1, .int .i64 r2]⟩] ∧ en = [.sl 2 k99 A0 c0 r0 1 true]) := by
 refine fn_ 27 Try.func107 rfl rfl rfl (fun base T w0 => ?_)
 rw [spec_l2Rows.f] at H
 refine gs (rg (sv (EV.as rfl) rfl (re (gs (rg (so rfl (op_lit (s := 3) (by_ := 24) k99 ([] : List S99) [] [] 1 [] rfl rfl rfl rfl rfl rfl rfl rfl rfl rfl rfl rfl rfl dq rfl fun A8_1 c8_1 => (sv (EV.as rfl) rfl (re (gs (rg (sv (EV.mv rfl) rfl (so rfl (op_lit (s := 1) (by_ := 8) (.int .i64) ([1, 2, 4, 10] : List Int) [[], [], [], []] [] 2 [.const (.int .i64 1), .const (.int .i64 2), .const (.int .i64 4), .const (.int .i64 10)] rfl rfl rfl rfl rfl rfl rfl rfl rfl rfl rfl rfl rfl dq rfl fun A10_2 c10_2 => ?_))))))))))))))
 revert H; refine bdI ?_; rintro ⟨t3_0, t3_1, t3_2⟩ A3 H
 refine so rfl (op_callM (spec_l1PickInt.ok b1000 l0_0 Al0_0 cl0_0 a0_1 a0_2 ([1, 2, 4, 10] : List Int) A10_2 c10_2 _ _ _ A3) [⟨0, 0, 0, false⟩, ⟨2, 0, 0, false⟩] [0] [] 3 rfl rfl rfl rfl rfl rfl rfl rfl ?_)
 rintro _ _ _ ⟨rfl, rfl, rfl⟩
 refine nmE (en := [.sl 0 (.int .u8) Al0_0 cl0_0 l0_0 0 false, .sl 2 k99 A8_1 c8_1 [] 1 true, .sl 2 (.int .i64) A10_2 c10_2 ([1, 2, 4, 10] : List Int) 2 true]) (by kernel_rfl) (sv (EV.as rfl) rfl (re (gs (gs (rg (sv (EV.mv rfl) rfl (sv (EV.mv rfl) rfl (sv (EV.add rfl rfl) rfl ?_))))))))
 revert H; refine bdI ?_; rintro ⟨t4_0, t4_1, t4_2⟩ A4 H
 refine so rfl (op_callM (spec_l1Below.ok b1000 l0_0 Al0_0 cl0_0 t3_1 t3_2 (wrap64 (a1 + 1)) _ _ _ A4) [⟨0, 0, 0, false⟩] [0] [] 3 rfl rfl rfl rfl rfl rfl rfl rfl ?_)
 rintro _ _ _ ⟨rfl, rfl, rfl⟩
 refine nmE (en := [.sl 0 (.int .u8) Al0_0 cl0_0 l0_0 0 false, .sl 2 k99 A8_1 c8_1 [] 1 true, .sl 2 (.int .i64) A10_2 c10_2 ([1, 2, 4, 10] : List Int) 2 true]) (by kernel_rfl) (sv (EV.as rfl) rfl (re (pr [0, 5, 6, 7] [0] [0, 1] rfl rfl rfl rfl (gb ?_))))
 refine lo (fun kk S => ∃ (x2_5 : List S99) (Ax2_5 : Option Addr) (cx2_5 : Nat) (x2_6 : Int) (x2_7 : Int) (x2_1000_1 : Int) (x2_1000_2 : Int), spec_l2Rows.l0 kk x2_5 x2_6 x2_7 x2_1000_1 x2_1000_2 l0_0 = some (r0, r1, r2) ∧ S = ⟨[(0, .pointer (some ⟨b1000, 0, none⟩)), (5, .slice Ax2_5 x2_5.length cx2_5), (6, .int .i64 x2_6), (7, .int .i64 x2_7)], [⟨b1000, 119, [.slice Al0_0 l0_0.length cl0_0, .int .i64 x2_1000_1, .int .i64 x2_1000_2]⟩], [.sl 2 k99 Ax2_5 cx2_5 x2_5 1 true, .sl 0 (.int .u8) Al0_0 cl0_0 l0_0 0 false]⟩) (fun S hS => ?_) (fun n0 ih0 S hS => ?_) ⟨[], A8_1, c8_1, t3_0, t4_0, t4_1, t4_2, H, rfl⟩ (fun h => wk [0, 5, 6, 7] [0] [⟨1, 2, 1, true⟩, ⟨0, 0, 0, false⟩] h)
 · clear H; obtain ⟨_, _, _, _, _, _, _, H, _⟩ := hS; rw [spec_l2Rows.l0] at H; cases H
 clear H
 obtain ⟨x2_5, Ax2_5, cx2_5, x2_6, x2_7, x2_1000_1, x2_1000_2, H, rfl⟩ := hS
 rw [spec_l2Rows.l0] at H
 refine gs (gs (rg (sv (EV.mv rfl) rfl (sv (EV.gtr rfl rfl) rfl (re ?_)))))
 revert H; refine ifsI ?_ ?_ <;> intro c5 H
 ·
  refine gt rfl (dT c5) (gk (gs (gb (rg (sv (EV.mv rfl) rfl (sv (EV.mv rfl) rfl (sv (EV.mv rfl) rfl ?_)))))))
  revert H; refine bdI ?_; rintro ⟨t6_0, t6_1, t6_2, t6_3, t6_4⟩ A6 H
  refine so rfl (op_callM (spec_l2Row.ok b1000 l0_0 Al0_0 cl0_0 x2_1000_1 x2_1000_2 x2_6 _ _ _ _ _ A6) [⟨1, 0, 0, false⟩] [0] [] 2 rfl rfl rfl rfl rfl rfl rfl rfl ?_)
  rintro _ _ _ ⟨rfl, rfl, rfl⟩
  refine nmE (en := [.sl 2 k99 Ax2_5 cx2_5 x2_5 1 true, .sl 0 (.int .u8) Al0_0 cl0_0 l0_0 0 false]) (by kernel_rfl) (so rfl (op_lit (s := 3) (by_ := 24) k99 ([(⟨t6_0, t6_1, t6_2⟩ : S99)] : List S99) [[]] [] 2 [.tmp 23] rfl rfl rfl rfl rfl rfl rfl rfl rfl rfl rfl rfl rfl dq rfl fun A24_7 c24_7 => ?_))
  revert H; refine ggI ?_; intro g8 H
  exact so rfl (op_app (k := k99) (s := 3) (by_ := 24) 0 2 rfl rfl rfl rfl (ap1 g8 dq) (ap1n g8 dq) (.inl rfl) true (fun _ => .inl rfl) rfl rfl fun A25_9 c25_9 => (nmE (en := [.sl 0 (.int .u8) Al0_0 cl0_0 l0_0 0 false, .sl 2 k99 A24_7 c24_7 ([(⟨t6_0, t6_1, t6_2⟩ : S99)] : List S99) 2 true, .sl 2 k99 A25_9 c25_9 (x2_5 ++ ([(⟨t6_0, t6_1, t6_2⟩ : S99)] : List S99)) 1 true]) (by kernel_rfl) (sv (EV.as rfl) rfl (re (pr [0, 5, 6, 7] [0] [0, 2] rfl rfl rfl rfl (ge (rg (sv (EV.mv rfl) rfl (sv (EV.sub rfl rfl) rfl (sv (EV.as rfl) rfl (re (wk [0, 5, 6, 7] [0] [⟨1, 2, 1, true⟩, ⟨0, 0, 0, false⟩] (ih0 _ (by omega) _ ⟨x2_5 ++ ([(⟨t6_0, t6_1, t6_2⟩ : S99)] : List S99), A25_9, c25_9, x2_6, wrap64 (x2_7 - 1), t6_3, t6_4, H, rfl⟩)))))))))))))
 ·
  refine gf rfl (dF c5) (gx rfl (gs (rg (sv (EV.mv rfl) rfl (sv (EV.as rfl) rfl (re (pr [4] [0] [0, 1] rfl rfl rfl rfl ?_)))))))
  cases H
  exact rt Try.func107 rfl (.tmp rfl .nil) rfl [0] [⟨0, 2, 1, true⟩] rfl rfl rfl rfl rfl ⟨_, _, rfl, rfl, rfl⟩
def spec_l1In.f (a0 : Int) (a1 : Int) (a2 : Int) : Option (Bool) := if a0 ≥ a1 then (some (decide (a0 ≤ a2))) else (some false)
set_option maxHeartbeats 4000000 in
set_option maxRecDepth 100000 in
theorem spec_l1In.ok (a0 : Int) (a1 : Int) (a2 : Int) (r0 : Bool) (H : spec_l1In.f a0 a1 a2 = some r0) : Fn Try.prog 78 [.int .i64 a0, .int .i64 a1, .int .i64 a2] [] [] (fun v bx en => v = .bool r0 ∧ bx = [] ∧ en = []) := by
 refine fn_ 15 Try.func78 rfl rfl rfl (fun base T w0 => ?_)
 rw [spec_l1In.f] at H
 refine gs (rg (sv (EV.as rfl) rfl (re (gs (rg (sv (EV.mv rfl) rfl (sv (EV.mv rfl) rfl (sv (EV.geq rfl rfl) rfl (sv (EV.mv rfl) rfl ?_)))))))))
 revert H; refine ifsI ?_ ?_ <;> intro c1 H
 ·
  refine ts 10 rfl (dT c1) (sv (EV.mv rfl) rfl (sv (EV.mv rfl) rfl (sv (EV.leq rfl rfl) rfl (sv (EV.pt rfl rfl rfl) rfl (sv (EV.as rfl) rfl (re (pr [6] [] [] rfl rfl rfl rfl ?_)))))))
  cases H
  exact rt Try.func78 rfl (.tmp rfl .nil) rfl [] [] rfl rfl rfl rfl rfl ⟨rfl, rfl, rfl⟩
 ·
  refine ts 10 rfl (dF c1) (sk rfl (sk rfl (sk rfl (sv (EV.pf rfl rfl rfl) rfl (sv (EV.as rfl) rfl (re (pr [6] [] [] rfl rfl rfl rfl ?_)))))))
  cases H
  exact rt Try.func78 rfl (.tmp rfl .nil) rfl [] [] rfl rfl rfl rfl rfl ⟨rfl, rfl, rfl⟩
def spec_IsValidJoinKind.f (a0 : Int) : Option (Bool) := (spec_l1In.f a0 1 4).bind fun t1 => (some t1)
set_option maxHeartbeats 4000000 in
set_option maxRecDepth 100000 in
theorem spec_IsValidJoinKind.ok (a0 : Int) (r0 : Bool) (H : spec_IsValidJoinKind.f a0 = some r0) : Fn Try.prog 76 [.int .i64 a0] [] [] (fun v bx en => v = .bool r0 ∧ bx = [] ∧ en = []) := by
 refine fn_ 5 Try.func76 rfl rfl rfl (fun base T w0 => ?_)
 rw [spec_IsValidJoinKind.f] at H
 refine gs (rg (sv (EV.as rfl) rfl (re (gs (rg (sv (EV.mv rfl) rfl ?_))))))
 revert H; refine bdI ?_; rintro t1 A1 H
 refine so rfl (op_call (spec_l1In.ok a0 1 4 _ A1) [] 1 rfl rfl rfl rfl rfl ?_)
 rintro _ _ _ ⟨rfl, rfl, rfl⟩
 refine sv (EV.as rfl) rfl (re ?_)
 cases H
 exact rt Try.func76 rfl (.tmp rfl .nil) rfl [] [] rfl rfl rfl rfl rfl ⟨rfl, rfl, rfl⟩
def spec_IsValidRow.f (a0_0 : Int) (a0_1 : Int) (a0_2 : Int) : Option (Bool) := (spec_l1In.f a0_0 0 9).bind fun t1 => (if t1 = true then ((spec_l1In.f a0_1 0 99).bind fun t3 => (if t3 = true then ((spec_l1In.f a0_2 0 3).bind fun t5 => (some t5)) else (some false))) else (some false))
set_option maxHeartbeats 4000000 in
set_option maxRecDepth 100000 in
theorem spec_IsValidRow.ok (a0_0 : Int) (a0_1 : Int) (a0_2 : Int) (r0 : Bool) (H : spec_IsValidRow.f a0_0 a0_1 a0_2 = some r0) : Fn Try.prog 114 [.agg #[.int .i64 a0_0, .int .i64 a0_1, .int .i64 a0_2]] [] [] (fun v bx en => v = .bool r0 ∧ bx = [] ∧ en = []) := by
 refine fn_ 16 Try.func114 rfl rfl rfl (fun base T w0 => ?_)
 rw [spec_IsValidRow.f] at H
 refine gs (rg (so rfl (op_box (cs := [.int .i64 a0_0, .int .i64 a0_1, .int .i64 a0_2]) rfl rfl rfl fun b1 => (sv (EV.as rfl) rfl (re (gs (rg (sv (EV.fa 0 rfl) rfl (sv (EV.ld 0 none rfl rfl rfl) rfl ?_)))))))))
 revert H; refine bdI ?_; rintro t1 A1 H
 refine so rfl (op_call (spec_l1In.ok a0_0 0 9 _ A1) [] 1 rfl rfl rfl rfl rfl ?_)
 rintro _ _ _ ⟨rfl, rfl, rfl⟩
 refine sv (EV.mv rfl) rfl ?_
 revert H; refine ifsI ?_ ?_ <;> intro c2 H
 ·
  subst c2
  refine ts 6 rfl rfl (sv (EV.fa 1 rfl) rfl (sv (EV.ld 0 none rfl rfl rfl) rfl ?_))
  revert H; refine bdI ?_; rintro t3 A3 H
  refine so rfl (op_call (spec_l1In.ok a0_1 0 99 _ A3) [] 1 rfl rfl rfl rfl rfl ?_)
  rintro _ _ _ ⟨rfl, rfl, rfl⟩
  refine sv (EV.pt rfl rfl rfl) rfl (sv (EV.mv rfl) rfl ?_)
  revert H; refine ifsI ?_ ?_ <;> intro c4 H
  ·
   subst c4
   refine ts 11 rfl rfl (sv (EV.fa 2 rfl) rfl (sv (EV.ld 0 none rfl rfl rfl) rfl ?_))
   revert H; refine bdI ?_; rintro t5 A5 H
   refine so rfl (op_call (spec_l1In.ok a0_2 0 3 _ A5) [] 1 rfl rfl rfl rfl rfl ?_)
   rintro _ _ _ ⟨rfl, rfl, rfl⟩
   refine sv (EV.pt rfl rfl rfl) rfl (sv (EV.as rfl) rfl (re (pr [2] [] [] rfl rfl rfl rfl ?_)))
   cases H
   exact rt Try.func114 rfl (.tmp rfl .nil) rfl [] [] rfl rfl rfl rfl rfl ⟨rfl, rfl, rfl⟩
  ·
   obtain rfl := bF c4
   refine ts 11 rfl rfl (sk rfl (sk rfl (sk rfl (sv (EV.pf rfl rfl rfl) rfl (sv (EV.as rfl) rfl (re (pr [2] [] [] rfl rfl rfl rfl ?_)))))))
   cases H
   exact rt Try.func114 rfl (.tmp rfl .nil) rfl [] [] rfl rfl rfl rfl rfl ⟨rfl, rfl, rfl⟩
 ·
  obtain rfl := bF c2
  refine ts 6 rfl rfl (sk rfl (sk rfl (sk rfl (sv (EV.pf rfl rfl rfl) rfl (sv (EV.mv rfl) rfl (sk rfl (sk rfl (sk rfl (sv (EV.pf rfl rfl rfl) rfl (sv (EV.as rfl) rfl (re (pr [2] [] [] rfl rfl rfl rfl ?_))))))))))))
  cases H
  exact rt Try.func114 rfl (.tmp rfl .nil) rfl [] [] rfl rfl rfl rfl rfl ⟨rfl, rfl, rfl⟩
def spec_AreValidRows.l0 : Nat → Int → (List S99) → Option (Bool)
 | 0, _, _ => none
 | k + 1, x2_3, l0 => if x2_3 < (l0.length : Int) then (if 0 ≤ x2_3 then ((spec_IsValidRow.f ((rd_T99 l0 x2_3).f0) ((rd_T99 l0 x2_3).f1) ((rd_T99 l0 x2_3).f2)).bind fun t3 => (if t3 = true then (spec_AreValidRows.l0 k (wrap64 (x2_3 + 1)) l0) else (some false))) else none) else (some (decide ((l0.length : Int) ≤ 24)))
def spec_AreValidRows.f (k : Nat) (l0 : List S99) : Option (Bool) := spec_AreValidRows.l0 k 0 l0
set_option maxHeartbeats 4000000 in
set_option maxRecDepth 100000 in
theorem spec_AreValidRows.ok (k : Nat) (l0 : List S99) (Al0 : Option Addr) (cl0 : Nat) (r0 : Bool) (H : spec_AreValidRows.f k l0 = some r0) : Fn Try.prog 77 [.slice Al0 l0.length cl0] [] [.sl 0 k99 Al0 cl0 l0 0 false] (fun v bx en => v = .bool r0 ∧ bx = [] ∧ en = []) := by
 refine fn_ 19 Try.func77 rfl rfl rfl (fun base T w0 => ?_)
 rw [spec_AreValidRows.f] at H
 refine gs (rg (sv (EV.as rfl) rfl (re (gs (gs (rg (sv (EV.as rfl) rfl (re (gb ?_)))))))))
 refine lo (fun kk S => ∃ (x2_3 : Int), spec_AreValidRows.l0 kk x2_3 l0 = some r0 ∧ S = ⟨[(0, .slice Al0 l0.length cl0), (3, .int .i64 x2_3)], [], [.sl 0 k99 Al0 cl0 l0 0 false]⟩) (fun S hS => ?_) (fun n0 ih0 S hS => ?_) ⟨0, H, rfl⟩ (fun h => wk [0, 3] [] [⟨0, 0, 0, false⟩] h)
 · clear H; obtain ⟨_, H, _⟩ := hS; rw [spec_AreValidRows.l0] at H; cases H
 clear H
 obtain ⟨x2_3, H, rfl⟩ := hS
 rw [spec_AreValidRows.l0] at H
 refine gs (gs (rg (sv (EV.mv rfl) rfl (sv (EV.mv rfl) rfl (sv (EV.ln rfl) rfl (sv (EV.lss rfl rfl) rfl (re ?_)))))))
 revert H; refine ifsI ?_ ?_ <;> intro c1 H
 ·
  refine gt rfl (dT c1) (gk (gs (gb (gs (rg (sv (EV.mv rfl) rfl (sv (EV.mv rfl) rfl ?_)))))))
  revert H; refine ggI ?_; intro g2 H
  refine sv (EV.ix 0 rfl rfl rfl g2 c1 rfl) rfl (sv (EV.le (v := .agg #[.int .i64 ((rd_T99 l0 x2_3).f0), .int .i64 ((rd_T99 l0 x2_3).f1), .int .i64 ((rd_T99 l0 x2_3).f2)]) x2_3 0 (some 3) 0 z99 rfl rfl rfl g2 c1 rfl rfl rfl) rfl ?_)
  revert H; refine bdI ?_; rintro t3 A3 H
  refine so rfl (op_call (spec_IsValidRow.ok ((rd_T99 l0 x2_3).f0) ((rd_T99 l0 x2_3).f1) ((rd_T99 l0 x2_3).f2) _ A3) [] 1 rfl rfl rfl rfl rfl ?_)
  rintro _ _ _ ⟨rfl, rfl, rfl⟩
  refine sv (EV.nt rfl) rfl (re (pr [0, 3, 15] [] [0] rfl rfl rfl rfl ?_))
  revert H; refine ifsI ?_ ?_ <;> intro c4 H
  ·
   subst c4
   exact gf rfl rfl (gk (ge (rg (sv (EV.mv rfl) rfl (sv (EV.add rfl rfl) rfl (sv (EV.as rfl) rfl (re (wk [0, 3] [] [⟨0, 0, 0, false⟩] (ih0 _ (by omega) _ ⟨wrap64 (x2_3 + 1), H, rfl⟩)))))))))
  ·
   obtain rfl := bF c4
   refine gt rfl rfl (gs (rg (sv (EV.as rfl) rfl (re ?_))))
   cases H
   exact rt Try.func77 rfl (.tmp rfl .nil) rfl [] [] rfl rfl rfl rfl rfl ⟨rfl, rfl, rfl⟩
 ·
  refine gf rfl (dF c1) (gx rfl (gs (rg (sv (EV.mv rfl) rfl (sv (EV.ln rfl) rfl (sv (EV.leq rfl rfl) rfl (sv (EV.as rfl) rfl (re (pr [2] [] [] rfl rfl rfl rfl ?_)))))))))
  cases H
  exact rt Try.func77 rfl (.tmp rfl .nil) rfl [] [] rfl rfl rfl rfl rfl ⟨rfl, rfl, rfl⟩
def spec_IsValidTask.f (k : Nat) (a0_0 : Int) (l0_1 : List S99) (l0_2 : List S99) (l0_3 : List Bool) (a0_4 : Int) : Option (Bool) := (spec_IsValidJoinKind.f a0_0).bind fun t1 => (if t1 = true then ((spec_AreValidRows.f k l0_1).bind fun t3 => (if t3 = true then ((spec_AreValidRows.f k l0_2).bind fun t5 => (if t5 = true then (if (l0_3.length : Int) = (l0_1.length : Int) then ((spec_l1In.f a0_4 0 4).bind fun t8 => (some t8)) else (some false)) else (some false))) else (some false))) else (some false))
set_option maxHeartbeats 4000000 in
set_option maxRecDepth 100000 in
theorem spec_IsValidTask.ok (k : Nat) (a0_0 : Int) (l0_1 : List S99) (Al0_1 : Option Addr) (cl0_1 : Nat) (l0_2 : List S99) (Al0_2 : Option Addr) (cl0_2 : Nat) (l0_3 : List Bool) (Al0_3 : Option Addr) (cl0_3 : Nat) (a0_4 : Int) (r0 : Bool) (H : spec_IsValidTask.f k a0_0 l0_1 l0_2 l0_3 a0_4 = some r0) : Fn Try.prog 19 [.agg #[.int .i64 a0_0, .slice Al0_1 l0_1.length cl0_1, .slice Al0_2 l0_2.length cl0_2, .slice Al0_3 l0_3.length cl0_3, .int .i64 a0_4]] [] [.sl 0 k99 Al0_1 cl0_1 l0_1 0 false, .sl 0 k99 Al0_2 cl0_2 l0_2 0 false, .sl 0 .bool Al0_3 cl0_3 l0_3 0 false] (fun v bx en => v = .bool r0 ∧ bx = [] ∧ en = []) := by
 refine fn_ 30 Try.func19 rfl rfl rfl (fun base T w0 => ?_)
 rw [spec_IsValidTask.f] at H
 refine gs (rg (so rfl (op_box (cs := [.int .i64 a0_0, .slice Al0_1 l0_1.length cl0_1, .slice Al0_2 l0_2.length cl0_2, .slice Al0_3 l0_3.length cl0_3, .int .i64 a0_4]) rfl rfl rfl fun b1 => (sv (EV.as rfl) rfl (re (gs (rg (sv (EV.fa 0 rfl) rfl (sv (EV.ld 0 none rfl rfl rfl) rfl ?_)))))))))
 revert H; refine bdI ?_; rintro t1 A1 H
 refine so rfl (op_call (spec_IsValidJoinKind.ok a0_0 _ A1) [] 1 rfl rfl rfl rfl rfl ?_)
 rintro _ _ _ ⟨rfl, rfl, rfl⟩
 refine sv (EV.mv rfl) rfl ?_
 revert H; refine ifsI ?_ ?_ <;> intro c2 H
 ·
  subst c2
  refine ts 6 rfl rfl (sv (EV.fa 1 rfl) rfl (sv (EV.ld 0 none rfl rfl rfl) rfl ?_))
  revert H; refine bdI ?_; rintro t3 A3 H
  refine so rfl (op_call (spec_AreValidRows.ok k l0_1 Al0_1 cl0_1 _ A3) [⟨0, 0, 0, false⟩] 1 rfl rfl rfl rfl rfl ?_)
  rintro _ _ _ ⟨rfl, rfl, rfl⟩
  refine sv (EV.pt rfl rfl rfl) rfl (sv (EV.mv rfl) rfl ?_)
  revert H; refine ifsI ?_ ?_ <;> intro c4 H
  ·
   subst c4
   refine ts 11 rfl rfl (sv (EV.fa 2 rfl) rfl (sv (EV.ld 0 none rfl rfl rfl) rfl ?_))
   revert H; refine bdI ?_; rintro t5 A5 H
   refine so rfl (op_call (spec_AreValidRows.ok k l0_2 Al0_2 cl0_2 _ A5) [⟨1, 0, 0, false⟩] 1 rfl rfl rfl rfl rfl ?_)
   rintro _ _ _ ⟨rfl, rfl, rfl⟩
   refine sv (EV.pt rfl rfl rfl) rfl (sv (EV.mv rfl) rfl ?_)
   revert H; refine ifsI ?_ ?_ <;> intro c6 H
   ·
    subst c6
    refine ts 16 rfl rfl (sv (EV.fa 3 rfl) rfl (sv (EV.ld 0 none rfl rfl rfl) rfl (sv (EV.ln rfl) rfl (sv (EV.fa 1 rfl) rfl (sv (EV.ld 0 none rfl rfl rfl) rfl (sv (EV.ln rfl) rfl (sv (EV.eql rfl rfl) rfl (sv (EV.pt rfl rfl rfl) rfl (sv (EV.mv rfl) rfl ?_)))))))))
    revert H; refine ifsI ?_ ?_ <;> intro c7 H
    ·
     refine ts 25 rfl (dT c7) (sv (EV.fa 4 rfl) rfl (sv (EV.ld 0 none rfl rfl rfl) rfl ?_))
     revert H; refine bdI ?_; rintro t8 A8 H
     refine so rfl (op_call (spec_l1In.ok a0_4 0 4 _ A8) [] 1 rfl rfl rfl rfl rfl ?_)
     rintro _ _ _ ⟨rfl, rfl, rfl⟩
     refine sv (EV.pt rfl rfl rfl) rfl (sv (EV.as rfl) rfl (re (pr [2] [] [] rfl rfl rfl rfl ?_)))
     cases H
     exact rt Try.func19 rfl (.tmp rfl .nil) rfl [] [] rfl rfl rfl rfl rfl ⟨rfl, rfl, rfl⟩
    ·
     refine ts 25 rfl (dF c7) (sk rfl (sk rfl (sk rfl (sv (EV.pf rfl rfl rfl) rfl (sv (EV.as rfl) rfl (re (pr [2] [] [] rfl rfl rfl rfl ?_)))))))
     cases H
     exact rt Try.func19 rfl (.tmp rfl .nil) rfl [] [] rfl rfl rfl rfl rfl ⟨rfl, rfl, rfl⟩
   ·
    obtain rfl := bF c6
    refine ts 16 rfl rfl (sk rfl (sk rfl (sk rfl (sk rfl (sk rfl (sk rfl (sk rfl (sv (EV.pf rfl rfl rfl) rfl (sv (EV.mv rfl) rfl (sk rfl (sk rfl (sk rfl (sv (EV.pf rfl rfl rfl) rfl (sv (EV.as rfl) rfl (re (pr [2] [] [] rfl rfl rfl rfl ?_))))))))))))))))
    cases H
    exact rt Try.func19 rfl (.tmp rfl .nil) rfl [] [] rfl rfl rfl rfl rfl ⟨rfl, rfl, rfl⟩
  ·
   obtain rfl := bF c4
   refine ts 11 rfl rfl (sk rfl (sk rfl (sk rfl (sv (EV.pf rfl rfl rfl) rfl (sv (EV.mv rfl) rfl (sk rfl (sk rfl (sk rfl (sk rfl (sk rfl (sk rfl (sk rfl (sv (EV.pf rfl rfl rfl) rfl (sv (EV.mv rfl) rfl (sk rfl (sk rfl (sk rfl (sv (EV.pf rfl rfl rfl) rfl (sv (EV.as rfl) rfl (re (pr [2] [] [] rfl rfl rfl rfl ?_)))))))))))))))))))))
   cases H
   exact rt Try.func19 rfl (.tmp rfl .nil) rfl [] [] rfl rfl rfl rfl rfl ⟨rfl, rfl, rfl⟩
 ·
  obtain rfl := bF c2
  refine ts 6 rfl rfl (sk rfl (sk rfl (sk rfl (sv (EV.pf rfl rfl rfl) rfl (sv (EV.mv rfl) rfl (sk rfl (sk rfl (sk rfl (sv (EV.pf rfl rfl rfl) rfl (sv (EV.mv rfl) rfl (sk rfl (sk rfl (sk rfl (sk rfl (sk rfl (sk rfl (sk rfl (sv (EV.pf rfl rfl rfl) rfl (sv (EV.mv rfl) rfl (sk rfl (sk rfl (sk rfl (sv (EV.pf rfl rfl rfl) rfl (sv (EV.as rfl) rfl (re (pr [2] [] [] rfl rfl rfl rfl ?_))))))))))))))))))))))))))
  cases H
  exact rt Try.func19 rfl (.tmp rfl .nil) rfl [] [] rfl rfl rfl rfl rfl ⟨rfl, rfl, rfl⟩
def spec_UnmatchedRows.l0 : Nat → (List S151) → Int → Int → Int → (List S99) → (List S99) → (List Bool) → Option ((List S151))
 | 0, _, _, _, _, _, _, _ => none
 | k + 1, x2_3, x2_4, x2_1_0, x2_1_4, l0_1, l0_2, l0_3 => if x2_4 < (l0_1.length : Int) then ((spec_IsValidTask.f k x2_1_0 l0_1 l0_2 l0_3 x2_1_4).bind fun t3 => (if t3 = true then (if 0 ≤ x2_4 then (if x2_4 < (l0_3.length : Int) then (if (rdOf false l0_3 x2_4) = true then (spec_UnmatchedRows.l0 k x2_3 (wrap64 (x2_4 + 1)) x2_1_0 x2_1_4 l0_1 l0_2 l0_3) else (if x2_1_0 = 3 then (if x2_3.length < 2513169434916 then (spec_UnmatchedRows.l0 k (x2_3 ++ ([(⟨(⟨(rd_T99 l0_1 x2_4).f0, (rd_T99 l0_1 x2_4).f1, (rd_T99 l0_1 x2_4).f2⟩ : S99), (⟨0, 0, 0⟩ : S99), false⟩ : S151)] : List S151)) (wrap64 (x2_4 + 1)) x2_1_0 x2_1_4 l0_1 l0_2 l0_3) else none) else (if x2_1_0 = 4 then (if x2_3.length < 2513169434916 then (spec_UnmatchedRows.l0 k (x2_3 ++ ([(⟨(⟨(rd_T99 l0_1 x2_4).f0, (rd_T99 l0_1 x2_4).f1, (rd_T99 l0_1 x2_4).f2⟩ : S99), (⟨0, 0, 0⟩ : S99), false⟩ : S151)] : List S151)) (wrap64 (x2_4 + 1)) x2_1_0 x2_1_4 l0_1 l0_2 l0_3) else none) else (spec_UnmatchedRows.l0 k x2_3 (wrap64 (x2_4 + 1)) x2_1_0 x2_1_4 l0_1 l0_2 l0_3)))) else none) else none) else (some x2_3))) else (some x2_3)
def spec_UnmatchedRows.f (k : Nat) (a0_0 : Int) (l0_1 : List S99) (l0_2 : List S99) (l0_3 : List Bool) (a0_4 : Int) : Option ((List S151)) := spec_UnmatchedRows.l0 k [] 0 a0_0 a0_4 l0_1 l0_2 l0_3
set_option maxHeartbeats 4000000 in
set_option maxRecDepth 100000 in
theorem spec_UnmatchedRows.ok (k : Nat) (a0_0 : Int) (l0_1 : List S99) (Al0_1 : Option Addr) (cl0_1 : Nat) (l0_2 : List S99) (Al0_2 : Option Addr) (cl0_2 : Nat) (l0_3 : List Bool) (Al0_3 : Option Addr) (cl0_3 : Nat) (a0_4 : Int) (r0 : List S151) (H : spec_UnmatchedRows.f k a0_0 l0_1 l0_2 l0_3 a0_4 = some r0) : Fn Try.prog 128 [.agg #[.int .i64 a0_0, .slice Al0_1 l0_1.length cl0_1, .slice Al0_2 l0_2.length cl0_2, .slice Al0_3 l0_3.length cl0_3, .int .i64 a0_4]] [] [.sl 0 k99 Al0_1 cl0_1 l0_1 0 false, .sl 0 k99 Al0_2 cl0_2 l0_2 0 false, .sl 0 .bool Al0_3 cl0_3 l0_3 0 false] (fun v bx en => ∃ A0 c0, v = .slice A0 r0.length c0 ∧ bx = [] ∧ en = [.sl 2 k151 A0 c0 r0 1 true]) := by
 refine fn_ 43 Try.func128 rfl rfl rfl (fun base T w0 => ?_)
 rw [spec_UnmatchedRows.f] at H
 refine gs (rg (so rfl (op_box (cs := [.int .i64 a0_0, .slice Al0_1 l0_1.length cl0_1, .slice Al0_2 l0_2.length cl0_2, .slice Al0_3 l0_3.length cl0_3, .int .i64 a0_4]) rfl rfl rfl fun b1 => (sv (EV.as rfl) rfl (re (gs (rg (so rfl (op_lit (s := 7) (by_ := 56) k151 ([] : List S151) [] [] 1 [] rfl rfl rfl rfl rfl rfl rfl rfl rfl rfl rfl rfl rfl dq rfl fun A5_1 c5_1 => (sv (EV.as rfl) rfl (re (gs (gs (rg (sv (EV.as rfl) rfl (re (gb ?_)))))))))))))))))
 refine lo (fun kk S => ∃ (x2_3 : List S151) (Ax2_3 : Option Addr) (cx2_3 : Nat) (x2_4 : Int) (x2_1_0 : Int) (x2_1_4 : Int), spec_UnmatchedRows.l0 kk x2_3 x2_4 x2_1_0 x2_1_4 l0_1 l0_2 l0_3 = some r0 ∧ S = ⟨[(1, .pointer (some ⟨b1, 0, none⟩)), (3, .slice Ax2_3 x2_3.length cx2_3), (4, .int .i64 x2_4)], [⟨b1, 27, [.int .i64 x2_1_0, .slice Al0_1 l0_1.length cl0_1, .slice Al0_2 l0_2.length cl0_2, .slice Al0_3 l0_3.length cl0_3, .int .i64 x2_1_4]⟩], [.sl 2 k151 Ax2_3 cx2_3 x2_3 1 true, .sl 0 k99 Al0_1 cl0_1 l0_1 0 false, .sl 0 k99 Al0_2 cl0_2 l0_2 0 false, .sl 0 .bool Al0_3 cl0_3 l0_3 0 false]⟩) (fun S hS => ?_) (fun n0 ih0 S hS => ?_) ⟨[], A5_1, c5_1, 0, a0_0, a0_4, H, rfl⟩ (fun h => wk [1, 3, 4] [0] [⟨3, 2, 1, true⟩, ⟨0, 0, 0, false⟩, ⟨1, 0, 0, false⟩, ⟨2, 0, 0, false⟩] h)
 · clear H; obtain ⟨_, _, _, _, _, _, H, _⟩ := hS; rw [spec_UnmatchedRows.l0] at H; cases H
 clear H
 obtain ⟨x2_3, Ax2_3, cx2_3, x2_4, x2_1_0, x2_1_4, H, rfl⟩ := hS
 rw [spec_UnmatchedRows.l0] at H
 refine gs (gs (rg (sv (EV.mv rfl) rfl (sv (EV.fa 1 rfl) rfl (sv (EV.ld 0 none rfl rfl rfl) rfl (sv (EV.ln rfl) rfl (sv (EV.lss rfl rfl) rfl (sv (EV.mv rfl) rfl ?_))))))))
 revert H; refine ifsI ?_ ?_ <;> intro c2 H
 ·
  refine ts 11 rfl (dT c2) (sv (EV.ld (v := .agg #[.int .i64 x2_1_0, .slice Al0_1 l0_1.length cl0_1, .slice Al0_2 l0_2.length cl0_2, .slice Al0_3 l0_3.length cl0_3, .int .i64 x2_1_4]) 0 (some 5) rfl rfl rfl) rfl ?_)
  revert H; refine bdI ?_; rintro t3 A3 H
  refine so rfl (op_call (spec_IsValidTask.ok n0 x2_1_0 l0_1 Al0_1 cl0_1 l0_2 Al0_2 cl0_2 l0_3 Al0_3 cl0_3 x2_1_4 _ A3) [⟨1, 0, 0, false⟩, ⟨2, 0, 0, false⟩, ⟨3, 0, 0, false⟩] 2 rfl rfl rfl rfl rfl ?_)
  rintro _ _ _ ⟨rfl, rfl, rfl⟩
  refine sv (EV.pt rfl rfl rfl) rfl (re (pr [1, 3, 4, 12, 13, 14] [0] [0, 1, 2, 3] rfl rfl rfl rfl ?_))
  revert H; refine ifsI ?_ ?_ <;> intro c4 H
  ·
   subst c4
   refine gt rfl rfl (gk (gs (gb (gs (rg (sv (EV.fa 3 rfl) rfl (sv (EV.ld 0 none rfl rfl rfl) rfl (sv (EV.mv rfl) rfl ?_))))))))
   revert H; refine ggI ?_; intro g5 H
   revert H; refine ggI ?_; intro g6 H
   refine sv (EV.ix 3 rfl rfl rfl g5 g6 rfl) rfl (sv (EV.le (v := .bool (rdOf false l0_3 x2_4)) x2_4 0 none 3 false rfl rfl rfl g5 g6 rfl rfl rfl) rfl (sv (EV.nt rfl) rfl (sv (EV.mv rfl) rfl ?_)))
   revert H; refine ifsI ?_ ?_ <;> intro c7 H
   ·
    exact ts 23 rfl (bN c7) (sk rfl (sk rfl (sk rfl (sk rfl (sk rfl (sk rfl (sk rfl (sk rfl (sv (EV.pf rfl rfl rfl) rfl (re (pr [1, 3, 4, 12, 13, 32] [0] [0, 1, 2, 3] rfl rfl rfl rfl (gf rfl rfl (gk (ge (rg (sv (EV.mv rfl) rfl (sv (EV.add rfl rfl) rfl (sv (EV.as rfl) rfl (re (wk [1, 3, 4] [0] [⟨0, 2, 1, true⟩, ⟨1, 0, 0, false⟩, ⟨2, 0, 0, false⟩, ⟨3, 0, 0, false⟩] (ih0 _ (by omega) _ ⟨x2_3, Ax2_3, cx2_3, wrap64 (x2_4 + 1), x2_1_0, x2_1_4, H, rfl⟩)))))))))))))))))))))
   ·
    refine ts 23 rfl (bM c7) (sv (EV.fa 0 rfl) rfl (sv (EV.ld 0 none rfl rfl rfl) rfl (sv (EV.eql rfl rfl) rfl (sv (EV.mv rfl) rfl ?_))))
    revert H; refine ifsI ?_ ?_ <;> intro c8 H
    ·
     refine ts 27 rfl (dT c8) (sk rfl (sk rfl (sk rfl (sv (EV.pt rfl rfl rfl) rfl (sv (EV.pt rfl rfl rfl) rfl (re (pr [1, 3, 4, 12, 13, 24, 25, 26, 27, 31, 32] [0] [0, 1, 2, 3] rfl rfl rfl rfl (gt rfl rfl (rg (sv (EV.mv rfl) rfl (sv (EV.fa 1 rfl) rfl (sv (EV.ld 0 none rfl rfl rfl) rfl (sv (EV.mv rfl) rfl (sv (EV.ix 1 rfl rfl rfl g5 c2 rfl) rfl (sv (EV.le (v := .agg #[.int .i64 ((rd_T99 l0_1 x2_4).f0), .int .i64 ((rd_T99 l0_1 x2_4).f1), .int .i64 ((rd_T99 l0_1 x2_4).f2)]) x2_4 0 (some 3) 1 z99 rfl rfl rfl g5 c2 rfl rfl rfl) rfl (sv (EV.bd (v := .agg #[.int .i64 ((rd_T99 l0_1 x2_4).f0), .int .i64 ((rd_T99 l0_1 x2_4).f1), .int .i64 ((rd_T99 l0_1 x2_4).f2), .int .i64 0, .int .i64 0, .int .i64 0, .bool false]) rfl (by kernel_rfl)) rfl (so rfl (op_lit (s := 7) (by_ := 56) k151 ([(⟨(⟨(rd_T99 l0_1 x2_4).f0, (rd_T99 l0_1 x2_4).f1, (rd_T99 l0_1 x2_4).f2⟩ : S99), (⟨0, 0, 0⟩ : S99), false⟩ : S151)] : List S151) [[]] [] 2 [.tmp 39] rfl rfl rfl rfl rfl rfl rfl rfl rfl rfl rfl rfl rfl dq rfl fun A40_9 c40_9 => ?_))))))))))))))))))
     revert H; refine ggI ?_; intro g10 H
     exact so rfl (op_app (k := k151) (s := 7) (by_ := 56) 0 4 rfl rfl rfl rfl (ap1 g10 dq) (ap1n g10 dq) (.inl rfl) true (fun _ => .inl rfl) rfl rfl fun A41_11 c41_11 => (nmE (en := [.sl 0 k99 Al0_1 cl0_1 l0_1 0 false, .sl 0 k99 Al0_2 cl0_2 l0_2 0 false, .sl 0 .bool Al0_3 cl0_3 l0_3 0 false, .sl 2 k151 A40_9 c40_9 ([(⟨(⟨(rd_T99 l0_1 x2_4).f0, (rd_T99 l0_1 x2_4).f1, (rd_T99 l0_1 x2_4).f2⟩ : S99), (⟨0, 0, 0⟩ : S99), false⟩ : S151)] : List S151) 2 true, .sl 2 k151 A41_11 c41_11 (x2_3 ++ ([(⟨(⟨(rd_T99 l0_1 x2_4).f0, (rd_T99 l0_1 x2_4).f1, (rd_T99 l0_1 x2_4).f2⟩ : S99), (⟨0, 0, 0⟩ : S99), false⟩ : S151)] : List S151)) 1 true]) (by kernel_rfl) (sv (EV.as rfl) rfl (re (pr [1, 3, 4, 12, 13, 24, 25, 26, 27, 31] [0] [0, 1, 2, 4] rfl rfl rfl rfl (ge (rg (sv (EV.mv rfl) rfl (sv (EV.add rfl rfl) rfl (sv (EV.as rfl) rfl (re (wk [1, 3, 4] [0] [⟨3, 2, 1, true⟩, ⟨0, 0, 0, false⟩, ⟨1, 0, 0, false⟩, ⟨2, 0, 0, false⟩] (ih0 _ (by omega) _ ⟨x2_3 ++ ([(⟨(⟨(rd_T99 l0_1 x2_4).f0, (rd_T99 l0_1 x2_4).f1, (rd_T99 l0_1 x2_4).f2⟩ : S99), (⟨0, 0, 0⟩ : S99), false⟩ : S151)] : List S151), A41_11, c41_11, wrap64 (x2_4 + 1), x2_1_0, x2_1_4, H, rfl⟩)))))))))))))
    ·
     refine ts 27 rfl (dF c8) (sv (EV.fa 0 rfl) rfl (sv (EV.ld 0 none rfl rfl rfl) rfl (sv (EV.eql rfl rfl) rfl (sv (EV.pf rfl rfl rfl) rfl (sv (EV.pt rfl rfl rfl) rfl (re (pr [1, 3, 4, 12, 13, 24, 25, 26, 27, 28, 29, 30, 31, 32] [0] [0, 1, 2, 3] rfl rfl rfl rfl ?_)))))))
     revert H; refine ifsI ?_ ?_ <;> intro c12 H
     ·
      refine gt rfl (dT c12) (rg (sv (EV.mv rfl) rfl (sv (EV.fa 1 rfl) rfl (sv (EV.ld 0 none rfl rfl rfl) rfl (sv (EV.mv rfl) rfl (sv (EV.ix 1 rfl rfl rfl g5 c2 rfl) rfl (sv (EV.le (v := .agg #[.int .i64 ((rd_T99 l0_1 x2_4).f0), .int .i64 ((rd_T99 l0_1 x2_4).f1), .int .i64 ((rd_T99 l0_1 x2_4).f2)]) x2_4 0 (some 3) 1 z99 rfl rfl rfl g5 c2 rfl rfl rfl) rfl (sv (EV.bd (v := .agg #[.int .i64 ((rd_T99 l0_1 x2_4).f0), .int .i64 ((rd_T99 l0_1 x2_4).f1), .int .i64 ((rd_T99 l0_1 x2_4).f2), .int .i64 0, .int .i64 0, .int .i64 0, .bool false]) rfl (by kernel_rfl)) rfl (so rfl (op_lit (s := 7) (by_ := 56) k151 ([(⟨(⟨(rd_T99 l0_1 x2_4).f0, (rd_T99 l0_1 x2_4).f1, (rd_T99 l0_1 x2_4).f2⟩ : S99), (⟨0, 0, 0⟩ : S99), false⟩ : S151)] : List S151) [[]] [] 2 [.tmp 39] rfl rfl rfl rfl rfl rfl rfl rfl rfl rfl rfl rfl rfl dq rfl fun A40_13 c40_13 => ?_))))))))))
      revert H; refine ggI ?_; intro g14 H
      exact so rfl (op_app (k := k151) (s := 7) (by_ := 56) 0 4 rfl rfl rfl rfl (ap1 g14 dq) (ap1n g14 dq) (.inl rfl) true (fun _ => .inl rfl) rfl rfl fun A41_15 c41_15 => (nmE (en := [.sl 0 k99 Al0_1 cl0_1 l0_1 0 false, .sl 0 k99 Al0_2 cl0_2 l0_2 0 false, .sl 0 .bool Al0_3 cl0_3 l0_3 0 false, .sl 2 k151 A40_13 c40_13 ([(⟨(⟨(rd_T99 l0_1 x2_4).f0, (rd_T99 l0_1 x2_4).f1, (rd_T99 l0_1 x2_4).f2⟩ : S99), (⟨0, 0, 0⟩ : S99), false⟩ : S151)] : List S151) 2 true, .sl 2 k151 A41_15 c41_15 (x2_3 ++ ([(⟨(⟨(rd_T99 l0_1 x2_4).f0, (rd_T99 l0_1 x2_4).f1, (rd_T99 l0_1 x2_4).f2⟩ : S99), (⟨0, 0, 0⟩ : S99), false⟩ : S151)] : List S151)) 1 true]) (by kernel_rfl) (sv (EV.as rfl) rfl (re (pr [1, 3, 4, 12, 13, 24, 25, 26, 27, 28, 29, 30, 31] [0] [0, 1, 2, 4] rfl rfl rfl rfl (ge (rg (sv (EV.mv rfl) rfl (sv (EV.add rfl rfl) rfl (sv (EV.as rfl) rfl (re (wk [1, 3, 4] [0] [⟨3, 2, 1, true⟩, ⟨0, 0, 0, false⟩, ⟨1, 0, 0, false⟩, ⟨2, 0, 0, false⟩] (ih0 _ (by omega) _ ⟨x2_3 ++ ([(⟨(⟨(rd_T99 l0_1 x2_4).f0, (rd_T99 l0_1 x2_4).f1, (rd_T99 l0_1 x2_4).f2⟩ : S99), (⟨0, 0, 0⟩ : S99), false⟩ : S151)] : List S151), A41_15, c41_15, wrap64 (x2_4 + 1), x2_1_0, x2_1_4, H, rfl⟩)))))))))))))
     ·
      exact gf rfl (dF c12) (gk (ge (rg (sv (EV.mv rfl) rfl (sv (EV.add rfl rfl) rfl (sv (EV.as rfl) rfl (re (wk [1, 3, 4] [0] [⟨0, 2, 1, true⟩, ⟨1, 0, 0, false⟩, ⟨2, 0, 0, false⟩, ⟨3, 0, 0, false⟩] (ih0 _ (by omega) _ ⟨x2_3, Ax2_3, cx2_3, wrap64 (x2_4 + 1), x2_1_0, x2_1_4, H, rfl⟩)))))))))
  ·
   obtain rfl := bF c4
   refine gf rfl rfl (gx rfl (gs (rg (sv (EV.mv rfl) rfl (sv (EV.as rfl) rfl (re (pr [2] [] [0] rfl rfl rfl rfl ?_)))))))
   cases H
   exact rt Try.func128 rfl (.tmp rfl .nil) rfl [] [⟨0, 2, 1, true⟩] rfl rfl rfl rfl rfl ⟨_, _, rfl, rfl, rfl⟩
 ·
  refine ts 11 rfl (dF c2) (sk rfl (sk rfl (sv (EV.pf rfl rfl rfl) rfl (re (pr [1, 3, 4, 14] [0] [0, 1, 2, 3] rfl rfl rfl rfl (gf rfl rfl (gx rfl (gs (rg (sv (EV.mv rfl) rfl (sv (EV.as rfl) rfl (re ?_))))))))))))
  cases H
  exact rt Try.func128 rfl (.tmp rfl .nil) rfl [] [⟨0, 2, 1, true⟩] rfl rfl rfl rfl rfl ⟨_, _, rfl, rfl, rfl⟩
def spec_CountMatches.l0 : Nat → Int → Int → Int → Int → Int → (List S99) → Option (Int)
 | 0, _, _, _, _, _, _ => none
 | k + 1, x2_5, x2_6, x2_2_0, x2_2_1, x2_2_2, l1 => if x2_6 < (l1.length : Int) then (if 0 ≤ x2_6 then (if ((rd_T99 l1 x2_6).f0) = x2_2_0 then (spec_CountMatches.l0 k (wrap64 (x2_5 + 1)) (wrap64 (x2_6 + 1)) x2_2_0 x2_2_1 x2_2_2 l1) else (spec_CountMatches.l0 k x2_5 (wrap64 (x2_6 + 1)) x2_2_0 x2_2_1 x2_2_2 l1)) else none) else (some x2_5)
def spec_CountMatches.f (k : Nat) (a0_0 : Int) (a0_1 : Int) (a0_2 : Int) (l1 : List S99) : Option (Int) := spec_CountMatches.l0 k 0 0 a0_0 a0_1 a0_2 l1
set_option maxHeartbeats 4000000 in
set_option maxRecDepth 100000 in
theorem spec_CountMatches.ok (k : Nat) (a0_0 : Int) (a0_1 : Int) (a0_2 : Int) (l1 : List S99) (Al1 : Option Addr) (cl1 : Nat) (r0 : Int) (H : spec_CountMatches.f k a0_0 a0_1 a0_2 l1 = some r0) : Fn Try.prog 144 [.agg #[.int .i64 a0_0, .int .i64 a0_1, .int .i64 a0_2], .slice Al1 l1.length cl1] [] [.sl 0 k99 Al1 cl1 l1 0 false] (fun v bx en => v = .int .i64 r0 ∧ bx = [] ∧ en = []) := by
 refine fn_ 24 Try.func144 rfl rfl rfl (fun base T w0 => ?_)
 rw [spec_CountMatches.f] at H
 refine gs (rg (so rfl (op_box (cs := [.int .i64 a0_0, .int .i64 a0_1, .int .i64 a0_2]) rfl rfl rfl fun b2 => (sv (EV.as rfl) rfl (re (gs (rg (sv (EV.as rfl) rfl (re (gs (gs (rg (sv (EV.as rfl) rfl (re (gb ?_)))))))))))))))
 refine lo (fun kk S => ∃ (x2_5 : Int) (x2_6 : Int) (x2_2_0 : Int) (x2_2_1 : Int) (x2_2_2 : Int), spec_CountMatches.l0 kk x2_5 x2_6 x2_2_0 x2_2_1 x2_2_2 l1 = some r0 ∧ S = ⟨[(1, .slice Al1 l1.length cl1), (2, .pointer (some ⟨b2, 0, none⟩)), (5, .int .i64 x2_5), (6, .int .i64 x2_6)], [⟨b2, 99, [.int .i64 x2_2_0, .int .i64 x2_2_1, .int .i64 x2_2_2]⟩], [.sl 0 k99 Al1 cl1 l1 0 false]⟩) (fun S hS => ?_) (fun n0 ih0 S hS => ?_) ⟨0, 0, a0_0, a0_1, a0_2, H, rfl⟩ (fun h => wk [1, 2, 5, 6] [0] [⟨0, 0, 0, false⟩] h)
 · clear H; obtain ⟨_, _, _, _, _, H, _⟩ := hS; rw [spec_CountMatches.l0] at H; cases H
 clear H
 obtain ⟨x2_5, x2_6, x2_2_0, x2_2_1, x2_2_2, H, rfl⟩ := hS
 rw [spec_CountMatches.l0] at H
 refine gs (gs (rg (sv (EV.mv rfl) rfl (sv (EV.mv rfl) rfl (sv (EV.ln rfl) rfl (sv (EV.lss rfl rfl) rfl (re ?_)))))))
 revert H; refine ifsI ?_ ?_ <;> intro c1 H
 ·
  refine gt rfl (dT c1) (gk (gs (gb (gs ?_))))
  revert H; refine ggI ?_; intro g2 H
  refine dr [0] [0] [] 8 rfl rfl rfl rfl (xv 0 [0] [0] rfl (EV.mv rfl) rfl rfl rfl rfl (xv 1 [0] [0] rfl (EV.mv rfl) rfl rfl rfl rfl (xv 2 [0] [0] rfl (EV.ix 0 rfl rfl rfl g2 c1 rfl) rfl rfl rfl rfl (xv 3 [0] [0] rfl (EV.fa 0 rfl) rfl rfl rfl rfl (xv 4 [0] [0] rfl (EV.le (v := .int .i64 ((rd_T99 l1 x2_6).f0)) x2_6 0 none 0 z99 rfl rfl rfl g2 c1 rfl rfl rfl) rfl rfl rfl rfl (xv 5 [0] [0] rfl (EV.fa 0 rfl) rfl rfl rfl rfl (xv 6 [0] [0] rfl (EV.ld 0 none rfl rfl rfl) rfl rfl rfl rfl (xv 7 [0] [0] rfl (EV.eql rfl rfl) rfl rfl rfl rfl (xd (pr [1, 2, 5, 6, 20] [0] [0] rfl rfl rfl rfl ?_))))))))))
  revert H; refine ifsI ?_ ?_ <;> intro c3 H
  ·
   exact gt rfl (dT c3) (rg (sv (EV.mv rfl) rfl (sv (EV.add rfl rfl) rfl (sv (EV.as rfl) rfl (re (ge (rg (sv (EV.mv rfl) rfl (sv (EV.add rfl rfl) rfl (sv (EV.as rfl) rfl (re (wk [1, 2, 5, 6] [0] [⟨0, 0, 0, false⟩] (ih0 _ (by omega) _ ⟨wrap64 (x2_5 + 1), wrap64 (x2_6 + 1), x2_2_0, x2_2_1, x2_2_2, H, rfl⟩)))))))))))))
  ·
   exact gf rfl (dF c3) (gk (ge (rg (sv (EV.mv rfl) rfl (sv (EV.add rfl rfl) rfl (sv (EV.as rfl) rfl (re (wk [1, 2, 5, 6] [0] [⟨0, 0, 0, false⟩] (ih0 _ (by omega) _ ⟨x2_5, wrap64 (x2_6 + 1), x2_2_0, x2_2_1, x2_2_2, H, rfl⟩)))))))))
 ·
  refine gf rfl (dF c1) (gx rfl (gs (rg (sv (EV.mv rfl) rfl (sv (EV.as rfl) rfl (re (pr [4] [] [] rfl rfl rfl rfl ?_)))))))
  cases H
  exact rt Try.func144 rfl (.tmp rfl .nil) rfl [] [] rfl rfl rfl rfl rfl ⟨rfl, rfl, rfl⟩
def spec_l7One.l0 : Nat → Int → (List S151) → Int → Int → Int → Int → Int → (List S99) → Option ((List S151))
 | 0, _, _, _, _, _, _, _, _ => none
 | k + 1, x2_0, x2_7, x2_8, x2_9, x2_4_0, x2_4_1, x2_4_2, l2 => if x2_9 < (l2.length : Int) then (if 0 ≤ x2_9 then (if ((rd_T99 l2 x2_9).f0) = x2_4_0 then (if x2_7.length < 2513169434916 then (spec_l7One.l0 k x2_0 (x2_7 ++ ([(⟨(⟨x2_4_0, x2_4_1, x2_4_2⟩ : S99), (⟨(rd_T99 l2 x2_9).f0, (rd_T99 l2 x2_9).f1, (rd_T99 l2 x2_9).f2⟩ : S99), true⟩ : S151)] : List S151)) x2_8 (wrap64 (x2_9 + 1)) x2_4_0 x2_4_1 x2_4_2 l2) else none) else (spec_l7One.l0 k x2_0 x2_7 x2_8 (wrap64 (x2_9 + 1)) x2_4_0 x2_4_1 x2_4_2 l2)) else none) else (if x2_8 = 0 then (if x2_0 = 4 then (if x2_7.length < 2513169434916 then (some (x2_7 ++ ([(⟨(⟨x2_4_0, x2_4_1, x2_4_2⟩ : S99), (⟨0, 0, 0⟩ : S99), false⟩ : S151)] : List S151))) else none) else (some x2_7)) else (some x2_7))
def spec_l7One.f (k : Nat) (a0 : Int) (a1_0 : Int) (a1_1 : Int) (a1_2 : Int) (l2 : List S99) : Option ((List S151)) := (spec_CountMatches.f k a1_0 a1_1 a1_2 l2).bind fun t2 => (if a0 = 2 then (if t2 > 0 then (if ([] : List S151).length < 2513169434916 then (some ([(⟨(⟨a1_0, a1_1, a1_2⟩ : S99), (⟨0, 0, 0⟩ : S99), false⟩ : S151)] : List S151)) else none) else (some [])) else (if a0 = 3 then (if t2 = 0 then (if ([] : List S151).length < 2513169434916 then (some ([(⟨(⟨a1_0, a1_1, a1_2⟩ : S99), (⟨0, 0, 0⟩ : S99), false⟩ : S151)] : List S151)) else none) else (some [])) else (spec_l7One.l0 k a0 [] t2 0 a1_0 a1_1 a1_2 l2)))
set_option maxHeartbeats 4000000 in
set_option maxRecDepth 100000 in
theorem spec_l7One.ok (k : Nat) (a0 : Int) (a1_0 : Int) (a1_1 : Int) (a1_2 : Int) (l2 : List S99) (Al2 : Option Addr) (cl2 : Nat) (r0 : List S151) (H : spec_l7One.f k a0 a1_0 a1_1 a1_2 l2 = some r0) : Fn Try.prog 145 [.int .i64 a0, .agg #[.int .i64 a1_0, .int .i64 a1_1, .int .i64 a1_2], .slice Al2 l2.length cl2] [] [.sl 0 k99 Al2 cl2 l2 0 false] (fun v bx en => ∃ A0 c0, v = .slice A0 r0.length c0 ∧ bx = [] ∧ en = [.sl 2 k151 A0 c0 r0 1 true]) := by
 refine fn_ 70 Try.func145 rfl rfl rfl (fun base T w0 => ?_)
 rw [spec_l7One.f] at H
 refine gs (rg (so rfl (op_box (cs := [.int .i64 a1_0, .int .i64 a1_1, .int .i64 a1_2]) rfl rfl rfl fun b4 => (sv (EV.as rfl) rfl (re (gs (rg (so rfl (op_lit (s := 7) (by_ := 56) k151 ([] : List S151) [] [] 1 [] rfl rfl rfl rfl rfl rfl rfl rfl rfl rfl rfl rfl rfl dq rfl fun A10_1 c10_1 => (sv (EV.as rfl) rfl (re (gs (rg (sv (EV.ld (v := .agg #[.int .i64 a1_0, .int .i64 a1_1, .int .i64 a1_2]) 0 (some 3) rfl rfl rfl) rfl (sv (EV.mv rfl) rfl ?_)))))))))))))))
 revert H; refine bdI ?_; rintro t2 A2 H
 refine so rfl (op_call (spec_CountMatches.ok k a1_0 a1_1 a1_2 l2 Al2 cl2 _ A2) [⟨0, 0, 0, false⟩] 2 rfl rfl rfl rfl rfl ?_)
 rintro _ _ _ ⟨rfl, rfl, rfl⟩
 refine sv (EV.as rfl) rfl (re (pr [0, 2, 4, 7, 8] [0] [0, 1] rfl rfl rfl rfl (gs (gs (rg (sv (EV.mv rfl) rfl (re (gb (gs (rg (sv (EV.eql rfl rfl) rfl (sv (EV.as rfl) rfl (re ?_)))))))))))))
 revert H; refine ifsI ?_ ?_ <;> intro c3 H
 ·
  refine gt rfl (dT c3) (gs (gs (rg (sv (EV.mv rfl) rfl (sv (EV.gtr rfl rfl) rfl (re (pr [4, 7, 18] [0] [1] rfl rfl rfl rfl ?_)))))))
  revert H; refine ifsI ?_ ?_ <;> intro c4 H
  ·
   refine gt rfl (dT c4) (rg (sv (EV.mv rfl) rfl (sv (EV.ld (v := .agg #[.int .i64 a1_0, .int .i64 a1_1, .int .i64 a1_2]) 0 (some 3) rfl rfl rfl) rfl (sv (EV.bd (v := .agg #[.int .i64 a1_0, .int .i64 a1_1, .int .i64 a1_2, .int .i64 0, .int .i64 0, .int .i64 0, .bool false]) rfl (by kernel_rfl)) rfl (so rfl (op_lit (s := 7) (by_ := 56) k151 ([(⟨(⟨a1_0, a1_1, a1_2⟩ : S99), (⟨0, 0, 0⟩ : S99), false⟩ : S151)] : List S151) [[]] [] 2 [.tmp 21] rfl rfl rfl rfl rfl rfl rfl rfl rfl rfl rfl rfl rfl dq rfl fun A22_5 c22_5 => ?_))))))
   revert H; refine ggI ?_; intro g6 H
   refine so rfl (op_app (k := k151) (s := 7) (by_ := 56) 0 1 rfl rfl rfl rfl (ap1 g6 dq) (ap1n g6 dq) (.inl rfl) true (fun _ => .inl rfl) rfl rfl fun A23_7 c23_7 => (nmE (en := [.sl 2 k151 A22_5 c22_5 ([(⟨(⟨a1_0, a1_1, a1_2⟩ : S99), (⟨0, 0, 0⟩ : S99), false⟩ : S151)] : List S151) 2 true, .sl 2 k151 A23_7 c23_7 ([(⟨(⟨a1_0, a1_1, a1_2⟩ : S99), (⟨0, 0, 0⟩ : S99), false⟩ : S151)] : List S151) 1 true]) (by kernel_rfl) (sv (EV.as rfl) rfl (re (pr [7] [] [1] rfl rfl rfl rfl (gs (rg (sv (EV.mv rfl) rfl (sv (EV.as rfl) rfl (re ?_))))))))))
   cases H
   exact rt Try.func145 rfl (.tmp rfl .nil) rfl [] [⟨0, 2, 1, true⟩] rfl rfl rfl rfl rfl ⟨_, _, rfl, rfl, rfl⟩
  ·
   refine gf rfl (dF c4) (gk (gs (rg (sv (EV.mv rfl) rfl (sv (EV.as rfl) rfl (re ?_))))))
   cases H
   exact rt Try.func145 rfl (.tmp rfl .nil) rfl [] [⟨0, 2, 1, true⟩] rfl rfl rfl rfl rfl ⟨_, _, rfl, rfl, rfl⟩
 ·
  refine gf rfl (dF c3) (gs (rg (sv (EV.eql rfl rfl) rfl (sv (EV.as rfl) rfl (re ?_)))))
  revert H; refine ifsI ?_ ?_ <;> intro c8 H
  ·
   refine gt rfl (dT c8) (gs (gs (rg (sv (EV.mv rfl) rfl (sv (EV.eql rfl rfl) rfl (re (pr [4, 7, 28] [0] [1] rfl rfl rfl rfl ?_)))))))
   revert H; refine ifsI ?_ ?_ <;> intro c9 H
   ·
    refine gt rfl (dT c9) (rg (sv (EV.mv rfl) rfl (sv (EV.ld (v := .agg #[.int .i64 a1_0, .int .i64 a1_1, .int .i64 a1_2]) 0 (some 3) rfl rfl rfl) rfl (sv (EV.bd (v := .agg #[.int .i64 a1_0, .int .i64 a1_1, .int .i64 a1_2, .int .i64 0, .int .i64 0, .int .i64 0, .bool false]) rfl (by kernel_rfl)) rfl (so rfl (op_lit (s := 7) (by_ := 56) k151 ([(⟨(⟨a1_0, a1_1, a1_2⟩ : S99), (⟨0, 0, 0⟩ : S99), false⟩ : S151)] : List S151) [[]] [] 2 [.tmp 31] rfl rfl rfl rfl rfl rfl rfl rfl rfl rfl rfl rfl rfl dq rfl fun A32_10 c32_10 => ?_))))))
    revert H; refine ggI ?_; intro g11 H
    refine so rfl (op_app (k := k151) (s := 7) (by_ := 56) 0 1 rfl rfl rfl rfl (ap1 g11 dq) (ap1n g11 dq) (.inl rfl) true (fun _ => .inl rfl) rfl rfl fun A33_12 c33_12 => (nmE (en := [.sl 2 k151 A32_10 c32_10 ([(⟨(⟨a1_0, a1_1, a1_2⟩ : S99), (⟨0, 0, 0⟩ : S99), false⟩ : S151)] : List S151) 2 true, .sl 2 k151 A33_12 c33_12 ([(⟨(⟨a1_0, a1_1, a1_2⟩ : S99), (⟨0, 0, 0⟩ : S99), false⟩ : S151)] : List S151) 1 true]) (by kernel_rfl) (sv (EV.as rfl) rfl (re (pr [7] [] [1] rfl rfl rfl rfl (gs (rg (sv (EV.mv rfl) rfl (sv (EV.as rfl) rfl (re ?_))))))))))
    cases H
    exact rt Try.func145 rfl (.tmp rfl .nil) rfl [] [⟨0, 2, 1, true⟩] rfl rfl rfl rfl rfl ⟨_, _, rfl, rfl, rfl⟩
   ·
    refine gf rfl (dF c9) (gk (gs (rg (sv (EV.mv rfl) rfl (sv (EV.as rfl) rfl (re ?_))))))
    cases H
    exact rt Try.func145 rfl (.tmp rfl .nil) rfl [] [⟨0, 2, 1, true⟩] rfl rfl rfl rfl rfl ⟨_, _, rfl, rfl, rfl⟩
  ·
   refine gf rfl (dF c8) (gk (ge (gs (gs (rg (sv (EV.as rfl) rfl (re (gb ?_))))))))
   refine lo (fun kk S => ∃ (x2_0 : Int) (x2_7 : List S151) (Ax2_7 : Option Addr) (cx2_7 : Nat) (x2_8 : Int) (x2_9 : Int) (x2_4_0 : Int) (x2_4_1 : Int) (x2_4_2 : Int), spec_l7One.l0 kk x2_0 x2_7 x2_8 x2_9 x2_4_0 x2_4_1 x2_4_2 l2 = some r0 ∧ S = ⟨[(0, .int .i64 x2_0), (2, .slice Al2 l2.length cl2), (4, .pointer (some ⟨b4, 0, none⟩)), (7, .slice Ax2_7 x2_7.length cx2_7), (8, .int .i64 x2_8), (9, .int .i64 x2_9)], [⟨b4, 99, [.int .i64 x2_4_0, .int .i64 x2_4_1, .int .i64 x2_4_2]⟩], [.sl 2 k151 Ax2_7 cx2_7 x2_7 1 true, .sl 0 k99 Al2 cl2 l2 0 false]⟩) (fun S hS => ?_) (fun n0 ih0 S hS => ?_) ⟨a0, [], A10_1, c10_1, t2, 0, a1_0, a1_1, a1_2, H, rfl⟩ (fun h => wk [0, 2, 4, 7, 8, 9] [0] [⟨1, 2, 1, true⟩, ⟨0, 0, 0, false⟩] h)
   · clear H; obtain ⟨_, _, _, _, _, _, _, _, _, H, _⟩ := hS; rw [spec_l7One.l0] at H; cases H
   clear H
   obtain ⟨x2_0, x2_7, Ax2_7, cx2_7, x2_8, x2_9, x2_4_0, x2_4_1, x2_4_2, H, rfl⟩ := hS
   rw [spec_l7One.l0] at H
   refine gs (gs (rg (sv (EV.mv rfl) rfl (sv (EV.mv rfl) rfl (sv (EV.ln rfl) rfl (sv (EV.lss rfl rfl) rfl (re ?_)))))))
   revert H; refine ifsI ?_ ?_ <;> intro c13 H
   ·
    refine gt rfl (dT c13) (gk (gs (gb (gs ?_))))
    revert H; refine ggI ?_; intro g14 H
    refine dr [0] [0, 1] [] 8 rfl rfl rfl rfl (xv 0 [0] [0, 1] rfl (EV.mv rfl) rfl rfl rfl rfl (xv 1 [0] [0, 1] rfl (EV.mv rfl) rfl rfl rfl rfl (xv 2 [0] [0, 1] rfl (EV.ix 1 rfl rfl rfl g14 c13 rfl) rfl rfl rfl rfl (xv 3 [0] [0, 1] rfl (EV.fa 0 rfl) rfl rfl rfl rfl (xv 4 [0] [0, 1] rfl (EV.le (v := .int .i64 ((rd_T99 l2 x2_9).f0)) x2_9 0 none 1 z99 rfl rfl rfl g14 c13 rfl rfl rfl) rfl rfl rfl rfl (xv 5 [0] [0, 1] rfl (EV.fa 0 rfl) rfl rfl rfl rfl (xv 6 [0] [0, 1] rfl (EV.ld 0 none rfl rfl rfl) rfl rfl rfl rfl (xv 7 [0] [0, 1] rfl (EV.eql rfl rfl) rfl rfl rfl rfl (xd (pr [0, 2, 4, 7, 8, 9, 48] [0] [0, 1] rfl rfl rfl rfl ?_))))))))))
    revert H; refine ifsI ?_ ?_ <;> intro c15 H
    ·
     refine gt rfl (dT c15) ?_
     revert H; refine ggI ?_; intro g16 H
     exact dr [0] [1] [9] 10 rfl rfl rfl rfl (xv 0 [0] [1] rfl (EV.mv rfl) rfl rfl rfl rfl (xv 1 [0] [1] rfl (EV.ld (v := .agg #[.int .i64 x2_4_0, .int .i64 x2_4_1, .int .i64 x2_4_2]) 0 (some 3) rfl rfl rfl) rfl rfl rfl rfl (xv 2 [0] [1] rfl (EV.mv rfl) rfl rfl rfl rfl (xv 3 [0] [1] rfl (EV.mv rfl) rfl rfl rfl rfl (xv 4 [0] [1] rfl (EV.ix 0 rfl rfl rfl g14 c13 rfl) rfl rfl rfl rfl (xv 5 [0] [1] rfl (EV.le (v := .agg #[.int .i64 ((rd_T99 l2 x2_9).f0), .int .i64 ((rd_T99 l2 x2_9).f1), .int .i64 ((rd_T99 l2 x2_9).f2)]) x2_9 0 (some 3) 0 z99 rfl rfl rfl g14 c13 rfl rfl rfl) rfl rfl rfl rfl (xv 6 [0] [1] rfl (EV.bd (v := .agg #[.int .i64 x2_4_0, .int .i64 x2_4_1, .int .i64 x2_4_2, .int .i64 ((rd_T99 l2 x2_9).f0), .int .i64 ((rd_T99 l2 x2_9).f1), .int .i64 ((rd_T99 l2 x2_9).f2), .bool true]) rfl (by kernel_rfl)) rfl rfl rfl rfl (one1 7 rfl rfl (op_lit (s := 7) (by_ := 56) k151 ([(⟨(⟨x2_4_0, x2_4_1, x2_4_2⟩ : S99), (⟨(rd_T99 l2 x2_9).f0, (rd_T99 l2 x2_9).f1, (rd_T99 l2 x2_9).f2⟩ : S99), true⟩ : S151)] : List S151) [[]] [] 2 [.tmp 55] rfl rfl rfl rfl rfl rfl rfl rfl rfl rfl rfl rfl rfl dq rfl fun A56_17 c56_17 => (xs [0] [1] rfl rfl rfl (one1 8 rfl rfl (op_app (k := k151) (s := 7) (by_ := 56) 0 2 rfl rfl rfl rfl (ap1 g16 dq) (ap1n g16 dq) (.inl rfl) true (fun _ => .inl rfl) rfl rfl fun A57_18 c57_18 => (nmE (en := [.sl 0 k99 Al2 cl2 l2 0 false, .sl 2 k151 A56_17 c56_17 ([(⟨(⟨x2_4_0, x2_4_1, x2_4_2⟩ : S99), (⟨(rd_T99 l2 x2_9).f0, (rd_T99 l2 x2_9).f1, (rd_T99 l2 x2_9).f2⟩ : S99), true⟩ : S151)] : List S151) 2 true, .sl 2 k151 A57_18 c57_18 (x2_7 ++ ([(⟨(⟨x2_4_0, x2_4_1, x2_4_2⟩ : S99), (⟨(rd_T99 l2 x2_9).f0, (rd_T99 l2 x2_9).f1, (rd_T99 l2 x2_9).f2⟩ : S99), true⟩ : S151)] : List S151)) 1 true]) (by kernel_rfl) (xs [0] [0] rfl rfl rfl (one1 9 rfl rfl (ov (EV.as rfl) rfl (xn rfl (xd (pr [0, 2, 4, 7, 8, 9] [0] [0, 2] rfl rfl rfl rfl (ge (rg (sv (EV.mv rfl) rfl (sv (EV.add rfl rfl) rfl (sv (EV.as rfl) rfl (re (wk [0, 2, 4, 7, 8, 9] [0] [⟨1, 2, 1, true⟩, ⟨0, 0, 0, false⟩] (ih0 _ (by omega) _ ⟨x2_0, x2_7 ++ ([(⟨(⟨x2_4_0, x2_4_1, x2_4_2⟩ : S99), (⟨(rd_T99 l2 x2_9).f0, (rd_T99 l2 x2_9).f1, (rd_T99 l2 x2_9).f2⟩ : S99), true⟩ : S151)] : List S151), A57_18, c57_18, x2_8, wrap64 (x2_9 + 1), x2_4_0, x2_4_1, x2_4_2, H, rfl⟩)))))))))))))))))))))))))))
    ·
     exact gf rfl (dF c15) (gk (ge (rg (sv (EV.mv rfl) rfl (sv (EV.add rfl rfl) rfl (sv (EV.as rfl) rfl (re (wk [0, 2, 4, 7, 8, 9] [0] [⟨0, 2, 1, true⟩, ⟨1, 0, 0, false⟩] (ih0 _ (by omega) _ ⟨x2_0, x2_7, Ax2_7, cx2_7, x2_8, wrap64 (x2_9 + 1), x2_4_0, x2_4_1, x2_4_2, H, rfl⟩)))))))))
   ·
    refine gf rfl (dF c13) (gx rfl (gs (gs (rg (sv (EV.mv rfl) rfl (sv (EV.eql rfl rfl) rfl (sv (EV.mv rfl) rfl ?_)))))))
    revert H; refine ifsI ?_ ?_ <;> intro c19 H
    ·
     refine ts 60 rfl (dT c19) (sv (EV.mv rfl) rfl (sv (EV.eql rfl rfl) rfl (sv (EV.pt rfl rfl rfl) rfl (re (pr [4, 7, 63] [0] [0] rfl rfl rfl rfl ?_)))))
     revert H; refine ifsI ?_ ?_ <;> intro c20 H
     ·
      refine gt rfl (dT c20) (rg (sv (EV.mv rfl) rfl (sv (EV.ld (v := .agg #[.int .i64 x2_4_0, .int .i64 x2_4_1, .int .i64 x2_4_2]) 0 (some 3) rfl rfl rfl) rfl (sv (EV.bd (v := .agg #[.int .i64 x2_4_0, .int .i64 x2_4_1, .int .i64 x2_4_2, .int .i64 0, .int .i64 0, .int .i64 0, .bool false]) rfl (by kernel_rfl)) rfl (so rfl (op_lit (s := 7) (by_ := 56) k151 ([(⟨(⟨x2_4_0, x2_4_1, x2_4_2⟩ : S99), (⟨0, 0, 0⟩ : S99), false⟩ : S151)] : List S151) [[]] [] 2 [.tmp 66] rfl rfl rfl rfl rfl rfl rfl rfl rfl rfl rfl rfl rfl dq rfl fun A67_21 c67_21 => ?_))))))
      revert H; refine ggI ?_; intro g22 H
      refine so rfl (op_app (k := k151) (s := 7) (by_ := 56) 0 1 rfl rfl rfl rfl (ap1 g22 dq) (ap1n g22 dq) (.inl rfl) true (fun _ => .inl rfl) rfl rfl fun A68_23 c68_23 => (nmE (en := [.sl 2 k151 A67_21 c67_21 ([(⟨(⟨x2_4_0, x2_4_1, x2_4_2⟩ : S99), (⟨0, 0, 0⟩ : S99), false⟩ : S151)] : List S151) 2 true, .sl 2 k151 A68_23 c68_23 (x2_7 ++ ([(⟨(⟨x2_4_0, x2_4_1, x2_4_2⟩ : S99), (⟨0, 0, 0⟩ : S99), false⟩ : S151)] : List S151)) 1 true]) (by kernel_rfl) (sv (EV.as rfl) rfl (re (pr [7] [] [1] rfl rfl rfl rfl (gs (rg (sv (EV.mv rfl) rfl (sv (EV.as rfl) rfl (re ?_))))))))))
      cases H
      exact rt Try.func145 rfl (.tmp rfl .nil) rfl [] [⟨0, 2, 1, true⟩] rfl rfl rfl rfl rfl ⟨_, _, rfl, rfl, rfl⟩
     ·
      refine gf rfl (dF c20) (gk (gs (rg (sv (EV.mv rfl) rfl (sv (EV.as rfl) rfl (re ?_))))))
      cases H
      exact rt Try.func145 rfl (.tmp rfl .nil) rfl [] [⟨0, 2, 1, true⟩] rfl rfl rfl rfl rfl ⟨_, _, rfl, rfl, rfl⟩
    ·
     refine ts 60 rfl (dF c19) (sk rfl (sk rfl (sv (EV.pf rfl rfl rfl) rfl (re (pr [4, 7, 63] [0] [0] rfl rfl rfl rfl (gf rfl rfl (gk (gs (rg (sv (EV.mv rfl) rfl (sv (EV.as rfl) rfl (re ?_))))))))))))
     cases H
     exact rt Try.func145 rfl (.tmp rfl .nil) rfl [] [⟨0, 2, 1, true⟩] rfl rfl rfl rfl rfl ⟨_, _, rfl, rfl, rfl⟩
def spec_l16Copy.f (a0_0 : Int) (l0_1 : List S99) (l0_2 : List S99) (l0_3 : List Bool) (a0_4 : Int) : Option (Int × (List S99) × (List S99) × (List Bool) × Int) := if l0_1.length ≤ 5864062014805 then (if l0_2.length ≤ 5864062014805 then (if l0_3.length ≤ 140737488355328 then (some (a0_0, l0_1, l0_2, l0_3, a0_4)) else none) else none) else none
set_option maxHeartbeats 4000000 in
set_option maxRecDepth 100000 in
theorem spec_l16Copy.ok (a0_0 : Int) (l0_1 : List S99) (Al0_1 : Option Addr) (cl0_1 : Nat) (l0_2 : List S99) (Al0_2 : Option Addr) (cl0_2 : Nat) (l0_3 : List Bool) (Al0_3 : Option Addr) (cl0_3 : Nat) (a0_4 : Int) (r0 : Int) (r1 : List S99) (r2 : List S99) (r3 : List Bool) (r4 : Int) (H : spec_l16Copy.f a0_0 l0_1 l0_2 l0_3 a0_4 = some (r0, r1, r2, r3, r4)) : Fn Try.prog 71 [.agg #[.int .i64 a0_0, .slice Al0_1 l0_1.length cl0_1, .slice Al0_2 l0_2.length cl0_2, .slice Al0_3 l0_3.length cl0_3, .int .i64 a0_4]] [] [.sl 0 k99 Al0_1 cl0_1 l0_1 0 false, .sl 0 k99 Al0_2 cl0_2 l0_2 0 false, .sl 0 .bool Al0_3 cl0_3 l0_3 0 false] (fun v bx en => ∃ A1 c1 A2 c2 A3 c3, v = .agg #[.int .i64 r0, .slice A1 r1.length c1, .slice A2 r2.length c2, .slice A3 r3.length c3, .int .i64 r4] ∧ bx = [] ∧ en = [.sl 2 k99 A1 c1 r1 1 true, .sl 2 k99 A2 c2 r2 2 true, .sl 2 .bool A3 c3 r3 3 true]) := by
 refine fn_ 20 Try.func71 rfl rfl rfl (fun base T w0 => ?_)
 rw [spec_l16Copy.f] at H
 refine gs (rg (so rfl (op_box (cs := [.int .i64 a0_0, .slice Al0_1 l0_1.length cl0_1, .slice Al0_2 l0_2.length cl0_2, .slice Al0_3 l0_3.length cl0_3, .int .i64 a0_4]) rfl rfl rfl fun b1 => (so rfl (op_alloc (cs := [.int .i64 0, .slice none 0 0, .slice none 0 0, .slice none 0 0, .int .i64 0]) (by kernel_rfl) rfl fun b2 => (re (gs ?_)))))))
 revert H; refine ggI ?_; intro g1 H
 revert H; refine ggI ?_; intro g2 H
 revert H; refine ggI ?_; intro g3 H
 refine dj (fun S => ∃ (A8_5 : Option Addr) (c8_5 : Nat) (A12_7 : Option Addr) (c12_7 : Nat) (A16_9 : Option Addr) (c16_9 : Nat), S = ⟨[(2, .pointer (some ⟨b2, 0, none⟩))], [⟨b1, 27, [.int .i64 a0_0, .slice Al0_1 l0_1.length cl0_1, .slice Al0_2 l0_2.length cl0_2, .slice Al0_3 l0_3.length cl0_3, .int .i64 a0_4]⟩, ⟨b2, 27, [.int .i64 a0_0, .slice A8_5 l0_1.length c8_5, .slice A12_7 l0_2.length c12_7, .slice A16_9 l0_3.length c16_9, .int .i64 a0_4]⟩], [.sl 0 k99 Al0_1 cl0_1 l0_1 0 false, .sl 0 k99 Al0_2 cl0_2 l0_2 0 false, .sl 0 .bool Al0_3 cl0_3 l0_3 0 false, .sl 2 k99 A8_5 c8_5 l0_1 1 true, .sl 2 k99 A12_7 c12_7 l0_2 2 true, .sl 2 .bool A16_9 c16_9 l0_3 3 true]⟩) (fun S hS => ?_) (fun dj0 => ?_)
 ·
  obtain ⟨A8_5, c8_5, A12_7, c12_7, A16_9, c16_9, rfl⟩ := hS
  cases H
  exact rt Try.func71 rfl (.cell 1 (some 5) rfl rfl rfl .nil) rfl [] [⟨3, 2, 1, true⟩, ⟨4, 2, 2, true⟩, ⟨5, 2, 3, true⟩] rfl rfl rfl rfl rfl ⟨_, _, _, _, _, _, rfl, rfl, rfl⟩
 ·
  refine dr [0, 1] [0, 1, 2] [17] 18 rfl rfl rfl rfl (xv 0 [0, 1] [0, 1, 2] rfl (EV.fa 0 rfl) rfl rfl rfl rfl (xv 1 [0, 1] [0, 1, 2] rfl (EV.ld 0 none rfl rfl rfl) rfl rfl rfl rfl (xv 3 [0, 1] [0, 1, 2] rfl (EV.fa 1 rfl) rfl rfl rfl rfl (xv 4 [0, 1] [0, 1, 2] rfl (EV.ld 0 none rfl rfl rfl) rfl rfl rfl rfl (xv 7 [0, 1] [0, 1, 2] rfl (EV.fa 2 rfl) rfl rfl rfl rfl (xv 8 [0, 1] [0, 1, 2] rfl (EV.ld 0 none rfl rfl rfl) rfl rfl rfl rfl (xv 11 [0, 1] [0, 1, 2] rfl (EV.fa 3 rfl) rfl rfl rfl rfl (xv 12 [0, 1] [0, 1, 2] rfl (EV.ld 0 none rfl rfl rfl) rfl rfl rfl rfl (xv 14 [0, 1] [0, 1, 2] rfl (EV.fa 4 rfl) rfl rfl rfl rfl (xv 15 [0, 1] [0, 1, 2] rfl (EV.ld 0 none rfl rfl rfl) rfl rfl rfl rfl ?_))))))))))
  refine dl 3 #[true, true, true, true, true, true, true, true, true, true, true, true, true, false, true, true, false, false] (fun S => ∃ (A8_5 : Option Addr) (c8_5 : Nat) (A12_7 : Option Addr) (c12_7 : Nat) (A13_8 : Option Addr) (c13_8 : Nat), S = ⟨[(2, .pointer (some ⟨b2, 0, none⟩)), (4, .int .i64 a0_0), (8, .slice A8_5 l0_1.length c8_5), (12, .slice A12_7 l0_2.length c12_7), (13, .slice A13_8 0 c13_8), (15, .slice Al0_3 l0_3.length cl0_3), (18, .int .i64 a0_4)], [⟨b1, 27, [.int .i64 a0_0, .slice Al0_1 l0_1.length cl0_1, .slice Al0_2 l0_2.length cl0_2, .slice Al0_3 l0_3.length cl0_3, .int .i64 a0_4]⟩, ⟨b2, 27, [.int .i64 0, .slice none 0 0, .slice none 0 0, .slice none 0 0, .int .i64 0]⟩], [.sl 0 k99 Al0_1 cl0_1 l0_1 0 false, .sl 0 k99 Al0_2 cl0_2 l0_2 0 false, .sl 0 .bool Al0_3 cl0_3 l0_3 0 false, .sl 2 k99 A8_5 c8_5 l0_1 1 true, .sl 2 k99 A12_7 c12_7 l0_2 2 true, .sl 2 .bool A13_8 c13_8 [] 3 true]⟩) (fun S hS => ?_) (fun hn0 => ?_)
  ·
   obtain ⟨A8_5, c8_5, A12_7, c12_7, A13_8, c13_8, rfl⟩ := hS
   exact one1 13 rfl rfl (op_app (k := .bool) (s := 1) (by_ := 1) 5 2 rfl rfl rfl rfl (ap0 g3 dq) (ap0n g3 dq) (.inl rfl) true (fun _ => .inl rfl) rfl rfl fun A16_4 c16_4 => (nmE (en := [.sl 0 k99 Al0_1 cl0_1 l0_1 0 false, .sl 0 k99 Al0_2 cl0_2 l0_2 0 false, .sl 0 .bool Al0_3 cl0_3 l0_3 0 false, .sl 2 k99 A8_5 c8_5 l0_1 1 true, .sl 2 k99 A12_7 c12_7 l0_2 2 true, .sl 2 .bool A16_4 c16_4 l0_3 3 true]) (by kernel_rfl) (xs [0, 1] [0, 1, 2] rfl rfl rfl (one1 16 rfl rfl (ov (EV.bd (v := .agg #[.int .i64 a0_0, .slice A8_5 l0_1.length c8_5, .slice A12_7 l0_2.length c12_7, .slice A16_4 l0_3.length c16_4, .int .i64 a0_4]) rfl (by kernel_rfl)) rfl (xs [0, 1] [0, 1, 2] rfl rfl rfl (one1 17 rfl rfl (op_st (cs' := [.int .i64 a0_0, .slice A8_5 l0_1.length c8_5, .slice A12_7 l0_2.length c12_7, .slice A16_4 l0_3.length c16_4, .int .i64 a0_4]) 1 rfl rfl rfl rfl rfl rfl (xn rfl (xd (wk [2] [0, 1] [⟨0, 0, 0, false⟩, ⟨1, 0, 0, false⟩, ⟨2, 0, 0, false⟩, ⟨3, 2, 1, true⟩, ⟨4, 2, 2, true⟩, ⟨5, 2, 3, true⟩] (dj0 _ ⟨A8_5, c8_5, A12_7, c12_7, A16_4, c16_4, rfl⟩))))))))))))
  refine dl 4 #[true, true, true, true, true, true, true, true, true, false, true, true, true, false, true, true, false, false] (fun S => ∃ (A8_5 : Option Addr) (c8_5 : Nat) (A9_6 : Option Addr) (c9_6 : Nat) (A13_10 : Option Addr) (c13_10 : Nat), S = ⟨[(2, .pointer (some ⟨b2, 0, none⟩)), (4, .int .i64 a0_0), (8, .slice A8_5 l0_1.length c8_5), (9, .slice A9_6 0 c9_6), (11, .slice Al0_2 l0_2.length cl0_2), (13, .slice A13_10 0 c13_10), (15, .slice Al0_3 l0_3.length cl0_3), (18, .int .i64 a0_4)], [⟨b1, 27, [.int .i64 a0_0, .slice Al0_1 l0_1.length cl0_1, .slice Al0_2 l0_2.length cl0_2, .slice Al0_3 l0_3.length cl0_3, .int .i64 a0_4]⟩, ⟨b2, 27, [.int .i64 0, .slice none 0 0, .slice none 0 0, .slice none 0 0, .int .i64 0]⟩], [.sl 0 k99 Al0_1 cl0_1 l0_1 0 false, .sl 0 k99 Al0_2 cl0_2 l0_2 0 false, .sl 0 .bool Al0_3 cl0_3 l0_3 0 false, .sl 2 k99 A8_5 c8_5 l0_1 1 true, .sl 2 k99 A9_6 c9_6 [] 2 true, .sl 2 .bool A13_10 c13_10 [] 3 true]⟩) (fun S hS => ?_) (fun hn1 => ?_)
  ·
   obtain ⟨A8_5, c8_5, A9_6, c9_6, A13_10, c13_10, rfl⟩ := hS
   exact one1 9 rfl rfl (op_app (k := k99) (s := 3) (by_ := 24) 4 1 rfl rfl rfl rfl (ap0 g2 dq) (ap0n g2 dq) (.inl rfl) true (fun _ => .inl rfl) rfl rfl fun A12_5 c12_5 => (nmE (en := [.sl 0 k99 Al0_1 cl0_1 l0_1 0 false, .sl 0 k99 Al0_2 cl0_2 l0_2 0 false, .sl 0 .bool Al0_3 cl0_3 l0_3 0 false, .sl 2 k99 A8_5 c8_5 l0_1 1 true, .sl 2 .bool A13_10 c13_10 [] 3 true, .sl 2 k99 A12_5 c12_5 l0_2 2 true]) (by kernel_rfl) (xs [0, 1] [0, 1, 2] rfl rfl rfl (da (wk [2, 4, 8, 12, 13, 15, 18] [0, 1] [⟨0, 0, 0, false⟩, ⟨1, 0, 0, false⟩, ⟨2, 0, 0, false⟩, ⟨3, 2, 1, true⟩, ⟨5, 2, 2, true⟩, ⟨4, 2, 3, true⟩] (hn0 _ ⟨A8_5, c8_5, A12_5, c12_5, A13_10, c13_10, rfl⟩))))))
  refine dl 5 #[true, true, true, true, true, true, true, true, true, false, false, true, true, false, true, true, false, false] (fun S => ∃ (A8_5 : Option Addr) (c8_5 : Nat) (A9_6 : Option Addr) (c9_6 : Nat), S = ⟨[(2, .pointer (some ⟨b2, 0, none⟩)), (4, .int .i64 a0_0), (8, .slice A8_5 l0_1.length c8_5), (9, .slice A9_6 0 c9_6), (11, .slice Al0_2 l0_2.length cl0_2), (15, .slice Al0_3 l0_3.length cl0_3), (18, .int .i64 a0_4)], [⟨b1, 27, [.int .i64 a0_0, .slice Al0_1 l0_1.length cl0_1, .slice Al0_2 l0_2.length cl0_2, .slice Al0_3 l0_3.length cl0_3, .int .i64 a0_4]⟩, ⟨b2, 27, [.int .i64 0, .slice none 0 0, .slice none 0 0, .slice none 0 0, .int .i64 0]⟩], [.sl 0 k99 Al0_1 cl0_1 l0_1 0 false, .sl 0 k99 Al0_2 cl0_2 l0_2 0 false, .sl 0 .bool Al0_3 cl0_3 l0_3 0 false, .sl 2 k99 A8_5 c8_5 l0_1 1 true, .sl 2 k99 A9_6 c9_6 [] 2 true]⟩) (fun S hS => ?_) (fun hn2 => ?_)
  ·
   obtain ⟨A8_5, c8_5, A9_6, c9_6, rfl⟩ := hS
   refine one2 9 10 rfl rfl rfl rfl ?_ ?_
   ·
    exact op_app (k := k99) (s := 3) (by_ := 24) 4 1 rfl rfl rfl rfl (ap0 g2 dq) (ap0n g2 dq) (.inl rfl) true (fun _ => .inl rfl) rfl rfl fun A12_6 c12_6 => (nmE (en := [.sl 0 k99 Al0_1 cl0_1 l0_1 0 false, .sl 0 k99 Al0_2 cl0_2 l0_2 0 false, .sl 0 .bool Al0_3 cl0_3 l0_3 0 false, .sl 2 k99 A8_5 c8_5 l0_1 1 true, .sl 2 k99 A12_6 c12_6 l0_2 2 true]) (by kernel_rfl) (xs [0, 1] [0, 1, 2] rfl rfl rfl (one1 10 rfl rfl (op_lit (s := 1) (by_ := 1) .bool ([] : List Bool) [] [] 3 [] rfl rfl rfl rfl rfl rfl rfl rfl rfl rfl rfl rfl rfl dq rfl fun A13_7 c13_7 => (xs [0, 1] [0, 1, 2] rfl rfl rfl (da (wk [2, 4, 8, 12, 13, 15, 18] [0, 1] [⟨0, 0, 0, false⟩, ⟨1, 0, 0, false⟩, ⟨2, 0, 0, false⟩, ⟨3, 2, 1, true⟩, ⟨4, 2, 2, true⟩, ⟨5, 2, 3, true⟩] (hn0 _ ⟨A8_5, c8_5, A12_6, c12_6, A13_7, c13_7, rfl⟩))))))))
   ·
    exact op_lit (s := 1) (by_ := 1) .bool ([] : List Bool) [] [] 3 [] rfl rfl rfl rfl rfl rfl rfl rfl rfl rfl rfl rfl rfl dq rfl fun A13_8 c13_8 => (xs [0, 1] [0, 1, 2] rfl rfl rfl (da (wk [2, 4, 8, 9, 11, 13, 15, 18] [0, 1] [⟨0, 0, 0, false⟩, ⟨1, 0, 0, false⟩, ⟨2, 0, 0, false⟩, ⟨3, 2, 1, true⟩, ⟨4, 2, 2, true⟩, ⟨5, 2, 3, true⟩] (hn1 _ ⟨A8_5, c8_5, A9_6, c9_6, A13_8, c13_8, rfl⟩))))
  refine dl 5 #[true, true, true, true, true, true, false, true, true, false, true, true, true, false, true, true, false, false] (fun S => ∃ (A8_5 : Option Addr) (c8_5 : Nat) (A13_12 : Option Addr) (c13_12 : Nat), S = ⟨[(2, .pointer (some ⟨b2, 0, none⟩)), (4, .int .i64 a0_0), (8, .slice A8_5 l0_1.length c8_5), (11, .slice Al0_2 l0_2.length cl0_2), (13, .slice A13_12 0 c13_12), (15, .slice Al0_3 l0_3.length cl0_3), (18, .int .i64 a0_4)], [⟨b1, 27, [.int .i64 a0_0, .slice Al0_1 l0_1.length cl0_1, .slice Al0_2 l0_2.length cl0_2, .slice Al0_3 l0_3.length cl0_3, .int .i64 a0_4]⟩, ⟨b2, 27, [.int .i64 0, .slice none 0 0, .slice none 0 0, .slice none 0 0, .int .i64 0]⟩], [.sl 0 k99 Al0_1 cl0_1 l0_1 0 false, .sl 0 k99 Al0_2 cl0_2 l0_2 0 false, .sl 0 .bool Al0_3 cl0_3 l0_3 0 false, .sl 2 k99 A8_5 c8_5 l0_1 1 true, .sl 2 .bool A13_12 c13_12 [] 2 true]⟩) (fun S hS => ?_) (fun hn3 => ?_)
  ·
   obtain ⟨A8_5, c8_5, A13_12, c13_12, rfl⟩ := hS
   exact one1 6 rfl rfl (op_lit (s := 3) (by_ := 24) k99 ([] : List S99) [] [] 3 [] rfl rfl rfl rfl rfl rfl rfl rfl rfl rfl rfl rfl rfl dq rfl fun A9_9 c9_9 => (xs [0, 1] [0, 1, 2] rfl rfl rfl (da (wk [2, 4, 8, 9, 11, 13, 15, 18] [0, 1] [⟨0, 0, 0, false⟩, ⟨1, 0, 0, false⟩, ⟨2, 0, 0, false⟩, ⟨3, 2, 1, true⟩, ⟨5, 2, 2, true⟩, ⟨4, 2, 3, true⟩] (hn1 _ ⟨A8_5, c8_5, A9_9, c9_9, A13_12, c13_12, rfl⟩)))))
  refine dl 5 #[true, true, true, true, true, false, true, true, true, false, true, true, true, false, true, true, false, false] (fun S => ∃ (A5_4 : Option Addr) (c5_4 : Nat) (A9_14 : Option Addr) (c9_14 : Nat) (A13_16 : Option Addr) (c13_16 : Nat), S = ⟨[(2, .pointer (some ⟨b2, 0, none⟩)), (4, .int .i64 a0_0), (5, .slice A5_4 0 c5_4), (7, .slice Al0_1 l0_1.length cl0_1), (9, .slice A9_14 0 c9_14), (11, .slice Al0_2 l0_2.length cl0_2), (13, .slice A13_16 0 c13_16), (15, .slice Al0_3 l0_3.length cl0_3), (18, .int .i64 a0_4)], [⟨b1, 27, [.int .i64 a0_0, .slice Al0_1 l0_1.length cl0_1, .slice Al0_2 l0_2.length cl0_2, .slice Al0_3 l0_3.length cl0_3, .int .i64 a0_4]⟩, ⟨b2, 27, [.int .i64 0, .slice none 0 0, .slice none 0 0, .slice none 0 0, .int .i64 0]⟩], [.sl 0 k99 Al0_1 cl0_1 l0_1 0 false, .sl 0 k99 Al0_2 cl0_2 l0_2 0 false, .sl 0 .bool Al0_3 cl0_3 l0_3 0 false, .sl 2 k99 A5_4 c5_4 [] 1 true, .sl 2 k99 A9_14 c9_14 [] 2 true, .sl 2 .bool A13_16 c13_16 [] 3 true]⟩) (fun S hS => ?_) (fun hn4 => ?_)
  ·
   obtain ⟨A5_4, c5_4, A9_14, c9_14, A13_16, c13_16, rfl⟩ := hS
   exact one1 5 rfl rfl (op_app (k := k99) (s := 3) (by_ := 24) 3 0 rfl rfl rfl rfl (ap0 g1 dq) (ap0n g1 dq) (.inl rfl) true (fun _ => .inl rfl) rfl rfl fun A8_10 c8_10 => (nmE (en := [.sl 0 k99 Al0_1 cl0_1 l0_1 0 false, .sl 0 k99 Al0_2 cl0_2 l0_2 0 false, .sl 0 .bool Al0_3 cl0_3 l0_3 0 false, .sl 2 k99 A9_14 c9_14 [] 2 true, .sl 2 .bool A13_16 c13_16 [] 3 true, .sl 2 k99 A8_10 c8_10 l0_1 1 true]) (by kernel_rfl) (xs [0, 1] [0, 1, 2] rfl rfl rfl (da (wk [2, 4, 8, 9, 11, 13, 15, 18] [0, 1] [⟨0, 0, 0, false⟩, ⟨1, 0, 0, false⟩, ⟨2, 0, 0, false⟩, ⟨5, 2, 1, true⟩, ⟨3, 2, 2, true⟩, ⟨4, 2, 3, true⟩] (hn1 _ ⟨A8_10, c8_10, A9_14, c9_14, A13_16, c13_16, rfl⟩))))))
  refine dl 6 #[true, true, true, true, true, false, true, true, true, false, false, true, true, false, true, true, false, false] (fun S => ∃ (A5_4 : Option Addr) (c5_4 : Nat) (A9_14 : Option Addr) (c9_14 : Nat), S = ⟨[(2, .pointer (some ⟨b2, 0, none⟩)), (4, .int .i64 a0_0), (5, .slice A5_4 0 c5_4), (7, .slice Al0_1 l0_1.length cl0_1), (9, .slice A9_14 0 c9_14), (11, .slice Al0_2 l0_2.length cl0_2), (15, .slice Al0_3 l0_3.length cl0_3), (18, .int .i64 a0_4)], [⟨b1, 27, [.int .i64 a0_0, .slice Al0_1 l0_1.length cl0_1, .slice Al0_2 l0_2.length cl0_2, .slice Al0_3 l0_3.length cl0_3, .int .i64 a0_4]⟩, ⟨b2, 27, [.int .i64 0, .slice none 0 0, .slice none 0 0, .slice none 0 0, .int .i64 0]⟩], [.sl 0 k99 Al0_1 cl0_1 l0_1 0 false, .sl 0 k99 Al0_2 cl0_2 l0_2 0 false, .sl 0 .bool Al0_3 cl0_3 l0_3 0 false, .sl 2 k99 A5_4 c5_4 [] 1 true, .sl 2 k99 A9_14 c9_14 [] 2 true]⟩) (fun S hS => ?_) (fun hn5 => ?_)
  ·
   obtain ⟨A5_4, c5_4, A9_14, c9_14, rfl⟩ := hS
   refine one2 5 10 rfl rfl rfl rfl ?_ ?_
   ·
    exact op_app (k := k99) (s := 3) (by_ := 24) 3 0 rfl rfl rfl rfl (ap0 g1 dq) (ap0n g1 dq) (.inl rfl) true (fun _ => .inl rfl) rfl rfl fun A8_11 c8_11 => (nmE (en := [.sl 0 k99 Al0_1 cl0_1 l0_1 0 false, .sl 0 k99 Al0_2 cl0_2 l0_2 0 false, .sl 0 .bool Al0_3 cl0_3 l0_3 0 false, .sl 2 k99 A9_14 c9_14 [] 2 true, .sl 2 k99 A8_11 c8_11 l0_1 1 true]) (by kernel_rfl) (xs [0, 1] [0, 1, 2] rfl rfl rfl (da (wk [2, 4, 8, 9, 11, 15, 18] [0, 1] [⟨0, 0, 0, false⟩, ⟨1, 0, 0, false⟩, ⟨2, 0, 0, false⟩, ⟨4, 2, 1, true⟩, ⟨3, 2, 2, true⟩] (hn2 _ ⟨A8_11, c8_11, A9_14, c9_14, rfl⟩)))))
   ·
    exact op_lit (s := 1) (by_ := 1) .bool ([] : List Bool) [] [] 3 [] rfl rfl rfl rfl rfl rfl rfl rfl rfl rfl rfl rfl rfl dq rfl fun A13_12 c13_12 => (xs [0, 1] [0, 1, 2] rfl rfl rfl (da (wk [2, 4, 5, 7, 9, 11, 13, 15, 18] [0, 1] [⟨0, 0, 0, false⟩, ⟨1, 0, 0, false⟩, ⟨2, 0, 0, false⟩, ⟨3, 2, 1, true⟩, ⟨4, 2, 2, true⟩, ⟨5, 2, 3, true⟩] (hn4 _ ⟨A5_4, c5_4, A9_14, c9_14, A13_12, c13_12, rfl⟩))))
  refine dl 6 #[true, true, true, true, true, false, false, true, true, false, true, true, true, false, true, true, false, false] (fun S => ∃ (A5_4 : Option Addr) (c5_4 : Nat) (A13_18 : Option Addr) (c13_18 : Nat), S = ⟨[(2, .pointer (some ⟨b2, 0, none⟩)), (4, .int .i64 a0_0), (5, .slice A5_4 0 c5_4), (7, .slice Al0_1 l0_1.length cl0_1), (11, .slice Al0_2 l0_2.length cl0_2), (13, .slice A13_18 0 c13_18), (15, .slice Al0_3 l0_3.length cl0_3), (18, .int .i64 a0_4)], [⟨b1, 27, [.int .i64 a0_0, .slice Al0_1 l0_1.length cl0_1, .slice Al0_2 l0_2.length cl0_2, .slice Al0_3 l0_3.length cl0_3, .int .i64 a0_4]⟩, ⟨b2, 27, [.int .i64 0, .slice none 0 0, .slice none 0 0, .slice none 0 0, .int .i64 0]⟩], [.sl 0 k99 Al0_1 cl0_1 l0_1 0 false, .sl 0 k99 Al0_2 cl0_2 l0_2 0 false, .sl 0 .bool Al0_3 cl0_3 l0_3 0 false, .sl 2 k99 A5_4 c5_4 [] 1 true, .sl 2 .bool A13_18 c13_18 [] 2 true]⟩) (fun S hS => ?_) (fun hn6 => ?_)
  ·
   obtain ⟨A5_4, c5_4, A13_18, c13_18, rfl⟩ := hS
   refine one2 5 6 rfl rfl rfl rfl ?_ ?_
   ·
    exact op_app (k := k99) (s := 3) (by_ := 24) 3 0 rfl rfl rfl rfl (ap0 g1 dq) (ap0n g1 dq) (.inl rfl) true (fun _ => .inl rfl) rfl rfl fun A8_13 c8_13 => (nmE (en := [.sl 0 k99 Al0_1 cl0_1 l0_1 0 false, .sl 0 k99 Al0_2 cl0_2 l0_2 0 false, .sl 0 .bool Al0_3 cl0_3 l0_3 0 false, .sl 2 .bool A13_18 c13_18 [] 2 true, .sl 2 k99 A8_13 c8_13 l0_1 1 true]) (by kernel_rfl) (xs [0, 1] [0, 1, 2] rfl rfl rfl (da (wk [2, 4, 8, 11, 13, 15, 18] [0, 1] [⟨0, 0, 0, false⟩, ⟨1, 0, 0, false⟩, ⟨2, 0, 0, false⟩, ⟨4, 2, 1, true⟩, ⟨3, 2, 2, true⟩] (hn3 _ ⟨A8_13, c8_13, A13_18, c13_18, rfl⟩)))))
   ·
    exact op_lit (s := 3) (by_ := 24) k99 ([] : List S99) [] [] 3 [] rfl rfl rfl rfl rfl rfl rfl rfl rfl rfl rfl rfl rfl dq rfl fun A9_14 c9_14 => (xs [0, 1] [0, 1, 2] rfl rfl rfl (da (wk [2, 4, 5, 7, 9, 11, 13, 15, 18] [0, 1] [⟨0, 0, 0, false⟩, ⟨1, 0, 0, false⟩, ⟨2, 0, 0, false⟩, ⟨3, 2, 1, true⟩, ⟨5, 2, 2, true⟩, ⟨4, 2, 3, true⟩] (hn4 _ ⟨A5_4, c5_4, A9_14, c9_14, A13_18, c13_18, rfl⟩))))
  refine dl 6 #[true, true, false, true, true, false, true, true, true, false, true, true, true, false, true, true, false, false] (fun S => ∃ (A9_21 : Option Addr) (c9_21 : Nat) (A13_23 : Option Addr) (c13_23 : Nat), S = ⟨[(2, .pointer (some ⟨b2, 0, none⟩)), (4, .int .i64 a0_0), (7, .slice Al0_1 l0_1.length cl0_1), (9, .slice A9_21 0 c9_21), (11, .slice Al0_2 l0_2.length cl0_2), (13, .slice A13_23 0 c13_23), (15, .slice Al0_3 l0_3.length cl0_3), (18, .int .i64 a0_4)], [⟨b1, 27, [.int .i64 a0_0, .slice Al0_1 l0_1.length cl0_1, .slice Al0_2 l0_2.length cl0_2, .slice Al0_3 l0_3.length cl0_3, .int .i64 a0_4]⟩, ⟨b2, 27, [.int .i64 0, .slice none 0 0, .slice none 0 0, .slice none 0 0, .int .i64 0]⟩], [.sl 0 k99 Al0_1 cl0_1 l0_1 0 false, .sl 0 k99 Al0_2 cl0_2 l0_2 0 false, .sl 0 .bool Al0_3 cl0_3 l0_3 0 false, .sl 2 k99 A9_21 c9_21 [] 1 true, .sl 2 .bool A13_23 c13_23 [] 2 true]⟩) (fun S hS => ?_) (fun hn7 => ?_)
  ·
   obtain ⟨A9_21, c9_21, A13_23, c13_23, rfl⟩ := hS
   exact one1 2 rfl rfl (op_lit (s := 3) (by_ := 24) k99 ([] : List S99) [] [] 3 [] rfl rfl rfl rfl rfl rfl rfl rfl rfl rfl rfl rfl rfl dq rfl fun A5_15 c5_15 => (xs [0, 1] [0, 1, 2] rfl rfl rfl (da (wk [2, 4, 5, 7, 9, 11, 13, 15, 18] [0, 1] [⟨0, 0, 0, false⟩, ⟨1, 0, 0, false⟩, ⟨2, 0, 0, false⟩, ⟨5, 2, 1, true⟩, ⟨3, 2, 2, true⟩, ⟨4, 2, 3, true⟩] (hn4 _ ⟨A5_15, c5_15, A9_21, c9_21, A13_23, c13_23, rfl⟩)))))
  refine one3 2 6 10 rfl rfl rfl rfl rfl rfl ?_ ?_ ?_
  ·
   refine op_lit (s := 3) (by_ := 24) k99 ([] : List S99) [] [] 1 [] rfl rfl rfl rfl rfl rfl rfl rfl rfl rfl rfl rfl rfl dq rfl fun A5_16 c5_16 => (xs [0, 1] [0, 1, 2] rfl rfl rfl ?_)
   refine one3 5 6 10 rfl rfl rfl rfl rfl rfl ?_ ?_ ?_
   ·
    refine op_app (k := k99) (s := 3) (by_ := 24) 3 0 rfl rfl rfl rfl (ap0 g1 dq) (ap0n g1 dq) (.inl rfl) true (fun _ => .inl rfl) rfl rfl fun A8_17 c8_17 => (nmE (en := [.sl 0 k99 Al0_1 cl0_1 l0_1 0 false, .sl 0 k99 Al0_2 cl0_2 l0_2 0 false, .sl 0 .bool Al0_3 cl0_3 l0_3 0 false, .sl 2 k99 A8_17 c8_17 l0_1 1 true]) (by kernel_rfl) (xs [0, 1] [0, 1, 2] rfl rfl rfl ?_))
    refine one2 6 10 rfl rfl rfl rfl ?_ ?_
    ·
     exact op_lit (s := 3) (by_ := 24) k99 ([] : List S99) [] [] 2 [] rfl rfl rfl rfl rfl rfl rfl rfl rfl rfl rfl rfl rfl dq rfl fun A9_18 c9_18 => (xs [0, 1] [0, 1, 2] rfl rfl rfl (da (wk [2, 4, 8, 9, 11, 15, 18] [0, 1] [⟨0, 0, 0, false⟩, ⟨1, 0, 0, false⟩, ⟨2, 0, 0, false⟩, ⟨3, 2, 1, true⟩, ⟨4, 2, 2, true⟩] (hn2 _ ⟨A8_17, c8_17, A9_18, c9_18, rfl⟩))))
    ·
     exact op_lit (s := 1) (by_ := 1) .bool ([] : List Bool) [] [] 2 [] rfl rfl rfl rfl rfl rfl rfl rfl rfl rfl rfl rfl rfl dq rfl fun A13_19 c13_19 => (xs [0, 1] [0, 1, 2] rfl rfl rfl (da (wk [2, 4, 8, 11, 13, 15, 18] [0, 1] [⟨0, 0, 0, false⟩, ⟨1, 0, 0, false⟩, ⟨2, 0, 0, false⟩, ⟨3, 2, 1, true⟩, ⟨4, 2, 2, true⟩] (hn3 _ ⟨A8_17, c8_17, A13_19, c13_19, rfl⟩))))
   ·
    exact op_lit (s := 3) (by_ := 24) k99 ([] : List S99) [] [] 2 [] rfl rfl rfl rfl rfl rfl rfl rfl rfl rfl rfl rfl rfl dq rfl fun A9_20 c9_20 => (xs [0, 1] [0, 1, 2] rfl rfl rfl (da (wk [2, 4, 5, 7, 9, 11, 15, 18] [0, 1] [⟨0, 0, 0, false⟩, ⟨1, 0, 0, false⟩, ⟨2, 0, 0, false⟩, ⟨3, 2, 1, true⟩, ⟨4, 2, 2, true⟩] (hn5 _ ⟨A5_16, c5_16, A9_20, c9_20, rfl⟩))))
   ·
    exact op_lit (s := 1) (by_ := 1) .bool ([] : List Bool) [] [] 2 [] rfl rfl rfl rfl rfl rfl rfl rfl rfl rfl rfl rfl rfl dq rfl fun A13_21 c13_21 => (xs [0, 1] [0, 1, 2] rfl rfl rfl (da (wk [2, 4, 5, 7, 11, 13, 15, 18] [0, 1] [⟨0, 0, 0, false⟩, ⟨1, 0, 0, false⟩, ⟨2, 0, 0, false⟩, ⟨3, 2, 1, true⟩, ⟨4, 2, 2, true⟩] (hn6 _ ⟨A5_16, c5_16, A13_21, c13_21, rfl⟩))))
  ·
   refine op_lit (s := 3) (by_ := 24) k99 ([] : List S99) [] [] 1 [] rfl rfl rfl rfl rfl rfl rfl rfl rfl rfl rfl rfl rfl dq rfl fun A9_22 c9_22 => (xs [0, 1] [0, 1, 2] rfl rfl rfl ?_)
   refine one2 2 10 rfl rfl rfl rfl ?_ ?_
   ·
    exact op_lit (s := 3) (by_ := 24) k99 ([] : List S99) [] [] 2 [] rfl rfl rfl rfl rfl rfl rfl rfl rfl rfl rfl rfl rfl dq rfl fun A5_23 c5_23 => (xs [0, 1] [0, 1, 2] rfl rfl rfl (da (wk [2, 4, 5, 7, 9, 11, 15, 18] [0, 1] [⟨0, 0, 0, false⟩, ⟨1, 0, 0, false⟩, ⟨2, 0, 0, false⟩, ⟨4, 2, 1, true⟩, ⟨3, 2, 2, true⟩] (hn5 _ ⟨A5_23, c5_23, A9_22, c9_22, rfl⟩))))
   ·
    exact op_lit (s := 1) (by_ := 1) .bool ([] : List Bool) [] [] 2 [] rfl rfl rfl rfl rfl rfl rfl rfl rfl rfl rfl rfl rfl dq rfl fun A13_24 c13_24 => (xs [0, 1] [0, 1, 2] rfl rfl rfl (da (wk [2, 4, 7, 9, 11, 13, 15, 18] [0, 1] [⟨0, 0, 0, false⟩, ⟨1, 0, 0, false⟩, ⟨2, 0, 0, false⟩, ⟨3, 2, 1, true⟩, ⟨4, 2, 2, true⟩] (hn7 _ ⟨A9_22, c9_22, A13_24, c13_24, rfl⟩))))
  ·
   refine op_lit (s := 1) (by_ := 1) .bool ([] : List Bool) [] [] 1 [] rfl rfl rfl rfl rfl rfl rfl rfl rfl rfl rfl rfl rfl dq rfl fun A13_25 c13_25 => (xs [0, 1] [0, 1, 2] rfl rfl rfl ?_)
   refine one2 2 6 rfl rfl rfl rfl ?_ ?_
   ·
    exact op_lit (s := 3) (by_ := 24) k99 ([] : List S99) [] [] 2 [] rfl rfl rfl rfl rfl rfl rfl rfl rfl rfl rfl rfl rfl dq rfl fun A5_26 c5_26 => (xs [0, 1] [0, 1, 2] rfl rfl rfl (da (wk [2, 4, 5, 7, 11, 13, 15, 18] [0, 1] [⟨0, 0, 0, false⟩, ⟨1, 0, 0, false⟩, ⟨2, 0, 0, false⟩, ⟨4, 2, 1, true⟩, ⟨3, 2, 2, true⟩] (hn6 _ ⟨A5_26, c5_26, A13_25, c13_25, rfl⟩))))
   ·
    exact op_lit (s := 3) (by_ := 24) k99 ([] : List S99) [] [] 2 [] rfl rfl rfl rfl rfl rfl rfl rfl rfl rfl rfl rfl rfl dq rfl fun A9_27 c9_27 => (xs [0, 1] [0, 1, 2] rfl rfl rfl (da (wk [2, 4, 7, 9, 11, 13, 15, 18] [0, 1] [⟨0, 0, 0, false⟩, ⟨1, 0, 0, false⟩, ⟨2, 0, 0, false⟩, ⟨4, 2, 1, true⟩, ⟨3, 2, 2, true⟩] (hn7 _ ⟨A9_27, c9_27, A13_25, c13_25, rfl⟩))))
mutual
def spec_JoinChunk.j0 : Nat → (List S151) → Int → (List S99) → (List S99) → (List Bool) → Int → Int → (List S99) → (List S99) → (List Bool) → Int → Option ((List S151) × Int × (List S99) × (List S99) × (List Bool) × Int)
 | 0, _, _, _, _, _, _, _, _, _, _, _ => none
 | k + 1, x14_6, x14_5_0, x14_5_1, x14_5_2, x14_5_3, x14_5_4, x14_7_0, x14_7_1, x14_7_2, x14_7_3, x14_7_4 => some (x14_6, x14_7_0, x14_7_1, x14_7_2, x14_7_3, x14_7_4)
def spec_JoinChunk.j1 : Nat → (List S151) → Int → Int → Int → Bool → Int → Int → Int → (List S99) → (List S99) → (List Bool) → Int → Int → (List S99) → (List S99) → (List Bool) → Int → (List S99) → (List S99) → (List S99) → (List Bool) → Option ((List S151) × Int × (List S99) × (List S99) × (List Bool) × Int)
 | 0, _, _, _, _, _, _, _, _, _, _, _, _, _, _, _, _, _, _, _, _, _ => none
 | k + 1, x26_6, x26_8, x26_19_0, x26_19_4, x26_20, x26_2_0, x26_2_4, x26_5_0, x26_5_1, x26_5_2, x26_5_3, x26_5_4, x26_7_0, x26_7_1, x26_7_2, x26_7_3, x26_7_4, l1, l0_1, l0_2, l0_3 => if 0 ≤ x26_8 then (if x26_8 < (x26_7_3.length : Int) then (spec_JoinChunk.l0 k x26_6 (wrap64 (x26_8 + 1)) x26_2_0 x26_2_4 x26_5_0 x26_5_1 x26_5_2 x26_5_3 x26_5_4 x26_7_0 x26_7_1 x26_7_2 (x26_7_3.set x26_8.toNat true) x26_7_4 l1 l0_1 l0_2 l0_3) else none) else none
def spec_JoinChunk.j2 : Nat → (List S151) → Int → Int → Int → Bool → Bool → Int → Int → Int → (List S99) → (List S99) → (List Bool) → Int → Int → (List S99) → (List S99) → (List Bool) → Int → (List S99) → (List S99) → (List S99) → (List Bool) → Option ((List S151) × Int × (List S99) × (List S99) × (List Bool) × Int)
 | 0, _, _, _, _, _, _, _, _, _, _, _, _, _, _, _, _, _, _, _, _, _, _ => none
 | k + 1, x27_6, x27_8, x27_19_0, x27_19_4, x27_20, x27_52, x27_2_0, x27_2_4, x27_5_0, x27_5_1, x27_5_2, x27_5_3, x27_5_4, x27_7_0, x27_7_1, x27_7_2, x27_7_3, x27_7_4, l1, l0_1, l0_2, l0_3 => if x27_52 = true then (if 0 ≤ x27_8 then (if x27_8 < (l0_1.length : Int) then ((spec_l7One.f k 1 ((rd_T99 l0_1 x27_8).f0) ((rd_T99 l0_1 x27_8).f1) ((rd_T99 l0_1 x27_8).f2) l1).bind fun t23 => (if x27_6.length + t23.length ≤ 2513169434916 then (spec_JoinChunk.j1 k (x27_6 ++ t23) x27_8 x27_19_0 x27_19_4 x27_20 x27_2_0 x27_2_4 x27_5_0 x27_5_1 x27_5_2 x27_5_3 x27_5_4 x27_7_0 x27_7_1 x27_7_2 x27_7_3 x27_7_4 l1 l0_1 l0_2 l0_3) else none)) else none) else none) else (spec_JoinChunk.j1 k x27_6 x27_8 x27_19_0 x27_19_4 x27_20 x27_2_0 x27_2_4 x27_5_0 x27_5_1 x27_5_2 x27_5_3 x27_5_4 x27_7_0 x27_7_1 x27_7_2 x27_7_3 x27_7_4 l1 l0_1 l0_2 l0_3)
def spec_JoinChunk.l0 : Nat → (List S151) → Int → Int → Int → Int → (List S99) → (List S99) → (List Bool) → Int → Int → (List S99) → (List S99) → (List Bool) → Int → (List S99) → (List S99) → (List S99) → (List Bool) → Option ((List S151) × Int × (List S99) × (List S99) × (List Bool) × Int)
 | 0, _, _, _, _, _, _, _, _, _, _, _, _, _, _, _, _, _, _ => none
 | k + 1, x15_6, x15_8, x15_2_0, x15_2_4, x15_5_0, x15_5_1, x15_5_2, x15_5_3, x15_5_4, x15_7_0, x15_7_1, x15_7_2, x15_7_3, x15_7_4, l1, l0_1, l0_2, l0_3 => if x15_8 < (l0_1.length : Int) then ((spec_IsValidTask.f k x15_2_0 l0_1 l0_2 l0_3 x15_2_4).bind fun t5 => (if t5 = true then (if 0 ≤ x15_8 then ((spec_CountMatches.f k ((rd_T99 l0_1 x15_8).f0) ((rd_T99 l0_1 x15_8).f1) ((rd_T99 l0_1 x15_8).f2) l1).bind fun t8 => (if t8 = 0 then (spec_JoinChunk.l0 k x15_6 (wrap64 (x15_8 + 1)) x15_2_0 x15_2_4 x15_5_0 x15_5_1 x15_5_2 x15_5_3 x15_5_4 x15_7_0 x15_7_1 x15_7_2 x15_7_3 x15_7_4 l1 l0_1 l0_2 l0_3) else (if x15_2_0 = 2 then (if x15_8 < (l0_3.length : Int) then (if (rdOf false l0_3 x15_8) = true then (spec_JoinChunk.j1 k x15_6 x15_8 x15_2_0 x15_2_4 true x15_2_0 x15_2_4 x15_5_0 x15_5_1 x15_5_2 x15_5_3 x15_5_4 x15_7_0 x15_7_1 x15_7_2 x15_7_3 x15_7_4 l1 l0_1 l0_2 l0_3) else (if x15_6.length < 2513169434916 then (spec_JoinChunk.j1 k (x15_6 ++ ([(⟨(⟨(rd_T99 l0_1 x15_8).f0, (rd_T99 l0_1 x15_8).f1, (rd_T99 l0_1 x15_8).f2⟩ : S99), (⟨0, 0, 0⟩ : S99), false⟩ : S151)] : List S151)) x15_8 x15_2_0 x15_2_4 true x15_2_0 x15_2_4 x15_5_0 x15_5_1 x15_5_2 x15_5_3 x15_5_4 x15_7_0 x15_7_1 x15_7_2 x15_7_3 x15_7_4 l1 l0_1 l0_2 l0_3) else none)) else none) else (if x15_2_0 = 1 then (spec_JoinChunk.j2 k x15_6 x15_8 x15_2_0 x15_2_4 true (decide (x15_2_0 = 1)) x15_2_0 x15_2_4 x15_5_0 x15_5_1 x15_5_2 x15_5_3 x15_5_4 x15_7_0 x15_7_1 x15_7_2 x15_7_3 x15_7_4 l1 l0_1 l0_2 l0_3) else (spec_JoinChunk.j2 k x15_6 x15_8 x15_2_0 x15_2_4 true (decide (x15_2_0 = 4)) x15_2_0 x15_2_4 x15_5_0 x15_5_1 x15_5_2 x15_5_3 x15_5_4 x15_7_0 x15_7_1 x15_7_2 x15_7_3 x15_7_4 l1 l0_1 l0_2 l0_3))))) else none) else (spec_JoinChunk.j0 k x15_6 x15_5_0 x15_5_1 x15_5_2 x15_5_3 x15_5_4 x15_7_0 x15_7_1 x15_7_2 x15_7_3 x15_7_4))) else (spec_JoinChunk.j0 k x15_6 x15_5_0 x15_5_1 x15_5_2 x15_5_3 x15_5_4 x15_7_0 x15_7_1 x15_7_2 x15_7_3 x15_7_4)
end
def spec_JoinChunk.f (k : Nat) (a0_0 : Int) (l0_1 : List S99) (l0_2 : List S99) (l0_3 : List Bool) (a0_4 : Int) (l1 : List S99) : Option ((List S151) × Int × (List S99) × (List S99) × (List Bool) × Int) := (spec_l16Copy.f a0_0 l0_1 l0_2 l0_3 a0_4).bind fun bt2 => (spec_JoinChunk.l0 k [] 0 a0_0 a0_4 0 [] [] [] 0 bt2.1 bt2.2.1 bt2.2.2.1 bt2.2.2.2.1 bt2.2.2.2.2 l1 l0_1 l0_2 l0_3)
set_option maxHeartbeats 4000000 in
set_option maxRecDepth 100000 in
theorem spec_JoinChunk.ok (k : Nat) (a0_0 : Int) (l0_1 : List S99) (Al0_1 : Option Addr) (cl0_1 : Nat) (l0_2 : List S99) (Al0_2 : Option Addr) (cl0_2 : Nat) (l0_3 : List Bool) (Al0_3 : Option Addr) (cl0_3 : Nat) (a0_4 : Int) (l1 : List S99) (Al1 : Option Addr) (cl1 : Nat) (r0 : List S151) (r1 : Int) (r2 : List S99) (r3 : List S99) (r4 : List Bool) (r5 : Int) (H : spec_JoinChunk.f k a0_0 l0_1 l0_2 l0_3 a0_4 l1 = some (r0, r1, r2, r3, r4, r5)) : Fn Try.prog 129 [.agg #[.int .i64 a0_0, .slice Al0_1 l0_1.length cl0_1, .slice Al0_2 l0_2.length cl0_2, .slice Al0_3 l0_3.length cl0_3, .int .i64 a0_4], .slice Al1 l1.length cl1] [] [.sl 0 k99 Al0_1 cl0_1 l0_1 0 false, .sl 0 k99 Al0_2 cl0_2 l0_2 0 false, .sl 0 .bool Al0_3 cl0_3 l0_3 0 false, .sl 0 k99 Al1 cl1 l1 0 false] (fun v bx en => ∃ A0 c0 A2 c2 A3 c3 A4 c4, v = .tuple #[.slice A0 r0.length c0, .agg #[.int .i64 r1, .slice A2 r2.length c2, .slice A3 r3.length c3, .slice A4 r4.length c4, .int .i64 r5]] ∧ bx = [] ∧ en = [.sl 2 k151 A0 c0 r0 1 true, .sl 2 k99 A2 c2 r2 2 true, .sl 2 k99 A3 c3 r3 3 true, .sl 2 .bool A4 c4 r4 4 true]) := by
 refine fn_ 70 Try.func129 rfl rfl rfl (fun base T w0 => ?_)
 rw [spec_JoinChunk.f] at H
 refine gs (rg (so rfl (op_box (cs := [.int .i64 a0_0, .slice Al0_1 l0_1.length cl0_1, .slice Al0_2 l0_2.length cl0_2, .slice Al0_3 l0_3.length cl0_3, .int .i64 a0_4]) rfl rfl rfl fun b2 => (sv (EV.as rfl) rfl (so rfl (op_alloc (cs := [.int .i64 0, .slice none 0 0, .slice none 0 0, .slice none 0 0, .int .i64 0]) (by kernel_rfl) rfl fun b5 => (re (gs (rg (so rfl (op_lit (s := 7) (by_ := 56) k151 ([] : List S151) [] [] 1 [] rfl rfl rfl rfl rfl rfl rfl rfl rfl rfl rfl rfl rfl dq rfl fun A10_1 c10_1 => (sv (EV.as rfl) rfl (re (gs (rg (sv (EV.ld (v := .agg #[.int .i64 a0_0, .slice Al0_1 l0_1.length cl0_1, .slice Al0_2 l0_2.length cl0_2, .slice Al0_3 l0_3.length cl0_3, .int .i64 a0_4]) 0 (some 5) rfl rfl rfl) rfl ?_))))))))))))))))
 revert H; refine bdI ?_; rintro ⟨t2_0, t2_1, t2_2, t2_3, t2_4⟩ A2 H
 refine so rfl (op_call (spec_l16Copy.ok a0_0 l0_1 Al0_1 cl0_1 l0_2 Al0_2 cl0_2 l0_3 Al0_3 cl0_3 a0_4 _ _ _ _ _ A2) [⟨0, 0, 0, false⟩, ⟨1, 0, 0, false⟩, ⟨2, 0, 0, false⟩] 2 rfl rfl rfl rfl rfl ?_)
 rintro _ _ _ ⟨At2_1, ct2_1, At2_2, ct2_2, At2_3, ct2_3, rfl, rfl, rfl⟩
 refine so rfl (op_alloc (cs := [.int .i64 0, .slice none 0 0, .slice none 0 0, .slice none 0 0, .int .i64 0]) (by kernel_rfl) rfl fun b7 => (so rfl (op_st (cs' := [.int .i64 t2_0, .slice At2_1 t2_1.length ct2_1, .slice At2_2 t2_2.length ct2_2, .slice At2_3 t2_3.length ct2_3, .int .i64 t2_4]) 2 rfl rfl rfl rfl rfl rfl (re ?_))))
 refine jo (fun S => ∃ (m : Nat) (x14_6 : List S151) (Ax14_6 : Option Addr) (cx14_6 : Nat) (x14_5_0 : Int) (x14_5_1 : List S99) (Ax14_5_1 : Option Addr) (cx14_5_1 : Nat) (x14_5_2 : List S99) (Ax14_5_2 : Option Addr) (cx14_5_2 : Nat) (x14_5_3 : List Bool) (Ax14_5_3 : Option Addr) (cx14_5_3 : Nat) (x14_5_4 : Int) (x14_7_0 : Int) (x14_7_1 : List S99) (Ax14_7_1 : Option Addr) (cx14_7_1 : Nat) (x14_7_2 : List S99) (Ax14_7_2 : Option Addr) (cx14_7_2 : Nat) (x14_7_3 : List Bool) (Ax14_7_3 : Option Addr) (cx14_7_3 : Nat) (x14_7_4 : Int), spec_JoinChunk.j0 m x14_6 x14_5_0 x14_5_1 x14_5_2 x14_5_3 x14_5_4 x14_7_0 x14_7_1 x14_7_2 x14_7_3 x14_7_4 = some (r0, r1, r2, r3, r4, r5) ∧ S = ⟨[(5, .pointer (some ⟨b5, 0, none⟩)), (6, .slice Ax14_6 x14_6.length cx14_6), (7, .pointer (some ⟨b7, 0, none⟩))], [⟨b5, 27, [.int .i64 x14_5_0, .slice Ax14_5_1 x14_5_1.length cx14_5_1, .slice Ax14_5_2 x14_5_2.length cx14_5_2, .slice Ax14_5_3 x14_5_3.length cx14_5_3, .int .i64 x14_5_4]⟩, ⟨b7, 27, [.int .i64 x14_7_0, .slice Ax14_7_1 x14_7_1.length cx14_7_1, .slice Ax14_7_2 x14_7_2.length cx14_7_2, .slice Ax14_7_3 x14_7_3.length cx14_7_3, .int .i64 x14_7_4]⟩], [.sl 2 k151 Ax14_6 cx14_6 x14_6 1 true, .sl 2 k99 Ax14_5_1 cx14_5_1 x14_5_1 2 true, .sl 2 k99 Ax14_5_2 cx14_5_2 x14_5_2 3 true, .sl 2 .bool Ax14_5_3 cx14_5_3 x14_5_3 4 true, .sl 2 k99 Ax14_7_1 cx14_7_1 x14_7_1 5 true, .sl 2 k99 Ax14_7_2 cx14_7_2 x14_7_2 6 true, .sl 2 .bool Ax14_7_3 cx14_7_3 x14_7_3 7 true]⟩) (fun S hS => ?_) (fun jh0 => ?_)
 ·
  clear H
  obtain ⟨m3, x14_6, Ax14_6, cx14_6, x14_5_0, x14_5_1, Ax14_5_1, cx14_5_1, x14_5_2, Ax14_5_2, cx14_5_2, x14_5_3, Ax14_5_3, cx14_5_3, x14_5_4, x14_7_0, x14_7_1, Ax14_7_1, cx14_7_1, x14_7_2, Ax14_7_2, cx14_7_2, x14_7_3, Ax14_7_3, cx14_7_3, x14_7_4, H, rfl⟩ := hS
  rcases m3 with _ | m3
  · rw [spec_JoinChunk.j0] at H; cases H
  rw [spec_JoinChunk.j0] at H
  refine gs (dr [0, 1] [0, 1, 2, 3, 4, 5, 6] [3] 4 rfl rfl rfl rfl (xv 0 [0, 1] [0, 1, 2, 3, 4, 5, 6] rfl (EV.mv rfl) rfl rfl rfl rfl (xv 1 [0, 1] [0, 1, 2, 3, 4, 5, 6] rfl (EV.ld (v := .agg #[.int .i64 x14_7_0, .slice Ax14_7_1 x14_7_1.length cx14_7_1, .slice Ax14_7_2 x14_7_2.length cx14_7_2, .slice Ax14_7_3 x14_7_3.length cx14_7_3, .int .i64 x14_7_4]) 1 (some 5) rfl rfl rfl) rfl rfl rfl rfl (xv 2 [0, 1] [0, 1, 2, 3, 4, 5, 6] rfl (EV.as rfl) rfl rfl rfl rfl (one1 3 rfl rfl (op_st (cs' := [.int .i64 x14_7_0, .slice Ax14_7_1 x14_7_1.length cx14_7_1, .slice Ax14_7_2 x14_7_2.length cx14_7_2, .slice Ax14_7_3 x14_7_3.length cx14_7_3, .int .i64 x14_7_4]) 0 rfl rfl rfl rfl rfl rfl (xn rfl (xd ?_))))))))
  cases H
  exact rt Try.func129 rfl (.tmp rfl (.cell 0 (some 5) rfl rfl rfl .nil)) rfl [] [⟨0, 2, 1, true⟩, ⟨4, 2, 2, true⟩, ⟨5, 2, 3, true⟩, ⟨6, 2, 4, true⟩] rfl rfl rfl rfl rfl ⟨_, _, _, _, _, _, _, _, rfl, rfl, rfl⟩
 ·
  refine gs (rg (sv (EV.as rfl) rfl (re (gb (nil_ k99 6 dq (nil_ k99 7 dq (nil_ .bool 8 dq ?_)))))))
  refine lo (fun kk S => ∃ (x15_6 : List S151) (Ax15_6 : Option Addr) (cx15_6 : Nat) (x15_8 : Int) (x15_2_0 : Int) (x15_2_4 : Int) (x15_5_0 : Int) (x15_5_1 : List S99) (Ax15_5_1 : Option Addr) (cx15_5_1 : Nat) (x15_5_2 : List S99) (Ax15_5_2 : Option Addr) (cx15_5_2 : Nat) (x15_5_3 : List Bool) (Ax15_5_3 : Option Addr) (cx15_5_3 : Nat) (x15_5_4 : Int) (x15_7_0 : Int) (x15_7_1 : List S99) (Ax15_7_1 : Option Addr) (cx15_7_1 : Nat) (x15_7_2 : List S99) (Ax15_7_2 : Option Addr) (cx15_7_2 : Nat) (x15_7_3 : List Bool) (Ax15_7_3 : Option Addr) (cx15_7_3 : Nat) (x15_7_4 : Int), spec_JoinChunk.l0 kk x15_6 x15_8 x15_2_0 x15_2_4 x15_5_0 x15_5_1 x15_5_2 x15_5_3 x15_5_4 x15_7_0 x15_7_1 x15_7_2 x15_7_3 x15_7_4 l1 l0_1 l0_2 l0_3 = some (r0, r1, r2, r3, r4, r5) ∧ S = ⟨[(1, .slice Al1 l1.length cl1), (2, .pointer (some ⟨b2, 0, none⟩)), (5, .pointer (some ⟨b5, 0, none⟩)), (6, .slice Ax15_6 x15_6.length cx15_6), (7, .pointer (some ⟨b7, 0, none⟩)), (8, .int .i64 x15_8)], [⟨b2, 27, [.int .i64 x15_2_0, .slice Al0_1 l0_1.length cl0_1, .slice Al0_2 l0_2.length cl0_2, .slice Al0_3 l0_3.length cl0_3, .int .i64 x15_2_4]⟩, ⟨b5, 27, [.int .i64 x15_5_0, .slice Ax15_5_1 x15_5_1.length cx15_5_1, .slice Ax15_5_2 x15_5_2.length cx15_5_2, .slice Ax15_5_3 x15_5_3.length cx15_5_3, .int .i64 x15_5_4]⟩, ⟨b7, 27, [.int .i64 x15_7_0, .slice Ax15_7_1 x15_7_1.length cx15_7_1, .slice Ax15_7_2 x15_7_2.length cx15_7_2, .slice Ax15_7_3 x15_7_3.length cx15_7_3, .int .i64 x15_7_4]⟩], [.sl 2 k151 Ax15_6 cx15_6 x15_6 1 true, .sl 2 k99 Ax15_5_1 cx15_5_1 x15_5_1 2 true, .sl 2 k99 Ax15_5_2 cx15_5_2 x15_5_2 3 true, .sl 2 .bool Ax15_5_3 cx15_5_3 x15_5_3 4 true, .sl 2 k99 Ax15_7_1 cx15_7_1 x15_7_1 5 true, .sl 2 k99 Ax15_7_2 cx15_7_2 x15_7_2 6 true, .sl 2 .bool Ax15_7_3 cx15_7_3 x15_7_3 7 true, .sl 0 k99 Al1 cl1 l1 0 false, .sl 0 k99 Al0_1 cl0_1 l0_1 0 false, .sl 0 k99 Al0_2 cl0_2 l0_2 0 false, .sl 0 .bool Al0_3 cl0_3 l0_3 0 false]⟩) (fun S hS => ?_) (fun n0 ih0 S hS => ?_) ⟨[], A10_1, c10_1, 0, a0_0, a0_4, 0, [], none, 0, [], none, 0, [], none, 0, 0, t2_0, t2_1, At2_1, ct2_1, t2_2, At2_2, ct2_2, t2_3, At2_3, ct2_3, t2_4, H, rfl⟩ (fun h => wk [1, 2, 5, 6, 7, 8] [0, 1, 2] [⟨4, 2, 1, true⟩, ⟨8, 2, 2, true⟩, ⟨9, 2, 3, true⟩, ⟨10, 2, 4, true⟩, ⟨5, 2, 5, true⟩, ⟨6, 2, 6, true⟩, ⟨7, 2, 7, true⟩, ⟨3, 0, 0, false⟩, ⟨0, 0, 0, false⟩, ⟨1, 0, 0, false⟩, ⟨2, 0, 0, false⟩] h)
  · clear H; obtain ⟨_, _, _, _, _, _, _, _, _, _, _, _, _, _, _, _, _, _, _, _, _, _, _, _, _, _, _, _, H, _⟩ := hS; rw [spec_JoinChunk.l0] at H; cases H
  clear H
  obtain ⟨x15_6, Ax15_6, cx15_6, x15_8, x15_2_0, x15_2_4, x15_5_0, x15_5_1, Ax15_5_1, cx15_5_1, x15_5_2, Ax15_5_2, cx15_5_2, x15_5_3, Ax15_5_3, cx15_5_3, x15_5_4, x15_7_0, x15_7_1, Ax15_7_1, cx15_7_1, x15_7_2, Ax15_7_2, cx15_7_2, x15_7_3, Ax15_7_3, cx15_7_3, x15_7_4, H, rfl⟩ := hS
  rw [spec_JoinChunk.l0] at H
  refine gs (gs (rg (sv (EV.mv rfl) rfl (sv (EV.fa 1 rfl) rfl (sv (EV.ld 0 none rfl rfl rfl) rfl (sv (EV.ln rfl) rfl (sv (EV.lss rfl rfl) rfl (sv (EV.mv rfl) rfl ?_))))))))
  revert H; refine ifsI ?_ ?_ <;> intro c4 H
  ·
   refine ts 18 rfl (dT c4) (sv (EV.ld (v := .agg #[.int .i64 x15_2_0, .slice Al0_1 l0_1.length cl0_1, .slice Al0_2 l0_2.length cl0_2, .slice Al0_3 l0_3.length cl0_3, .int .i64 x15_2_4]) 0 (some 5) rfl rfl rfl) rfl ?_)
   revert H; refine bdI ?_; rintro t5 A5 H
   refine so rfl (op_call (spec_IsValidTask.ok n0 x15_2_0 l0_1 Al0_1 cl0_1 l0_2 Al0_2 cl0_2 l0_3 Al0_3 cl0_3 x15_2_4 _ A5) [⟨8, 0, 0, false⟩, ⟨9, 0, 0, false⟩, ⟨10, 0, 0, false⟩] 8 rfl rfl rfl rfl rfl ?_)
   rintro _ _ _ ⟨rfl, rfl, rfl⟩
   refine sv (EV.pt rfl rfl rfl) rfl (re (pr [1, 2, 5, 6, 7, 8, 19, 20, 21] [0, 1, 2] [0, 1, 2, 3, 4, 5, 6, 7, 8, 9, 10] rfl rfl rfl rfl ?_))
   revert H; refine ifsI ?_ ?_ <;> intro c6 H
   ·
    subst c6
    refine gt rfl rfl (gk (gs (gb (gs (rg (sv (EV.fa 1 rfl) rfl (sv (EV.ld 0 none rfl rfl rfl) rfl (sv (EV.mv rfl) rfl ?_))))))))
    revert H; refine ggI ?_; intro g7 H
    refine sv (EV.ix 8 rfl rfl rfl g7 c4 rfl) rfl (sv (EV.le (v := .agg #[.int .i64 ((rd_T99 l0_1 x15_8).f0), .int .i64 ((rd_T99 l0_1 x15_8).f1), .int .i64 ((rd_T99 l0_1 x15_8).f2)]) x15_8 0 (some 3) 8 z99 rfl rfl rfl g7 c4 rfl rfl rfl) rfl (sv (EV.mv rfl) rfl ?_))
    revert H; refine bdI ?_; rintro t8 A8 H
    refine so rfl (op_call (spec_CountMatches.ok n0 ((rd_T99 l0_1 x15_8).f0) ((rd_T99 l0_1 x15_8).f1) ((rd_T99 l0_1 x15_8).f2) l1 Al1 cl1 _ A8) [⟨7, 0, 0, false⟩] 8 rfl rfl rfl rfl rfl ?_)
    rintro _ _ _ ⟨rfl, rfl, rfl⟩
    refine sv (EV.as rfl) rfl (re (pr [1, 2, 5, 6, 7, 8, 9, 19, 20] [0, 1, 2] [0, 1, 2, 3, 4, 5, 6, 7, 8, 9, 10] rfl rfl rfl rfl (gs (gs (rg (sv (EV.mv rfl) rfl (sv (EV.eql rfl rfl) rfl (re ?_))))))))
    revert H; refine ifsI ?_ ?_ <;> intro c9 H
    ·
     exact gt rfl (dT c9) (gx rfl (rg (sv (EV.mv rfl) rfl (sv (EV.add rfl rfl) rfl (sv (EV.as rfl) rfl (re (wk [1, 2, 5, 6, 7, 8] [0, 1, 2] [⟨0, 2, 1, true⟩, ⟨1, 2, 2, true⟩, ⟨2, 2, 3, true⟩, ⟨3, 2, 4, true⟩, ⟨4, 2, 5, true⟩, ⟨5, 2, 6, true⟩, ⟨6, 2, 7, true⟩, ⟨7, 0, 0, false⟩, ⟨8, 0, 0, false⟩, ⟨9, 0, 0, false⟩, ⟨10, 0, 0, false⟩] (ih0 _ (by omega) _ ⟨x15_6, Ax15_6, cx15_6, wrap64 (x15_8 + 1), x15_2_0, x15_2_4, x15_5_0, x15_5_1, Ax15_5_1, cx15_5_1, x15_5_2, Ax15_5_2, cx15_5_2, x15_5_3, Ax15_5_3, cx15_5_3, x15_5_4, x15_7_0, x15_7_1, Ax15_7_1, cx15_7_1, x15_7_2, Ax15_7_2, cx15_7_2, x15_7_3, Ax15_7_3, cx15_7_3, x15_7_4, H, rfl⟩))))))))
    ·
     refine gf rfl (dF c9) (gk ?_)
     refine jo (fun S => ∃ (m : Nat) (x26_6 : List S151) (Ax26_6 : Option Addr) (cx26_6 : Nat) (x26_8 : Int) (x26_19_0 : Int) (x26_19_4 : Int) (x26_20 : Bool) (x26_2_0 : Int) (x26_2_4 : Int) (x26_5_0 : Int) (x26_5_1 : List S99) (Ax26_5_1 : Option Addr) (cx26_5_1 : Nat) (x26_5_2 : List S99) (Ax26_5_2 : Option Addr) (cx26_5_2 : Nat) (x26_5_3 : List Bool) (Ax26_5_3 : Option Addr) (cx26_5_3 : Nat) (x26_5_4 : Int) (x26_7_0 : Int) (x26_7_1 : List S99) (Ax26_7_1 : Option Addr) (cx26_7_1 : Nat) (x26_7_2 : List S99) (Ax26_7_2 : Option Addr) (cx26_7_2 : Nat) (x26_7_3 : List Bool) (Ax26_7_3 : Option Addr) (cx26_7_3 : Nat) (x26_7_4 : Int), m ≤ n0 ∧ spec_JoinChunk.j1 m x26_6 x26_8 x26_19_0 x26_19_4 x26_20 x26_2_0 x26_2_4 x26_5_0 x26_5_1 x26_5_2 x26_5_3 x26_5_4 x26_7_0 x26_7_1 x26_7_2 x26_7_3 x26_7_4 l1 l0_1 l0_2 l0_3 = some (r0, r1, r2, r3, r4, r5) ∧ S = ⟨[(1, .slice Al1 l1.length cl1), (2, .pointer (some ⟨b2, 0, none⟩)), (5, .pointer (some ⟨b5, 0, none⟩)), (6, .slice Ax26_6 x26_6.length cx26_6), (7, .pointer (some ⟨b7, 0, none⟩)), (8, .int .i64 x26_8), (19, .agg #[.int .i64 x26_19_0, .slice Al0_1 l0_1.length cl0_1, .slice Al0_2 l0_2.length cl0_2, .slice Al0_3 l0_3.length cl0_3, .int .i64 x26_19_4]), (20, .bool x26_20)], [⟨b2, 27, [.int .i64 x26_2_0, .slice Al0_1 l0_1.length cl0_1, .slice Al0_2 l0_2.length cl0_2, .slice Al0_3 l0_3.length cl0_3, .int .i64 x26_2_4]⟩, ⟨b5, 27, [.int .i64 x26_5_0, .slice Ax26_5_1 x26_5_1.length cx26_5_1, .slice Ax26_5_2 x26_5_2.length cx26_5_2, .slice Ax26_5_3 x26_5_3.length cx26_5_3, .int .i64 x26_5_4]⟩, ⟨b7, 27, [.int .i64 x26_7_0, .slice Ax26_7_1 x26_7_1.length cx26_7_1, .slice Ax26_7_2 x26_7_2.length cx26_7_2, .slice Ax26_7_3 x26_7_3.length cx26_7_3, .int .i64 x26_7_4]⟩], [.sl 2 k151 Ax26_6 cx26_6 x26_6 1 true, .sl 2 k99 Ax26_5_1 cx26_5_1 x26_5_1 2 true, .sl 2 k99 Ax26_5_2 cx26_5_2 x26_5_2 3 true, .sl 2 .bool Ax26_5_3 cx26_5_3 x26_5_3 4 true, .sl 2 k99 Ax26_7_1 cx26_7_1 x26_7_1 5 true, .sl 2 k99 Ax26_7_2 cx26_7_2 x26_7_2 6 true, .sl 2 .bool Ax26_7_3 cx26_7_3 x26_7_3 7 true, .sl 0 k99 Al1 cl1 l1 0 false, .sl 0 k99 Al0_1 cl0_1 l0_1 0 false, .sl 0 k99 Al0_2 cl0_2 l0_2 0 false, .sl 0 .bool Al0_3 cl0_3 l0_3 0 false]⟩) (fun S hS => ?_) (fun jh1 => ?_)
     ·
      clear H
      obtain ⟨m10, x26_6, Ax26_6, cx26_6, x26_8, x26_19_0, x26_19_4, x26_20, x26_2_0, x26_2_4, x26_5_0, x26_5_1, Ax26_5_1, cx26_5_1, x26_5_2, Ax26_5_2, cx26_5_2, x26_5_3, Ax26_5_3, cx26_5_3, x26_5_4, x26_7_0, x26_7_1, Ax26_7_1, cx26_7_1, x26_7_2, Ax26_7_2, cx26_7_2, x26_7_3, Ax26_7_3, cx26_7_3, x26_7_4, lm10, H, rfl⟩ := hS
      rcases m10 with _ | m10
      · rw [spec_JoinChunk.j1] at H; cases H
      rw [spec_JoinChunk.j1] at H
      refine rg (sv (EV.fa 3 rfl) rfl (sv (EV.ld 2 none rfl rfl rfl) rfl (sv (EV.mv rfl) rfl ?_)))
      revert H; refine ggI ?_; intro g11 H
      revert H; refine ggI ?_; intro g12 H
      exact sv (EV.ix 6 rfl rfl rfl g11 g12 rfl) rfl (so rfl (op_stf x26_8 0 6 false true rfl rfl rfl rfl g11 g12 rfl rfl rfl rfl dq rfl (rlT 65 (v' := .slice Ax26_7_3 (x26_7_3.set x26_8.toNat true).length cx26_7_3) rfl (sle _ _ _ _ _) (rlB 2 (cs' := [.int .i64 x26_7_0, .slice Ax26_7_1 x26_7_1.length cx26_7_1, .slice Ax26_7_2 x26_7_2.length cx26_7_2, .slice Ax26_7_3 (x26_7_3.set x26_8.toNat true).length cx26_7_3, .int .i64 x26_7_4]) rfl (by simp only [List.length_set]) (nmE (en := [.sl 2 k151 Ax26_6 cx26_6 x26_6 1 true, .sl 2 k99 Ax26_5_1 cx26_5_1 x26_5_1 2 true, .sl 2 k99 Ax26_5_2 cx26_5_2 x26_5_2 3 true, .sl 2 .bool Ax26_5_3 cx26_5_3 x26_5_3 4 true, .sl 2 k99 Ax26_7_1 cx26_7_1 x26_7_1 5 true, .sl 2 k99 Ax26_7_2 cx26_7_2 x26_7_2 6 true, .sl 0 k99 Al1 cl1 l1 0 false, .sl 0 k99 Al0_1 cl0_1 l0_1 0 false, .sl 0 k99 Al0_2 cl0_2 l0_2 0 false, .sl 0 .bool Al0_3 cl0_3 l0_3 0 false, .sl 2 .bool Ax26_7_3 cx26_7_3 (x26_7_3.set x26_8.toNat true) 7 true]) (by kernel_rfl) (re (ge (rg (sv (EV.mv rfl) rfl (sv (EV.add rfl rfl) rfl (sv (EV.as rfl) rfl (re (wk [1, 2, 5, 6, 7, 8] [0, 1, 2] [⟨0, 2, 1, true⟩, ⟨1, 2, 2, true⟩, ⟨2, 2, 3, true⟩, ⟨3, 2, 4, true⟩, ⟨4, 2, 5, true⟩, ⟨5, 2, 6, true⟩, ⟨10, 2, 7, true⟩, ⟨6, 0, 0, false⟩, ⟨7, 0, 0, false⟩, ⟨8, 0, 0, false⟩, ⟨9, 0, 0, false⟩] (ih0 _ (by omega) _ ⟨x26_6, Ax26_6, cx26_6, wrap64 (x26_8 + 1), x26_2_0, x26_2_4, x26_5_0, x26_5_1, Ax26_5_1, cx26_5_1, x26_5_2, Ax26_5_2, cx26_5_2, x26_5_3, Ax26_5_3, cx26_5_3, x26_5_4, x26_7_0, x26_7_1, Ax26_7_1, cx26_7_1, x26_7_2, Ax26_7_2, cx26_7_2, x26_7_3.set x26_8.toNat true, Ax26_7_3, cx26_7_3, x26_7_4, H, rfl⟩))))))))))))))
     ·
      refine gs (rg (sv (EV.fa 0 rfl) rfl (sv (EV.ld 0 none rfl rfl rfl) rfl (re (gb (gs (rg (sv (EV.eql rfl rfl) rfl (sv (EV.as rfl) rfl (re ?_))))))))))
      revert H; refine ifsI ?_ ?_ <;> intro c13 H
      ·
       refine gt rfl (dT c13) (gs (rg (sv (EV.fa 3 rfl) rfl (sv (EV.ld 0 none rfl rfl rfl) rfl (sv (EV.mv rfl) rfl ?_)))))
       revert H; refine ggI ?_; intro g14 H
       refine sv (EV.ix 10 rfl rfl rfl g7 g14 rfl) rfl (sv (EV.le (v := .bool (rdOf false l0_3 x15_8)) x15_8 0 none 10 false rfl rfl rfl g7 g14 rfl rfl rfl) rfl (sv (EV.nt rfl) rfl (re (pr [1, 2, 5, 6, 7, 8, 19, 20, 42] [0, 1, 2] [0, 1, 2, 3, 4, 5, 6, 7, 8, 9, 10] rfl rfl rfl rfl ?_))))
       revert H; refine ifsI ?_ ?_ <;> intro c15 H
       ·
        exact gf rfl (bN c15) (gk (ge (wk [1, 2, 5, 6, 7, 8, 19, 20] [0, 1, 2] [⟨0, 2, 1, true⟩, ⟨1, 2, 2, true⟩, ⟨2, 2, 3, true⟩, ⟨3, 2, 4, true⟩, ⟨4, 2, 5, true⟩, ⟨5, 2, 6, true⟩, ⟨6, 2, 7, true⟩, ⟨7, 0, 0, false⟩, ⟨8, 0, 0, false⟩, ⟨9, 0, 0, false⟩, ⟨10, 0, 0, false⟩] (jh1 _ ⟨_, x15_6, Ax15_6, cx15_6, x15_8, x15_2_0, x15_2_4, true, x15_2_0, x15_2_4, x15_5_0, x15_5_1, Ax15_5_1, cx15_5_1, x15_5_2, Ax15_5_2, cx15_5_2, x15_5_3, Ax15_5_3, cx15_5_3, x15_5_4, x15_7_0, x15_7_1, Ax15_7_1, cx15_7_1, x15_7_2, Ax15_7_2, cx15_7_2, x15_7_3, Ax15_7_3, cx15_7_3, x15_7_4, by omega, H, rfl⟩))))
       ·
        refine gt rfl (bM c15) (rg (sv (EV.mv rfl) rfl (sv (EV.fa 1 rfl) rfl (sv (EV.ld 0 none rfl rfl rfl) rfl (sv (EV.mv rfl) rfl (sv (EV.ix 8 rfl rfl rfl g7 c4 rfl) rfl (sv (EV.le (v := .agg #[.int .i64 ((rd_T99 l0_1 x15_8).f0), .int .i64 ((rd_T99 l0_1 x15_8).f1), .int .i64 ((rd_T99 l0_1 x15_8).f2)]) x15_8 0 (some 3) 8 z99 rfl rfl rfl g7 c4 rfl rfl rfl) rfl (sv (EV.bd (v := .agg #[.int .i64 ((rd_T99 l0_1 x15_8).f0), .int .i64 ((rd_T99 l0_1 x15_8).f1), .int .i64 ((rd_T99 l0_1 x15_8).f2), .int .i64 0, .int .i64 0, .int .i64 0, .bool false]) rfl (by kernel_rfl)) rfl (so rfl (op_lit (s := 7) (by_ := 56) k151 ([(⟨(⟨(rd_T99 l0_1 x15_8).f0, (rd_T99 l0_1 x15_8).f1, (rd_T99 l0_1 x15_8).f2⟩ : S99), (⟨0, 0, 0⟩ : S99), false⟩ : S151)] : List S151) [[]] [] 8 [.tmp 49] rfl rfl rfl rfl rfl rfl rfl rfl rfl rfl rfl rfl rfl dq rfl fun A50_16 c50_16 => ?_))))))))))
        revert H; refine ggI ?_; intro g17 H
        exact so rfl (op_app (k := k151) (s := 7) (by_ := 56) 0 11 rfl rfl rfl rfl (ap1 g17 dq) (ap1n g17 dq) (.inl rfl) true (fun _ => .inl rfl) rfl rfl fun A51_18 c51_18 => (nmE (en := [.sl 2 k99 Ax15_5_1 cx15_5_1 x15_5_1 2 true, .sl 2 k99 Ax15_5_2 cx15_5_2 x15_5_2 3 true, .sl 2 .bool Ax15_5_3 cx15_5_3 x15_5_3 4 true, .sl 2 k99 Ax15_7_1 cx15_7_1 x15_7_1 5 true, .sl 2 k99 Ax15_7_2 cx15_7_2 x15_7_2 6 true, .sl 2 .bool Ax15_7_3 cx15_7_3 x15_7_3 7 true, .sl 0 k99 Al1 cl1 l1 0 false, .sl 0 k99 Al0_1 cl0_1 l0_1 0 false, .sl 0 k99 Al0_2 cl0_2 l0_2 0 false, .sl 0 .bool Al0_3 cl0_3 l0_3 0 false, .sl 2 k151 A50_16 c50_16 ([(⟨(⟨(rd_T99 l0_1 x15_8).f0, (rd_T99 l0_1 x15_8).f1, (rd_T99 l0_1 x15_8).f2⟩ : S99), (⟨0, 0, 0⟩ : S99), false⟩ : S151)] : List S151) 8 true, .sl 2 k151 A51_18 c51_18 (x15_6 ++ ([(⟨(⟨(rd_T99 l0_1 x15_8).f0, (rd_T99 l0_1 x15_8).f1, (rd_T99 l0_1 x15_8).f2⟩ : S99), (⟨0, 0, 0⟩ : S99), false⟩ : S151)] : List S151)) 1 true]) (by kernel_rfl) (sv (EV.as rfl) rfl (re (pr [1, 2, 5, 6, 7, 8, 19, 20] [0, 1, 2] [0, 1, 2, 3, 4, 5, 6, 7, 8, 9, 11] rfl rfl rfl rfl (ge (wk [1, 2, 5, 6, 7, 8, 19, 20] [0, 1, 2] [⟨10, 2, 1, true⟩, ⟨0, 2, 2, true⟩, ⟨1, 2, 3, true⟩, ⟨2, 2, 4, true⟩, ⟨3, 2, 5, true⟩, ⟨4, 2, 6, true⟩, ⟨5, 2, 7, true⟩, ⟨6, 0, 0, false⟩, ⟨7, 0, 0, false⟩, ⟨8, 0, 0, false⟩, ⟨9, 0, 0, false⟩] (jh1 _ ⟨_, x15_6 ++ ([(⟨(⟨(rd_T99 l0_1 x15_8).f0, (rd_T99 l0_1 x15_8).f1, (rd_T99 l0_1 x15_8).f2⟩ : S99), (⟨0, 0, 0⟩ : S99), false⟩ : S151)] : List S151), A51_18, c51_18, x15_8, x15_2_0, x15_2_4, true, x15_2_0, x15_2_4, x15_5_0, x15_5_1, Ax15_5_1, cx15_5_1, x15_5_2, Ax15_5_2, cx15_5_2, x15_5_3, Ax15_5_3, cx15_5_3, x15_5_4, x15_7_0, x15_7_1, Ax15_7_1, cx15_7_1, x15_7_2, Ax15_7_2, cx15_7_2, x15_7_3, Ax15_7_3, cx15_7_3, x15_7_4, by omega, H, rfl⟩))))))))
      ·
       refine gf rfl (dF c13) ?_
       refine jo (fun S => ∃ (m : Nat) (x27_6 : List S151) (Ax27_6 : Option Addr) (cx27_6 : Nat) (x27_8 : Int) (x27_19_0 : Int) (x27_19_4 : Int) (x27_20 : Bool) (x27_52 : Bool) (x27_2_0 : Int) (x27_2_4 : Int) (x27_5_0 : Int) (x27_5_1 : List S99) (Ax27_5_1 : Option Addr) (cx27_5_1 : Nat) (x27_5_2 : List S99) (Ax27_5_2 : Option Addr) (cx27_5_2 : Nat) (x27_5_3 : List Bool) (Ax27_5_3 : Option Addr) (cx27_5_3 : Nat) (x27_5_4 : Int) (x27_7_0 : Int) (x27_7_1 : List S99) (Ax27_7_1 : Option Addr) (cx27_7_1 : Nat) (x27_7_2 : List S99) (Ax27_7_2 : Option Addr) (cx27_7_2 : Nat) (x27_7_3 : List Bool) (Ax27_7_3 : Option Addr) (cx27_7_3 : Nat) (x27_7_4 : Int), m ≤ n0 ∧ spec_JoinChunk.j2 m x27_6 x27_8 x27_19_0 x27_19_4 x27_20 x27_52 x27_2_0 x27_2_4 x27_5_0 x27_5_1 x27_5_2 x27_5_3 x27_5_4 x27_7_0 x27_7_1 x27_7_2 x27_7_3 x27_7_4 l1 l0_1 l0_2 l0_3 = some (r0, r1, r2, r3, r4, r5) ∧ S = ⟨[(1, .slice Al1 l1.length cl1), (2, .pointer (some ⟨b2, 0, none⟩)), (5, .pointer (some ⟨b5, 0, none⟩)), (6, .slice Ax27_6 x27_6.length cx27_6), (7, .pointer (some ⟨b7, 0, none⟩)), (8, .int .i64 x27_8), (19, .agg #[.int .i64 x27_19_0, .slice Al0_1 l0_1.length cl0_1, .slice Al0_2 l0_2.length cl0_2, .slice Al0_3 l0_3.length cl0_3, .int .i64 x27_19_4]), (20, .bool x27_20), (52, .bool x27_52)], [⟨b2, 27, [.int .i64 x27_2_0, .slice Al0_1 l0_1.length cl0_1, .slice Al0_2 l0_2.length cl0_2, .slice Al0_3 l0_3.length cl0_3, .int .i64 x27_2_4]⟩, ⟨b5, 27, [.int .i64 x27_5_0, .slice Ax27_5_1 x27_5_1.length cx27_5_1, .slice Ax27_5_2 x27_5_2.length cx27_5_2, .slice Ax27_5_3 x27_5_3.length cx27_5_3, .int .i64 x27_5_4]⟩, ⟨b7, 27, [.int .i64 x27_7_0, .slice Ax27_7_1 x27_7_1.length cx27_7_1, .slice Ax27_7_2 x27_7_2.length cx27_7_2, .slice Ax27_7_3 x27_7_3.length cx27_7_3, .int .i64 x27_7_4]⟩], [.sl 2 k151 Ax27_6 cx27_6 x27_6 1 true, .sl 2 k99 Ax27_5_1 cx27_5_1 x27_5_1 2 true, .sl 2 k99 Ax27_5_2 cx27_5_2 x27_5_2 3 true, .sl 2 .bool Ax27_5_3 cx27_5_3 x27_5_3 4 true, .sl 2 k99 Ax27_7_1 cx27_7_1 x27_7_1 5 true, .sl 2 k99 Ax27_7_2 cx27_7_2 x27_7_2 6 true, .sl 2 .bool Ax27_7_3 cx27_7_3 x27_7_3 7 true, .sl 0 k99 Al1 cl1 l1 0 false, .sl 0 k99 Al0_1 cl0_1 l0_1 0 false, .sl 0 k99 Al0_2 cl0_2 l0_2 0 false, .sl 0 .bool Al0_3 cl0_3 l0_3 0 false]⟩) (fun S hS => ?_) (fun jh2 => ?_)
       ·
        clear H
        obtain ⟨m19, x27_6, Ax27_6, cx27_6, x27_8, x27_19_0, x27_19_4, x27_20, x27_52, x27_2_0, x27_2_4, x27_5_0, x27_5_1, Ax27_5_1, cx27_5_1, x27_5_2, Ax27_5_2, cx27_5_2, x27_5_3, Ax27_5_3, cx27_5_3, x27_5_4, x27_7_0, x27_7_1, Ax27_7_1, cx27_7_1, x27_7_2, Ax27_7_2, cx27_7_2, x27_7_3, Ax27_7_3, cx27_7_3, x27_7_4, lm19, H, rfl⟩ := hS
        rcases m19 with _ | m19
        · rw [spec_JoinChunk.j2] at H; cases H
        rw [spec_JoinChunk.j2] at H
        revert H; refine ifsI ?_ ?_ <;> intro c20 H
        ·
         subst c20
         refine gt rfl rfl (rg (sv (EV.mv rfl) rfl (sv (EV.fa 1 rfl) rfl (sv (EV.ld 0 none rfl rfl rfl) rfl (sv (EV.mv rfl) rfl ?_)))))
         revert H; refine ggI ?_; intro g21 H
         revert H; refine ggI ?_; intro g22 H
         refine sv (EV.ix 8 rfl rfl rfl g21 g22 rfl) rfl (sv (EV.le (v := .agg #[.int .i64 ((rd_T99 l0_1 x27_8).f0), .int .i64 ((rd_T99 l0_1 x27_8).f1), .int .i64 ((rd_T99 l0_1 x27_8).f2)]) x27_8 0 (some 3) 8 z99 rfl rfl rfl g21 g22 rfl rfl rfl) rfl (sv (EV.mv rfl) rfl ?_))
         revert H; refine bdI ?_; rintro t23 A23 H
         refine so rfl (op_call (spec_l7One.ok m19 1 ((rd_T99 l0_1 x27_8).f0) ((rd_T99 l0_1 x27_8).f1) ((rd_T99 l0_1 x27_8).f2) l1 Al1 cl1 _ A23) [⟨7, 0, 0, false⟩] 8 rfl rfl rfl rfl rfl ?_)
         rintro _ _ _ ⟨At23, ct23, rfl, rfl, rfl⟩
         revert H; refine ggI ?_; intro g24 H
         exact so rfl (op_app (k := k151) (s := 7) (by_ := 56) 0 11 rfl rfl rfl rfl (ap2 g24 dq) (ap2n g24 dq) (.inl rfl) true (fun _ => .inl rfl) rfl rfl fun A63_25 c63_25 => (nmE (en := [.sl 2 k99 Ax27_5_1 cx27_5_1 x27_5_1 2 true, .sl 2 k99 Ax27_5_2 cx27_5_2 x27_5_2 3 true, .sl 2 .bool Ax27_5_3 cx27_5_3 x27_5_3 4 true, .sl 2 k99 Ax27_7_1 cx27_7_1 x27_7_1 5 true, .sl 2 k99 Ax27_7_2 cx27_7_2 x27_7_2 6 true, .sl 2 .bool Ax27_7_3 cx27_7_3 x27_7_3 7 true, .sl 0 k99 Al1 cl1 l1 0 false, .sl 0 k99 Al0_1 cl0_1 l0_1 0 false, .sl 0 k99 Al0_2 cl0_2 l0_2 0 false, .sl 0 .bool Al0_3 cl0_3 l0_3 0 false, .sl 2 k151 At23 ct23 t23 9 true, .sl 2 k151 A63_25 c63_25 (x27_6 ++ t23) 1 true]) (by kernel_rfl) (sv (EV.as rfl) rfl (re (pr [1, 2, 5, 6, 7, 8, 19, 20] [0, 1, 2] [0, 1, 2, 3, 4, 5, 6, 7, 8, 9, 11] rfl rfl rfl rfl (ge (wk [1, 2, 5, 6, 7, 8, 19, 20] [0, 1, 2] [⟨10, 2, 1, true⟩, ⟨0, 2, 2, true⟩, ⟨1, 2, 3, true⟩, ⟨2, 2, 4, true⟩, ⟨3, 2, 5, true⟩, ⟨4, 2, 6, true⟩, ⟨5, 2, 7, true⟩, ⟨6, 0, 0, false⟩, ⟨7, 0, 0, false⟩, ⟨8, 0, 0, false⟩, ⟨9, 0, 0, false⟩] (jh1 _ ⟨_, x27_6 ++ t23, A63_25, c63_25, x27_8, x27_19_0, x27_19_4, x27_20, x27_2_0, x27_2_4, x27_5_0, x27_5_1, Ax27_5_1, cx27_5_1, x27_5_2, Ax27_5_2, cx27_5_2, x27_5_3, Ax27_5_3, cx27_5_3, x27_5_4, x27_7_0, x27_7_1, Ax27_7_1, cx27_7_1, x27_7_2, Ax27_7_2, cx27_7_2, x27_7_3, Ax27_7_3, cx27_7_3, x27_7_4, by omega, H, rfl⟩))))))))
        ·
         obtain rfl := bF c20
         exact gf rfl rfl (gk (ge (wk [1, 2, 5, 6, 7, 8, 19, 20] [0, 1, 2] [⟨0, 2, 1, true⟩, ⟨1, 2, 2, true⟩, ⟨2, 2, 3, true⟩, ⟨3, 2, 4, true⟩, ⟨4, 2, 5, true⟩, ⟨5, 2, 6, true⟩, ⟨6, 2, 7, true⟩, ⟨7, 0, 0, false⟩, ⟨8, 0, 0, false⟩, ⟨9, 0, 0, false⟩, ⟨10, 0, 0, false⟩] (jh1 _ ⟨_, x27_6, Ax27_6, cx27_6, x27_8, x27_19_0, x27_19_4, x27_20, x27_2_0, x27_2_4, x27_5_0, x27_5_1, Ax27_5_1, cx27_5_1, x27_5_2, Ax27_5_2, cx27_5_2, x27_5_3, Ax27_5_3, cx27_5_3, x27_5_4, x27_7_0, x27_7_1, Ax27_7_1, cx27_7_1, x27_7_2, Ax27_7_2, cx27_7_2, x27_7_3, Ax27_7_3, cx27_7_3, x27_7_4, by omega, H, rfl⟩))))
       ·
        refine gs (rg (sv (EV.eql rfl rfl) rfl (sv (EV.as rfl) rfl (re (pr [1, 2, 5, 6, 7, 8, 19, 20, 34, 52] [0, 1, 2] [0, 1, 2, 3, 4, 5, 6, 7, 8, 9, 10] rfl rfl rfl rfl ?_)))))
        revert H; refine ifsI ?_ ?_ <;> intro c26 H
        ·
         exact gt rfl (dT c26) (gk (wk [1, 2, 5, 6, 7, 8, 19, 20, 52] [0, 1, 2] [⟨0, 2, 1, true⟩, ⟨1, 2, 2, true⟩, ⟨2, 2, 3, true⟩, ⟨3, 2, 4, true⟩, ⟨4, 2, 5, true⟩, ⟨5, 2, 6, true⟩, ⟨6, 2, 7, true⟩, ⟨7, 0, 0, false⟩, ⟨8, 0, 0, false⟩, ⟨9, 0, 0, false⟩, ⟨10, 0, 0, false⟩] (jh2 _ ⟨_, x15_6, Ax15_6, cx15_6, x15_8, x15_2_0, x15_2_4, true, decide (x15_2_0 = 1), x15_2_0, x15_2_4, x15_5_0, x15_5_1, Ax15_5_1, cx15_5_1, x15_5_2, Ax15_5_2, cx15_5_2, x15_5_3, Ax15_5_3, cx15_5_3, x15_5_4, x15_7_0, x15_7_1, Ax15_7_1, cx15_7_1, x15_7_2, Ax15_7_2, cx15_7_2, x15_7_3, Ax15_7_3, cx15_7_3, x15_7_4, by omega, H, rfl⟩)))
        ·
         exact gf rfl (dF c26) (rg (sv (EV.eql rfl rfl) rfl (sv (EV.as rfl) rfl (re (wk [1, 2, 5, 6, 7, 8, 19, 20, 52] [0, 1, 2] [⟨0, 2, 1, true⟩, ⟨1, 2, 2, true⟩, ⟨2, 2, 3, true⟩, ⟨3, 2, 4, true⟩, ⟨4, 2, 5, true⟩, ⟨5, 2, 6, true⟩, ⟨6, 2, 7, true⟩, ⟨7, 0, 0, false⟩, ⟨8, 0, 0, false⟩, ⟨9, 0, 0, false⟩, ⟨10, 0, 0, false⟩] (jh2 _ ⟨_, x15_6, Ax15_6, cx15_6, x15_8, x15_2_0, x15_2_4, true, decide (x15_2_0 = 4), x15_2_0, x15_2_4, x15_5_0, x15_5_1, Ax15_5_1, cx15_5_1, x15_5_2, Ax15_5_2, cx15_5_2, x15_5_3, Ax15_5_3, cx15_5_3, x15_5_4, x15_7_0, x15_7_1, Ax15_7_1, cx15_7_1, x15_7_2, Ax15_7_2, cx15_7_2, x15_7_3, Ax15_7_3, cx15_7_3, x15_7_4, by omega, H, rfl⟩))))))
   ·
    obtain rfl := bF c6
    exact gf rfl rfl (gx rfl (wk [5, 6, 7] [1, 2] [⟨0, 2, 1, true⟩, ⟨1, 2, 2, true⟩, ⟨2, 2, 3, true⟩, ⟨3, 2, 4, true⟩, ⟨4, 2, 5, true⟩, ⟨5, 2, 6, true⟩, ⟨6, 2, 7, true⟩] (jh0 _ ⟨_, x15_6, Ax15_6, cx15_6, x15_5_0, x15_5_1, Ax15_5_1, cx15_5_1, x15_5_2, Ax15_5_2, cx15_5_2, x15_5_3, Ax15_5_3, cx15_5_3, x15_5_4, x15_7_0, x15_7_1, Ax15_7_1, cx15_7_1, x15_7_2, Ax15_7_2, cx15_7_2, x15_7_3, Ax15_7_3, cx15_7_3, x15_7_4, H, rfl⟩)))
  ·
   exact ts 18 rfl (dF c4) (sk rfl (sk rfl (sv (EV.pf rfl rfl rfl) rfl (re (pr [1, 2, 5, 6, 7, 8, 21] [0, 1, 2] [0, 1, 2, 3, 4, 5, 6, 7, 8, 9, 10] rfl rfl rfl rfl (gf rfl rfl (gx rfl (wk [5, 6, 7] [1, 2] [⟨0, 2, 1, true⟩, ⟨1, 2, 2, true⟩, ⟨2, 2, 3, true⟩, ⟨3, 2, 4, true⟩, ⟨4, 2, 5, true⟩, ⟨5, 2, 6, true⟩, ⟨6, 2, 7, true⟩] (jh0 _ ⟨_, x15_6, Ax15_6, cx15_6, x15_5_0, x15_5_1, Ax15_5_1, cx15_5_1, x15_5_2, Ax15_5_2, cx15_5_2, x15_5_3, Ax15_5_3, cx15_5_3, x15_5_4, x15_7_0, x15_7_1, Ax15_7_1, cx15_7_1, x15_7_2, Ax15_7_2, cx15_7_2, x15_7_3, Ax15_7_3, cx15_7_3, x15_7_4, H, rfl⟩)))))))))
def spec_AllSameKey.l0 : Nat → Int → (List S99) → Option (Bool)
 | 0, _, _ => none
 | k + 1, x2_3, l0 => if x2_3 < (l0.length : Int) then (if 0 ≤ x2_3 then (if 0 < (l0.length : Int) then (if ((rd_T99 l0 x2_3).f0) = ((rd_T99 l0 0).f0) then (spec_AllSameKey.l0 k (wrap64 (x2_3 + 1)) l0) else (some false)) else none) else none) else (some true)
def spec_AllSameKey.f (k : Nat) (l0 : List S99) : Option (Bool) := spec_AllSameKey.l0 k 1 l0
set_option maxHeartbeats 4000000 in
set_option maxRecDepth 100000 in
theorem spec_AllSameKey.ok (k : Nat) (l0 : List S99) (Al0 : Option Addr) (cl0 : Nat) (r0 : Bool) (H : spec_AllSameKey.f k l0 = some r0) : Fn Try.prog 146 [.slice Al0 l0.length cl0] [] [.sl 0 k99 Al0 cl0 l0 0 false] (fun v bx en => v = .bool r0 ∧ bx = [] ∧ en = []) := by
 refine fn_ 20 Try.func146 rfl rfl rfl (fun base T w0 => ?_)
 rw [spec_AllSameKey.f] at H
 refine gs (rg (sv (EV.as rfl) rfl (re (gs (gs (rg (sv (EV.as rfl) rfl (re (gb ?_)))))))))
 refine lo (fun kk S => ∃ (x2_3 : Int), spec_AllSameKey.l0 kk x2_3 l0 = some r0 ∧ S = ⟨[(0, .slice Al0 l0.length cl0), (3, .int .i64 x2_3)], [], [.sl 0 k99 Al0 cl0 l0 0 false]⟩) (fun S hS => ?_) (fun n0 ih0 S hS => ?_) ⟨1, H, rfl⟩ (fun h => wk [0, 3] [] [⟨0, 0, 0, false⟩] h)
 · clear H; obtain ⟨_, H, _⟩ := hS; rw [spec_AllSameKey.l0] at H; cases H
 clear H
 obtain ⟨x2_3, H, rfl⟩ := hS
 rw [spec_AllSameKey.l0] at H
 refine gs (gs (rg (sv (EV.mv rfl) rfl (sv (EV.mv rfl) rfl (sv (EV.ln rfl) rfl (sv (EV.lss rfl rfl) rfl (re ?_)))))))
 revert H; refine ifsI ?_ ?_ <;> intro c1 H
 ·
  refine gt rfl (dT c1) (gk (gs (gb (gs ?_))))
  revert H; refine ggI ?_; intro g2 H
  revert H; refine ggI ?_; intro g3 H
  refine dr [] [0] [] 10 rfl rfl rfl rfl (xv 0 [] [0] rfl (EV.mv rfl) rfl rfl rfl rfl (xv 1 [] [0] rfl (EV.mv rfl) rfl rfl rfl rfl (xv 2 [] [0] rfl (EV.ix 0 rfl rfl rfl g2 c1 rfl) rfl rfl rfl rfl (xv 3 [] [0] rfl (EV.fa 0 rfl) rfl rfl rfl rfl (xv 4 [] [0] rfl (EV.le (v := .int .i64 ((rd_T99 l0 x2_3).f0)) x2_3 0 none 0 z99 rfl rfl rfl g2 c1 rfl rfl rfl) rfl rfl rfl rfl (xv 5 [] [0] rfl (EV.mv rfl) rfl rfl rfl rfl (xv 6 [] [0] rfl (EV.ix 0 rfl rfl rfl dq g3 rfl) rfl rfl rfl rfl (xv 7 [] [0] rfl (EV.fa 0 rfl) rfl rfl rfl rfl (xv 8 [] [0] rfl (EV.le (v := .int .i64 ((rd_T99 l0 0).f0)) 0 0 none 0 z99 rfl rfl rfl dq g3 rfl rfl rfl) rfl rfl rfl rfl (xv 9 [] [0] rfl (EV.neq rfl rfl) rfl rfl rfl rfl (xd (pr [0, 3, 19] [] [0] rfl rfl rfl rfl ?_))))))))))))
  revert H; refine ifsI ?_ ?_ <;> intro c4 H
  ·
   exact gf rfl (nF c4) (gk (ge (rg (sv (EV.mv rfl) rfl (sv (EV.add rfl rfl) rfl (sv (EV.as rfl) rfl (re (wk [0, 3] [] [⟨0, 0, 0, false⟩] (ih0 _ (by omega) _ ⟨wrap64 (x2_3 + 1), H, rfl⟩)))))))))
  ·
   refine gt rfl (nT c4) (gs (rg (sv (EV.as rfl) rfl (re ?_))))
   cases H
   exact rt Try.func146 rfl (.tmp rfl .nil) rfl [] [] rfl rfl rfl rfl rfl ⟨rfl, rfl, rfl⟩
 ·
  refine gf rfl (dF c1) (gx rfl (gs (rg (sv (EV.as rfl) rfl (re (pr [2] [] [] rfl rfl rfl rfl ?_))))))
  cases H
  exact rt Try.func146 rfl (.tmp rfl .nil) rfl [] [] rfl rfl rfl rfl rfl ⟨rfl, rfl, rfl⟩
def spec_NeedsNestedLoop.f (k : Nat) (a0_0 : Int) (l0_1 : List S99) (l0_2 : List S99) (l0_3 : List Bool) (a0_4 : Int) : Option (Bool) := if a0_4 ≥ 4 then (some true) else ((spec_AllSameKey.f k l0_2).bind fun t2 => (some t2))
set_option maxHeartbeats 4000000 in
set_option maxRecDepth 100000 in
theorem spec_NeedsNestedLoop.ok (k : Nat) (a0_0 : Int) (l0_1 : List S99) (Al0_1 : Option Addr) (cl0_1 : Nat) (l0_2 : List S99) (Al0_2 : Option Addr) (cl0_2 : Nat) (l0_3 : List Bool) (Al0_3 : Option Addr) (cl0_3 : Nat) (a0_4 : Int) (r0 : Bool) (H : spec_NeedsNestedLoop.f k a0_0 l0_1 l0_2 l0_3 a0_4 = some r0) : Fn Try.prog 130 [.agg #[.int .i64 a0_0, .slice Al0_1 l0_1.length cl0_1, .slice Al0_2 l0_2.length cl0_2, .slice Al0_3 l0_3.length cl0_3, .int .i64 a0_4]] [] [.sl 0 k99 Al0_1 cl0_1 l0_1 0 false, .sl 0 k99 Al0_2 cl0_2 l0_2 0 false, .sl 0 .bool Al0_3 cl0_3 l0_3 0 false] (fun v bx en => v = .bool r0 ∧ bx = [] ∧ en = []) := by
 refine fn_ 11 Try.func130 rfl rfl rfl (fun base T w0 => ?_)
 rw [spec_NeedsNestedLoop.f] at H
 refine gs (rg (so rfl (op_box (cs := [.int .i64 a0_0, .slice Al0_1 l0_1.length cl0_1, .slice Al0_2 l0_2.length cl0_2, .slice Al0_3 l0_3.length cl0_3, .int .i64 a0_4]) rfl rfl rfl fun b1 => (sv (EV.as rfl) rfl (re (gs (rg (sv (EV.fa 4 rfl) rfl (sv (EV.ld 0 none rfl rfl rfl) rfl (sv (EV.geq rfl rfl) rfl (sv (EV.mv rfl) rfl ?_)))))))))))
 revert H; refine ifsI ?_ ?_ <;> intro c1 H
 ·
  refine ts 6 rfl (dT c1) (sk rfl (sk rfl (sk rfl (sv (EV.pt rfl rfl rfl) rfl (sv (EV.as rfl) rfl (re (pr [2] [] [] rfl rfl rfl rfl ?_)))))))
  cases H
  exact rt Try.func130 rfl (.tmp rfl .nil) rfl [] [] rfl rfl rfl rfl rfl ⟨rfl, rfl, rfl⟩
 ·
  refine ts 6 rfl (dF c1) (sv (EV.fa 2 rfl) rfl (sv (EV.ld 0 none rfl rfl rfl) rfl ?_))
  revert H; refine bdI ?_; rintro t2 A2 H
  refine so rfl (op_call (spec_AllSameKey.ok k l0_2 Al0_2 cl0_2 _ A2) [⟨1, 0, 0, false⟩] 1 rfl rfl rfl rfl rfl ?_)
  rintro _ _ _ ⟨rfl, rfl, rfl⟩
  refine sv (EV.pf rfl rfl rfl) rfl (sv (EV.as rfl) rfl (re (pr [2] [] [] rfl rfl rfl rfl ?_)))
  cases H
  exact rt Try.func130 rfl (.tmp rfl .nil) rfl [] [] rfl rfl rfl rfl rfl ⟨rfl, rfl, rfl⟩
def spec_RowCost.f (a0_0 : Int) (a0_1 : Int) (a0_2 : Int) : Option (Int) := (spec_IsValidRow.f a0_0 a0_1 a0_2).bind fun t1 => (if t1 = true then (some (wrap64 (1 + a0_2))) else (some 0))
set_option maxHeartbeats 4000000 in
set_option maxRecDepth 100000 in
theorem spec_RowCost.ok (a0_0 : Int) (a0_1 : Int) (a0_2 : Int) (r0 : Int) (H : spec_RowCost.f a0_0 a0_1 a0_2 = some r0) : Fn Try.prog 83 [.agg #[.int .i64 a0_0, .int .i64 a0_1, .int .i64 a0_2]] [] [] (fun v bx en => v = .int .i64 r0 ∧ bx = [] ∧ en = []) := by
 refine fn_ 9 Try.func83 rfl rfl rfl (fun base T w0 => ?_)
 rw [spec_RowCost.f] at H
 refine gs (rg (so rfl (op_box (cs := [.int .i64 a0_0, .int .i64 a0_1, .int .i64 a0_2]) rfl rfl rfl fun b1 => (sv (EV.as rfl) rfl (re (gs (gs (rg (sv (EV.ld (v := .agg #[.int .i64 a0_0, .int .i64 a0_1, .int .i64 a0_2]) 0 (some 3) rfl rfl rfl) rfl ?_)))))))))
 revert H; refine bdI ?_; rintro t1 A1 H
 refine so rfl (op_call (spec_IsValidRow.ok a0_0 a0_1 a0_2 _ A1) [] 1 rfl rfl rfl rfl rfl ?_)
 rintro _ _ _ ⟨rfl, rfl, rfl⟩
 refine sv (EV.nt rfl) rfl (re ?_)
 revert H; refine ifsI ?_ ?_ <;> intro c2 H
 ·
  subst c2
  refine gf rfl rfl (gk (gs (rg (sv (EV.fa 2 rfl) rfl (sv (EV.ld 0 none rfl rfl rfl) rfl (sv (EV.add rfl rfl) rfl (sv (EV.as rfl) rfl (re (pr [2] [] [] rfl rfl rfl rfl ?_)))))))))
  cases H
  exact rt Try.func83 rfl (.tmp rfl .nil) rfl [] [] rfl rfl rfl rfl rfl ⟨rfl, rfl, rfl⟩
 ·
  obtain rfl := bF c2
  refine gt rfl rfl (gs (rg (sv (EV.as rfl) rfl (re ?_))))
  cases H
  exact rt Try.func83 rfl (.tmp rfl .nil) rfl [] [] rfl rfl rfl rfl rfl ⟨rfl, rfl, rfl⟩
mutual
def spec_NextChunk.j0 : Nat → Int → (List S99) → Option ((List S99) × (List S99))
 | 0, _, _ => none
 | k + 1, x4_7, l0 => if 0 ≤ x4_7 then (if x4_7 ≤ (l0.length : Int) then (if (l0.take x4_7.toNat).length ≤ 5864062014805 then (if (l0.drop x4_7.toNat).length ≤ 5864062014805 then (some (l0.take x4_7.toNat, l0.drop x4_7.toNat)) else none) else none) else none) else none
def spec_NextChunk.j1 : Nat → Int → Int → Int → Int → Bool → Bool → Bool → (List S99) → Option ((List S99) × (List S99))
 | 0, _, _, _, _, _, _, _, _ => none
 | k + 1, x7_1, x7_6, x7_7, x7_13, x7_14, x7_15, x7_25, l0 => if 0 ≤ x7_7 then (if x7_7 < (l0.length : Int) then ((spec_RowCost.f ((rd_T99 l0 x7_7).f0) ((rd_T99 l0 x7_7).f1) ((rd_T99 l0 x7_7).f2)).bind fun t24 => (spec_NextChunk.l0 k x7_1 (wrap64 (x7_6 + t24)) (wrap64 (x7_7 + 1)) l0)) else none) else none
def spec_NextChunk.l0 : Nat → Int → Int → Int → (List S99) → Option ((List S99) × (List S99))
 | 0, _, _, _, _ => none
 | k + 1, x5_1, x5_6, x5_7, l0 => if x5_7 < (l0.length : Int) then (if x5_7 = 0 then (spec_NextChunk.j1 k x5_1 x5_6 x5_7 x5_7 (decide (x5_7 = 0)) true true l0) else (if 0 ≤ x5_7 then ((spec_RowCost.f ((rd_T99 l0 x5_7).f0) ((rd_T99 l0 x5_7).f1) ((rd_T99 l0 x5_7).f2)).bind fun t28 => (if (wrap64 (x5_6 + t28)) ≤ x5_1 then (spec_NextChunk.j1 k x5_1 x5_6 x5_7 x5_7 (decide (x5_7 = 0)) false (decide ((wrap64 (x5_6 + t28)) ≤ x5_1)) l0) else (spec_NextChunk.j0 k x5_7 l0))) else none)) else (spec_NextChunk.j0 k x5_7 l0)
end
def spec_NextChunk.f (k : Nat) (l0 : List S99) (a1 : Int) : Option ((List S99) × (List S99)) := spec_NextChunk.l0 k a1 0 0 l0
set_option maxHeartbeats 4000000 in
set_option maxRecDepth 100000 in
theorem spec_NextChunk.ok (k : Nat) (l0 : List S99) (Al0 : Option Addr) (cl0 : Nat) (a1 : Int) (r0 : List S99) (r1 : List S99) (H : spec_NextChunk.f k l0 a1 = some (r0, r1)) : Fn Try.prog 131 [.slice Al0 l0.length cl0, .int .i64 a1] [] [.sl 0 k99 Al0 cl0 l0 0 false] (fun v bx en => ∃ A0 c0 A1 c1, v = .tuple #[.slice A0 r0.length c0, .slice A1 r1.length c1] ∧ bx = [] ∧ en = [.sl 2 k99 A0 c0 r0 1 true, .sl 2 k99 A1 c1 r1 2 true]) := by
 refine fn_ 46 Try.func131 rfl rfl rfl (fun base T w0 => ?_)
 rw [spec_NextChunk.f] at H
 refine gs (rg (sv (EV.as rfl) rfl (sv (EV.as rfl) rfl (re (gs (rg (sv (EV.as rfl) rfl (re (gs (rg (sv (EV.as rfl) rfl (re ?_))))))))))))
 refine jo (fun S => ∃ (m : Nat) (x4_7 : Int), spec_NextChunk.j0 m x4_7 l0 = some (r0, r1) ∧ S = ⟨[(0, .slice Al0 l0.length cl0), (7, .int .i64 x4_7)], [], [.sl 0 k99 Al0 cl0 l0 0 false]⟩) (fun S hS => ?_) (fun jh0 => ?_)
 ·
  clear H
  obtain ⟨m1, x4_7, H, rfl⟩ := hS
  rcases m1 with _ | m1
  · rw [spec_NextChunk.j0] at H; cases H
  rw [spec_NextChunk.j0] at H
  refine gs ?_
  revert H; refine ggI ?_; intro g2 H
  revert H; refine ggI ?_; intro g3 H
  refine dr [] [0] [11] 12 rfl rfl rfl rfl (xv 1 [] [0] rfl (EV.mv rfl) rfl rfl rfl rfl (xv 2 [] [0] rfl (EV.mv rfl) rfl rfl rfl rfl (cutp (l' := l0.take x4_7.toNat) 0 x4_7 0 rfl (Int.le_refl 0) g2 g3 rfl 0 dq (.inr rfl) rfl (xv 3 [] [0] rfl (EV.ct 0 x4_7 0 rfl rfl rfl rfl (Int.le_refl 0) g2 g3 rfl rfl ctnh) rfl rfl rfl rfl (xv 6 [] [0] rfl (EV.mv rfl) rfl rfl rfl rfl (xv 7 [] [0] rfl (EV.mv rfl) rfl rfl rfl rfl (cutp (l' := l0.drop x4_7.toNat) x4_7 (l0.length : Int) 0 rfl g2 g3 (Int.le_refl _) rfl 0 dq (.inl dq) ctl (xv 8 [] [0] rfl (EV.ct x4_7 (l0.length : Int) 0 rfl rfl rfl rfl g2 g3 (Int.le_refl _) rfl rfl ctnl) rfl rfl rfl rfl ?_))))))))
  refine one2 0 5 rfl rfl rfl rfl ?_ ?_
  ·
   refine op_lit (s := 3) (by_ := 24) k99 ([] : List S99) [] [] 1 [] rfl rfl rfl rfl rfl rfl rfl rfl rfl rfl rfl rfl rfl dq rfl fun A36_4 c36_4 => (xs [] [0] rfl rfl rfl ?_)
   refine one2 4 5 rfl rfl rfl rfl ?_ ?_
   ·
    revert H; refine ggI ?_; intro g5 H
    refine op_app (k := k99) (s := 3) (by_ := 24) 3 1 rfl rfl rfl rfl (ap0 g5 dq) (ap0n g5 dq) (.inl rfl) true (fun _ => .inl rfl) rfl rfl fun A40_6 c40_6 => (nmE (en := [.sl 0 k99 Al0 cl0 l0 0 false, .sl 0 k99 (cutA Al0 cl0 (0 : Int).toNat 3) (cl0 - (0 : Int).toNat) (l0.take x4_7.toNat) 0 false, .sl 0 k99 (cutA Al0 cl0 x4_7.toNat 3) (cl0 - x4_7.toNat) (l0.drop x4_7.toNat) 0 false, .sl 2 k99 A40_6 c40_6 (l0.take x4_7.toNat) 1 true]) (by kernel_rfl) (xs [] [0] rfl rfl rfl (one1 5 rfl rfl (op_lit (s := 3) (by_ := 24) k99 ([] : List S99) [] [] 2 [] rfl rfl rfl rfl rfl rfl rfl rfl rfl rfl rfl rfl rfl dq rfl fun A41_7 c41_7 => (xs [] [0] rfl rfl rfl (one1 9 rfl rfl ?_))))))
    revert H; refine ggI ?_; intro g8 H
    refine op_app (k := k99) (s := 3) (by_ := 24) 4 2 rfl rfl rfl rfl (ap0 g8 dq) (ap0n g8 dq) (.inl rfl) true (fun _ => .inl rfl) rfl rfl fun A45_9 c45_9 => (nmE (en := [.sl 0 k99 Al0 cl0 l0 0 false, .sl 0 k99 (cutA Al0 cl0 (0 : Int).toNat 3) (cl0 - (0 : Int).toNat) (l0.take x4_7.toNat) 0 false, .sl 0 k99 (cutA Al0 cl0 x4_7.toNat 3) (cl0 - x4_7.toNat) (l0.drop x4_7.toNat) 0 false, .sl 2 k99 A40_6 c40_6 (l0.take x4_7.toNat) 1 true, .sl 2 k99 A45_9 c45_9 (l0.drop x4_7.toNat) 2 true]) (by kernel_rfl) (xs [] [0] rfl rfl rfl (one1 10 rfl rfl (ov (EV.as rfl) rfl (xs [] [0] rfl rfl rfl (one1 11 rfl rfl (ov (EV.as rfl) rfl (xn rfl (xd (pr [4, 5] [] [3, 4] rfl rfl rfl rfl ?_))))))))))
    cases H
    exact rt Try.func131 rfl (.tmp rfl (.tmp rfl .nil)) rfl [] [⟨0, 2, 1, true⟩, ⟨1, 2, 2, true⟩] rfl rfl rfl rfl rfl ⟨_, _, _, _, rfl, rfl, rfl⟩
   ·
    refine op_lit (s := 3) (by_ := 24) k99 ([] : List S99) [] [] 2 [] rfl rfl rfl rfl rfl rfl rfl rfl rfl rfl rfl rfl rfl dq rfl fun A41_10 c41_10 => (xs [] [0] rfl rfl rfl (one1 4 rfl rfl ?_))
    revert H; refine ggI ?_; intro g11 H
    refine op_app (k := k99) (s := 3) (by_ := 24) 3 1 rfl rfl rfl rfl (ap0 g11 dq) (ap0n g11 dq) (.inl rfl) true (fun _ => .inl rfl) rfl rfl fun A40_12 c40_12 => (nmE (en := [.sl 0 k99 Al0 cl0 l0 0 false, .sl 0 k99 (cutA Al0 cl0 (0 : Int).toNat 3) (cl0 - (0 : Int).toNat) (l0.take x4_7.toNat) 0 false, .sl 0 k99 (cutA Al0 cl0 x4_7.toNat 3) (cl0 - x4_7.toNat) (l0.drop x4_7.toNat) 0 false, .sl 2 k99 A41_10 c41_10 [] 2 true, .sl 2 k99 A40_12 c40_12 (l0.take x4_7.toNat) 1 true]) (by kernel_rfl) (xs [] [0] rfl rfl rfl (one1 9 rfl rfl ?_)))
    revert H; refine ggI ?_; intro g13 H
    refine op_app (k := k99) (s := 3) (by_ := 24) 3 2 rfl rfl rfl rfl (ap0 g13 dq) (ap0n g13 dq) (.inl rfl) true (fun _ => .inl rfl) rfl rfl fun A45_14 c45_14 => (nmE (en := [.sl 0 k99 Al0 cl0 l0 0 false, .sl 0 k99 (cutA Al0 cl0 (0 : Int).toNat 3) (cl0 - (0 : Int).toNat) (l0.take x4_7.toNat) 0 false, .sl 0 k99 (cutA Al0 cl0 x4_7.toNat 3) (cl0 - x4_7.toNat) (l0.drop x4_7.toNat) 0 false, .sl 2 k99 A40_12 c40_12 (l0.take x4_7.toNat) 1 true, .sl 2 k99 A45_14 c45_14 (l0.drop x4_7.toNat) 2 true]) (by kernel_rfl) (xs [] [0] rfl rfl rfl (one1 10 rfl rfl (ov (EV.as rfl) rfl (xs [] [0] rfl rfl rfl (one1 11 rfl rfl (ov (EV.as rfl) rfl (xn rfl (xd (pr [4, 5] [] [3, 4] rfl rfl rfl rfl ?_))))))))))
    cases H
    exact rt Try.func131 rfl (.tmp rfl (.tmp rfl .nil)) rfl [] [⟨0, 2, 1, true⟩, ⟨1, 2, 2, true⟩] rfl rfl rfl rfl rfl ⟨_, _, _, _, rfl, rfl, rfl⟩
  ·
   refine op_lit (s := 3) (by_ := 24) k99 ([] : List S99) [] [] 1 [] rfl rfl rfl rfl rfl rfl rfl rfl rfl rfl rfl rfl rfl dq rfl fun A41_15 c41_15 => (xs [] [0] rfl rfl rfl (one1 0 rfl rfl (op_lit (s := 3) (by_ := 24) k99 ([] : List S99) [] [] 2 [] rfl rfl rfl rfl rfl rfl rfl rfl rfl rfl rfl rfl rfl dq rfl fun A36_16 c36_16 => (xs [] [0] rfl rfl rfl (one1 4 rfl rfl ?_)))))
   revert H; refine ggI ?_; intro g17 H
   refine op_app (k := k99) (s := 3) (by_ := 24) 4 1 rfl rfl rfl rfl (ap0 g17 dq) (ap0n g17 dq) (.inl rfl) true (fun _ => .inl rfl) rfl rfl fun A40_18 c40_18 => (nmE (en := [.sl 0 k99 Al0 cl0 l0 0 false, .sl 0 k99 (cutA Al0 cl0 (0 : Int).toNat 3) (cl0 - (0 : Int).toNat) (l0.take x4_7.toNat) 0 false, .sl 0 k99 (cutA Al0 cl0 x4_7.toNat 3) (cl0 - x4_7.toNat) (l0.drop x4_7.toNat) 0 false, .sl 2 k99 A41_15 c41_15 [] 1 true, .sl 2 k99 A40_18 c40_18 (l0.take x4_7.toNat) 2 true]) (by kernel_rfl) (xs [] [0] rfl rfl rfl (one1 9 rfl rfl ?_)))
   revert H; refine ggI ?_; intro g19 H
   refine op_app (k := k99) (s := 3) (by_ := 24) 3 2 rfl rfl rfl rfl (ap0 g19 dq) (ap0n g19 dq) (.inl rfl) true (fun _ => .inl rfl) rfl rfl fun A45_20 c45_20 => (nmE (en := [.sl 0 k99 Al0 cl0 l0 0 false, .sl 0 k99 (cutA Al0 cl0 (0 : Int).toNat 3) (cl0 - (0 : Int).toNat) (l0.take x4_7.toNat) 0 false, .sl 0 k99 (cutA Al0 cl0 x4_7.toNat 3) (cl0 - x4_7.toNat) (l0.drop x4_7.toNat) 0 false, .sl 2 k99 A40_18 c40_18 (l0.take x4_7.toNat) 2 true, .sl 2 k99 A45_20 c45_20 (l0.drop x4_7.toNat) 1 true]) (by kernel_rfl) (xs [] [0] rfl rfl rfl (one1 10 rfl rfl (ov (EV.as rfl) rfl (xs [] [0] rfl rfl rfl (one1 11 rfl rfl (ov (EV.as rfl) rfl (xn rfl (xd (pr [4, 5] [] [3, 4] rfl rfl rfl rfl ?_))))))))))
   cases H
   exact rt Try.func131 rfl (.tmp rfl (.tmp rfl .nil)) rfl [] [⟨0, 2, 1, true⟩, ⟨1, 2, 2, true⟩] rfl rfl rfl rfl rfl ⟨_, _, _, _, rfl, rfl, rfl⟩
 ·
  refine gb ?_
  refine lo (fun kk S => ∃ (x5_1 : Int) (x5_6 : Int) (x5_7 : Int), spec_NextChunk.l0 kk x5_1 x5_6 x5_7 l0 = some (r0, r1) ∧ S = ⟨[(0, .slice Al0 l0.length cl0), (1, .int .i64 x5_1), (6, .int .i64 x5_6), (7, .int .i64 x5_7)], [], [.sl 0 k99 Al0 cl0 l0 0 false]⟩) (fun S hS => ?_) (fun n0 ih0 S hS => ?_) ⟨a1, 0, 0, H, rfl⟩ (fun h => wk [0, 1, 6, 7] [] [⟨0, 0, 0, false⟩] h)
  · clear H; obtain ⟨_, _, _, H, _⟩ := hS; rw [spec_NextChunk.l0] at H; cases H
  clear H
  obtain ⟨x5_1, x5_6, x5_7, H, rfl⟩ := hS
  rw [spec_NextChunk.l0] at H
  refine jo (fun S => ∃ (m : Nat) (x7_1 : Int) (x7_6 : Int) (x7_7 : Int) (x7_13 : Int) (x7_14 : Bool) (x7_15 : Bool) (x7_25 : Bool), m ≤ n0 ∧ spec_NextChunk.j1 m x7_1 x7_6 x7_7 x7_13 x7_14 x7_15 x7_25 l0 = some (r0, r1) ∧ S = ⟨[(0, .slice Al0 l0.length cl0), (1, .int .i64 x7_1), (6, .int .i64 x7_6), (7, .int .i64 x7_7), (13, .int .i64 x7_13), (14, .bool x7_14), (15, .bool x7_15), (25, .bool x7_25)], [], [.sl 0 k99 Al0 cl0 l0 0 false]⟩) (fun S hS => ?_) (fun jh1 => ?_)
  ·
   clear H
   obtain ⟨m21, x7_1, x7_6, x7_7, x7_13, x7_14, x7_15, x7_25, lm21, H, rfl⟩ := hS
   rcases m21 with _ | m21
   · rw [spec_NextChunk.j1] at H; cases H
   rw [spec_NextChunk.j1] at H
   refine gb (gs (rg (sv (EV.mv rfl) rfl (sv (EV.mv rfl) rfl (sv (EV.mv rfl) rfl ?_)))))
   revert H; refine ggI ?_; intro g22 H
   revert H; refine ggI ?_; intro g23 H
   refine sv (EV.ix 0 rfl rfl rfl g22 g23 rfl) rfl (sv (EV.le (v := .agg #[.int .i64 ((rd_T99 l0 x7_7).f0), .int .i64 ((rd_T99 l0 x7_7).f1), .int .i64 ((rd_T99 l0 x7_7).f2)]) x7_7 0 (some 3) 0 z99 rfl rfl rfl g22 g23 rfl rfl rfl) rfl ?_)
   revert H; refine bdI ?_; rintro t24 A24 H
   refine so rfl (op_call (spec_RowCost.ok ((rd_T99 l0 x7_7).f0) ((rd_T99 l0 x7_7).f1) ((rd_T99 l0 x7_7).f2) _ A24) [] 1 rfl rfl rfl rfl rfl ?_)
   rintro _ _ _ ⟨rfl, rfl, rfl⟩
   exact sv (EV.add rfl rfl) rfl (sv (EV.as rfl) rfl (re (pr [0, 1, 6, 7, 13, 14, 15, 25] [] [0] rfl rfl rfl rfl (rg (sv (EV.mv rfl) rfl (sv (EV.add rfl rfl) rfl (sv (EV.as rfl) rfl (re (ge (wk [0, 1, 6, 7] [] [⟨0, 0, 0, false⟩] (ih0 _ (by omega) _ ⟨x7_1, wrap64 (x7_6 + t24), wrap64 (x7_7 + 1), H, rfl⟩)))))))))))
  ·
   refine gs (rg (sv (EV.mv rfl) rfl (sv (EV.mv rfl) rfl (sv (EV.ln rfl) rfl (sv (EV.lss rfl rfl) rfl (sv (EV.mv rfl) rfl ?_))))))
   revert H; refine ifsI ?_ ?_ <;> intro c25 H
   ·
    refine ts 12 rfl (dT c25) (sv (EV.mv rfl) rfl (sv (EV.eql rfl rfl) rfl (sv (EV.mv rfl) rfl ?_)))
    revert H; refine ifsI ?_ ?_ <;> intro c26 H
    ·
     exact ts 15 rfl (dT c26) (sk rfl (sk rfl (sk rfl (sk rfl (sk rfl (sk rfl (sk rfl (sk rfl (sk rfl (sv (EV.pt rfl rfl rfl) rfl (sv (EV.pt rfl rfl rfl) rfl (re (pr [0, 1, 6, 7, 13, 14, 15, 25, 26] [] [0] rfl rfl rfl rfl (gt rfl rfl (gk (wk [0, 1, 6, 7, 13, 14, 15, 25] [] [⟨0, 0, 0, false⟩] (jh1 _ ⟨_, x5_1, x5_6, x5_7, x5_7, decide (x5_7 = 0), true, true, by omega, H, rfl⟩)))))))))))))))))
    ·
     refine ts 15 rfl (dF c26) (sv (EV.mv rfl) rfl (sv (EV.mv rfl) rfl (sv (EV.mv rfl) rfl ?_)))
     revert H; refine ggI ?_; intro g27 H
     refine sv (EV.ix 0 rfl rfl rfl g27 c25 rfl) rfl (sv (EV.le (v := .agg #[.int .i64 ((rd_T99 l0 x5_7).f0), .int .i64 ((rd_T99 l0 x5_7).f1), .int .i64 ((rd_T99 l0 x5_7).f2)]) x5_7 0 (some 3) 0 z99 rfl rfl rfl g27 c25 rfl rfl rfl) rfl ?_)
     revert H; refine bdI ?_; rintro t28 A28 H
     refine so rfl (op_call (spec_RowCost.ok ((rd_T99 l0 x5_7).f0) ((rd_T99 l0 x5_7).f1) ((rd_T99 l0 x5_7).f2) _ A28) [] 1 rfl rfl rfl rfl rfl ?_)
     rintro _ _ _ ⟨rfl, rfl, rfl⟩
     refine sv (EV.add rfl rfl) rfl (sv (EV.mv rfl) rfl (sv (EV.leq rfl rfl) rfl (sv (EV.pf rfl rfl rfl) rfl (sv (EV.pt rfl rfl rfl) rfl (re ?_)))))
     revert H; refine ifsI ?_ ?_ <;> intro c29 H
     ·
      exact gt rfl (dT c29) (gk (wk [0, 1, 6, 7, 13, 14, 15, 25] [] [⟨0, 0, 0, false⟩] (jh1 _ ⟨_, x5_1, x5_6, x5_7, x5_7, decide (x5_7 = 0), false, decide ((wrap64 (x5_6 + t28)) ≤ x5_1), by omega, H, rfl⟩)))
     ·
      exact gf rfl (dF c29) (gx rfl (wk [0, 7] [] [⟨0, 0, 0, false⟩] (jh0 _ ⟨_, x5_7, H, rfl⟩)))
   ·
    exact ts 12 rfl (dF c25) (sk rfl (sk rfl (sk rfl (sk rfl (sk rfl (sk rfl (sk rfl (sk rfl (sk rfl (sk rfl (sk rfl (sk rfl (sk rfl (sv (EV.pf rfl rfl rfl) rfl (re (pr [0, 1, 6, 7, 26] [] [0] rfl rfl rfl rfl (gf rfl rfl (gx rfl (wk [0, 7] [] [⟨0, 0, 0, false⟩] (jh0 _ ⟨_, x5_7, H, rfl⟩))))))))))))))))))))
def spec_HashBit.f (a0 : Int) (a1 : Int) : Option (Int) := (spec_l1In.f a1 0 3).bind fun t1 => (if t1 = true then ((spec_l1In.f a0 0 9).bind fun t3 => (if t3 = true then (if 0 ≤ a1 then (some (andI (shrI (Int.tmod (wrap64 (a0 * 7)) 16) a1) 1)) else none) else (some 0))) else (some 0))
set_option maxHeartbeats 4000000 in
set_option maxRecDepth 100000 in
theorem spec_HashBit.ok (a0 : Int) (a1 : Int) (r0 : Int) (H : spec_HashBit.f a0 a1 = some r0) : Fn Try.prog 141 [.int .i64 a0, .int .i64 a1] [] [] (fun v bx en => v = .int .i64 r0 ∧ bx = [] ∧ en = []) := by
 refine fn_ 19 Try.func141 rfl rfl rfl (fun base T w0 => ?_)
 rw [spec_HashBit.f] at H
 refine gs (rg (sv (EV.as rfl) rfl (re (gs (gs (rg (sv (EV.mv rfl) rfl ?_)))))))
 revert H; refine bdI ?_; rintro t1 A1 H
 refine so rfl (op_call (spec_l1In.ok a1 0 3 _ A1) [] 1 rfl rfl rfl rfl rfl ?_)
 rintro _ _ _ ⟨rfl, rfl, rfl⟩
 refine sv (EV.nt rfl) rfl (sv (EV.mv rfl) rfl ?_)
 revert H; refine ifsI ?_ ?_ <;> intro c2 H
 ·
  subst c2
  refine ts 8 rfl rfl (sv (EV.mv rfl) rfl ?_)
  revert H; refine bdI ?_; rintro t3 A3 H
  refine so rfl (op_call (spec_l1In.ok a0 0 9 _ A3) [] 1 rfl rfl rfl rfl rfl ?_)
  rintro _ _ _ ⟨rfl, rfl, rfl⟩
  refine sv (EV.nt rfl) rfl (sv (EV.pf rfl rfl rfl) rfl (re (pr [0, 1, 12] [] [] rfl rfl rfl rfl ?_)))
  revert H; refine ifsI ?_ ?_ <;> intro c4 H
  ·
   subst c4
   refine gf rfl rfl (gk (gs (rg (sv (EV.mv rfl) rfl (sv (EV.mul rfl rfl) rfl (sv (EV.rem rfl rfl dq) rfl (sv (EV.mv rfl) rfl ?_)))))))
   revert H; refine ggI ?_; intro g5 H
   refine sv (EV.shr rfl rfl g5) rfl (sv (EV.andI rfl rfl) rfl (sv (EV.as rfl) rfl (re (pr [4] [] [] rfl rfl rfl rfl ?_))))
   cases H
   exact rt Try.func141 rfl (.tmp rfl .nil) rfl [] [] rfl rfl rfl rfl rfl ⟨rfl, rfl, rfl⟩
  ·
   obtain rfl := bF c4
   refine gt rfl rfl (gs (rg (sv (EV.as rfl) rfl (re ?_))))
   cases H
   exact rt Try.func141 rfl (.tmp rfl .nil) rfl [] [] rfl rfl rfl rfl rfl ⟨rfl, rfl, rfl⟩
 ·
  obtain rfl := bF c2
  refine ts 8 rfl rfl (sk rfl (sk rfl (sk rfl (sv (EV.pt rfl rfl rfl) rfl (re (pr [0, 1, 12] [] [] rfl rfl rfl rfl (gt rfl rfl (gs (rg (sv (EV.as rfl) rfl (re ?_)))))))))))
  cases H
  exact rt Try.func141 rfl (.tmp rfl .nil) rfl [] [] rfl rfl rfl rfl rfl ⟨rfl, rfl, rfl⟩
def spec_SplitByHashBit.l0 : Nat → Int → (List S99) → (List S99) → Int → (List S99) → Option ((List S99) × (List S99))
 | 0, _, _, _, _, _ => none
 | k + 1, x2_1, x2_6, x2_7, x2_8, l0 => if x2_8 < (l0.length : Int) then (if 0 ≤ x2_8 then ((spec_HashBit.f ((rd_T99 l0 x2_8).f0) x2_1).bind fun t5 => (if t5 = 0 then (if x2_6.length < 5864062014805 then (spec_SplitByHashBit.l0 k x2_1 (x2_6 ++ ([(⟨(rd_T99 l0 x2_8).f0, (rd_T99 l0 x2_8).f1, (rd_T99 l0 x2_8).f2⟩ : S99)] : List S99)) x2_7 (wrap64 (x2_8 + 1)) l0) else none) else (if x2_7.length < 5864062014805 then (spec_SplitByHashBit.l0 k x2_1 x2_6 (x2_7 ++ ([(⟨(rd_T99 l0 x2_8).f0, (rd_T99 l0 x2_8).f1, (rd_T99 l0 x2_8).f2⟩ : S99)] : List S99)) (wrap64 (x2_8 + 1)) l0) else none))) else none) else (some (x2_6, x2_7))
def spec_SplitByHashBit.f (k : Nat) (l0 : List S99) (a1 : Int) : Option ((List S99) × (List S99)) := spec_SplitByHashBit.l0 k a1 [] [] 0 l0
set_option maxHeartbeats 4000000 in
set_option maxRecDepth 100000 in
theorem spec_SplitByHashBit.ok (k : Nat) (l0 : List S99) (Al0 : Option Addr) (cl0 : Nat) (a1 : Int) (r0 : List S99) (r1 : List S99) (H : spec_SplitByHashBit.f k l0 a1 = some (r0, r1)) : Fn Try.prog 126 [.slice Al0 l0.length cl0, .int .i64 a1] [] [.sl 0 k99 Al0 cl0 l0 0 false] (fun v bx en => ∃ A0 c0 A1 c1, v = .tuple #[.slice A0 r0.length c0, .slice A1 r1.length c1] ∧ bx = [] ∧ en = [.sl 2 k99 A0 c0 r0 1 true, .sl 2 k99 A1 c1 r1 2 true]) := by
 refine fn_ 41 Try.func126 rfl rfl rfl (fun base T w0 => ?_)
 rw [spec_SplitByHashBit.f] at H
 refine gs (rg (sv (EV.as rfl) rfl (sv (EV.as rfl) rfl (re (gs (rg (so rfl (op_lit (s := 3) (by_ := 24) k99 ([] : List S99) [] [] 1 [] rfl rfl rfl rfl rfl rfl rfl rfl rfl rfl rfl rfl rfl dq rfl fun A9_1 c9_1 => (sv (EV.as rfl) rfl (re (gs (rg (so rfl (op_lit (s := 3) (by_ := 24) k99 ([] : List S99) [] [] 2 [] rfl rfl rfl rfl rfl rfl rfl rfl rfl rfl rfl rfl rfl dq rfl fun A10_2 c10_2 => (sv (EV.as rfl) rfl (re (gs (gs (rg (sv (EV.as rfl) rfl (re (gb ?_))))))))))))))))))))))
 refine lo (fun kk S => ∃ (x2_1 : Int) (x2_6 : List S99) (Ax2_6 : Option Addr) (cx2_6 : Nat) (x2_7 : List S99) (Ax2_7 : Option Addr) (cx2_7 : Nat) (x2_8 : Int), spec_SplitByHashBit.l0 kk x2_1 x2_6 x2_7 x2_8 l0 = some (r0, r1) ∧ S = ⟨[(0, .slice Al0 l0.length cl0), (1, .int .i64 x2_1), (6, .slice Ax2_6 x2_6.length cx2_6), (7, .slice Ax2_7 x2_7.length cx2_7), (8, .int .i64 x2_8)], [], [.sl 2 k99 Ax2_6 cx2_6 x2_6 1 true, .sl 2 k99 Ax2_7 cx2_7 x2_7 2 true, .sl 0 k99 Al0 cl0 l0 0 false]⟩) (fun S hS => ?_) (fun n0 ih0 S hS => ?_) ⟨a1, [], A9_1, c9_1, [], A10_2, c10_2, 0, H, rfl⟩ (fun h => wk [0, 1, 6, 7, 8] [] [⟨1, 2, 1, true⟩, ⟨2, 2, 2, true⟩, ⟨0, 0, 0, false⟩] h)
 · clear H; obtain ⟨_, _, _, _, _, _, _, _, H, _⟩ := hS; rw [spec_SplitByHashBit.l0] at H; cases H
 clear H
 obtain ⟨x2_1, x2_6, Ax2_6, cx2_6, x2_7, Ax2_7, cx2_7, x2_8, H, rfl⟩ := hS
 rw [spec_SplitByHashBit.l0] at H
 refine gs (gs (rg (sv (EV.mv rfl) rfl (sv (EV.mv rfl) rfl (sv (EV.ln rfl) rfl (sv (EV.lss rfl rfl) rfl (re ?_)))))))
 revert H; refine ifsI ?_ ?_ <;> intro c3 H
 ·
  refine gt rfl (dT c3) (gk (gs (gb (gs (rg (sv (EV.mv rfl) rfl (sv (EV.mv rfl) rfl ?_)))))))
  revert H; refine ggI ?_; intro g4 H
  refine sv (EV.ix 2 rfl rfl rfl g4 c3 rfl) rfl (sv (EV.fa 0 rfl) rfl (sv (EV.le (v := .int .i64 ((rd_T99 l0 x2_8).f0)) x2_8 0 none 2 z99 rfl rfl rfl g4 c3 rfl rfl rfl) rfl (sv (EV.mv rfl) rfl ?_)))
  revert H; refine bdI ?_; rintro t5 A5 H
  refine so rfl (op_call (spec_HashBit.ok ((rd_T99 l0 x2_8).f0) x2_1 _ A5) [] 3 rfl rfl rfl rfl rfl ?_)
  rintro _ _ _ ⟨rfl, rfl, rfl⟩
  refine sv (EV.eql rfl rfl) rfl (re (pr [0, 1, 6, 7, 8, 24] [] [0, 1, 2] rfl rfl rfl rfl ?_))
  revert H; refine ifsI ?_ ?_ <;> intro c6 H
  ·
   refine gt rfl (dT c6) (rg (sv (EV.mv rfl) rfl (sv (EV.mv rfl) rfl (sv (EV.mv rfl) rfl (sv (EV.ix 2 rfl rfl rfl g4 c3 rfl) rfl (sv (EV.le (v := .agg #[.int .i64 ((rd_T99 l0 x2_8).f0), .int .i64 ((rd_T99 l0 x2_8).f1), .int .i64 ((rd_T99 l0 x2_8).f2)]) x2_8 0 (some 3) 2 z99 rfl rfl rfl g4 c3 rfl rfl rfl) rfl (so rfl (op_lit (s := 3) (by_ := 24) k99 ([(⟨(rd_T99 l0 x2_8).f0, (rd_T99 l0 x2_8).f1, (rd_T99 l0 x2_8).f2⟩ : S99)] : List S99) [[]] [] 3 [.tmp 29] rfl rfl rfl rfl rfl rfl rfl rfl rfl rfl rfl rfl rfl dq rfl fun A30_7 c30_7 => ?_))))))))
   revert H; refine ggI ?_; intro g8 H
   exact so rfl (op_app (k := k99) (s := 3) (by_ := 24) 0 3 rfl rfl rfl rfl (ap1 g8 dq) (ap1n g8 dq) (.inl rfl) true (fun _ => .inl rfl) rfl rfl fun A31_9 c31_9 => (nmE (en := [.sl 2 k99 Ax2_7 cx2_7 x2_7 2 true, .sl 0 k99 Al0 cl0 l0 0 false, .sl 2 k99 A30_7 c30_7 ([(⟨(rd_T99 l0 x2_8).f0, (rd_T99 l0 x2_8).f1, (rd_T99 l0 x2_8).f2⟩ : S99)] : List S99) 3 true, .sl 2 k99 A31_9 c31_9 (x2_6 ++ ([(⟨(rd_T99 l0 x2_8).f0, (rd_T99 l0 x2_8).f1, (rd_T99 l0 x2_8).f2⟩ : S99)] : List S99)) 1 true]) (by kernel_rfl) (sv (EV.as rfl) rfl (re (pr [0, 1, 6, 7, 8] [] [0, 1, 3] rfl rfl rfl rfl (ge (rg (sv (EV.mv rfl) rfl (sv (EV.add rfl rfl) rfl (sv (EV.as rfl) rfl (re (wk [0, 1, 6, 7, 8] [] [⟨2, 2, 1, true⟩, ⟨0, 2, 2, true⟩, ⟨1, 0, 0, false⟩] (ih0 _ (by omega) _ ⟨x2_1, x2_6 ++ ([(⟨(rd_T99 l0 x2_8).f0, (rd_T99 l0 x2_8).f1, (rd_T99 l0 x2_8).f2⟩ : S99)] : List S99), A31_9, c31_9, x2_7, Ax2_7, cx2_7, wrap64 (x2_8 + 1), H, rfl⟩)))))))))))))
  ·
   refine gf rfl (dF c6) (rg (sv (EV.mv rfl) rfl (sv (EV.mv rfl) rfl (sv (EV.mv rfl) rfl (sv (EV.ix 2 rfl rfl rfl g4 c3 rfl) rfl (sv (EV.le (v := .agg #[.int .i64 ((rd_T99 l0 x2_8).f0), .int .i64 ((rd_T99 l0 x2_8).f1), .int .i64 ((rd_T99 l0 x2_8).f2)]) x2_8 0 (some 3) 2 z99 rfl rfl rfl g4 c3 rfl rfl rfl) rfl (so rfl (op_lit (s := 3) (by_ := 24) k99 ([(⟨(rd_T99 l0 x2_8).f0, (rd_T99 l0 x2_8).f1, (rd_T99 l0 x2_8).f2⟩ : S99)] : List S99) [[]] [] 3 [.tmp 36] rfl rfl rfl rfl rfl rfl rfl rfl rfl rfl rfl rfl rfl dq rfl fun A37_10 c37_10 => ?_))))))))
   revert H; refine ggI ?_; intro g11 H
   exact so rfl (op_app (k := k99) (s := 3) (by_ := 24) 1 3 rfl rfl rfl rfl (ap1 g11 dq) (ap1n g11 dq) (.inl rfl) true (fun _ => .inl rfl) rfl rfl fun A38_12 c38_12 => (nmE (en := [.sl 2 k99 Ax2_6 cx2_6 x2_6 1 true, .sl 0 k99 Al0 cl0 l0 0 false, .sl 2 k99 A37_10 c37_10 ([(⟨(rd_T99 l0 x2_8).f0, (rd_T99 l0 x2_8).f1, (rd_T99 l0 x2_8).f2⟩ : S99)] : List S99) 3 true, .sl 2 k99 A38_12 c38_12 (x2_7 ++ ([(⟨(rd_T99 l0 x2_8).f0, (rd_T99 l0 x2_8).f1, (rd_T99 l0 x2_8).f2⟩ : S99)] : List S99)) 2 true]) (by kernel_rfl) (sv (EV.as rfl) rfl (re (pr [0, 1, 6, 7, 8] [] [0, 1, 3] rfl rfl rfl rfl (ge (rg (sv (EV.mv rfl) rfl (sv (EV.add rfl rfl) rfl (sv (EV.as rfl) rfl (re (wk [0, 1, 6, 7, 8] [] [⟨0, 2, 1, true⟩, ⟨2, 2, 2, true⟩, ⟨1, 0, 0, false⟩] (ih0 _ (by omega) _ ⟨x2_1, x2_6, Ax2_6, cx2_6, x2_7 ++ ([(⟨(rd_T99 l0 x2_8).f0, (rd_T99 l0 x2_8).f1, (rd_T99 l0 x2_8).f2⟩ : S99)] : List S99), A38_12, c38_12, wrap64 (x2_8 + 1), H, rfl⟩)))))))))))))
 ·
  refine gf rfl (dF c3) (gx rfl (gs (rg (sv (EV.mv rfl) rfl (sv (EV.mv rfl) rfl (sv (EV.as rfl) rfl (sv (EV.as rfl) rfl (re (pr [4, 5] [] [0, 1] rfl rfl rfl rfl ?_)))))))))
  cases H
  exact rt Try.func126 rfl (.tmp rfl (.tmp rfl .nil)) rfl [] [⟨0, 2, 1, true⟩, ⟨1, 2, 2, true⟩] rfl rfl rfl rfl rfl ⟨_, _, _, _, rfl, rfl, rfl⟩
def spec_PartitionTask.l0 : Nat → Int → Int → Int → Int → (List S99) → (List S99) → (List Bool) → Int → Int → (List S99) → (List S99) → (List Bool) → Int → Int → (List S99) → (List S99) → (List Bool) → Int → Int → (List S99) → (List S99) → (List Bool) → Int → (List S99) → (List S99) → (List Bool) → Option (Int × (List S99) × (List S99) × (List Bool) × Int × Int × (List S99) × (List S99) × (List Bool) × Int × Bool)
 | 0, _, _, _, _, _, _, _, _, _, _, _, _, _, _, _, _, _, _, _, _, _, _, _, _, _, _ => none
 | k + 1, x2_7, x2_1_0, x2_1_4, x2_2_0, x2_2_1, x2_2_2, x2_2_3, x2_2_4, x2_3_0, x2_3_1, x2_3_2, x2_3_3, x2_3_4, x2_5_0, x2_5_1, x2_5_2, x2_5_3, x2_5_4, x2_6_0, x2_6_1, x2_6_2, x2_6_3, x2_6_4, l0_1, l0_2, l0_3 => if x2_7 < (l0_1.length : Int) then (if 0 ≤ x2_7 then ((spec_HashBit.f ((rd_T99 l0_1 x2_7).f0) x2_1_4).bind fun t7 => (if t7 = 0 then (if x2_5_1.length < 5864062014805 then (if x2_7 < (l0_3.length : Int) then (if x2_5_3.length < 140737488355328 then (spec_PartitionTask.l0 k (wrap64 (x2_7 + 1)) x2_1_0 x2_1_4 x2_2_0 x2_2_1 x2_2_2 x2_2_3 x2_2_4 x2_3_0 x2_3_1 x2_3_2 x2_3_3 x2_3_4 x2_5_0 (x2_5_1 ++ ([(⟨(rd_T99 l0_1 x2_7).f0, (rd_T99 l0_1 x2_7).f1, (rd_T99 l0_1 x2_7).f2⟩ : S99)] : List S99)) x2_5_2 (x2_5_3 ++ ([rdOf false l0_3 x2_7] : List Bool)) x2_5_4 x2_6_0 x2_6_1 x2_6_2 x2_6_3 x2_6_4 l0_1 l0_2 l0_3) else none) else none) else none) else (if x2_6_1.length < 5864062014805 then (if x2_7 < (l0_3.length : Int) then (if x2_6_3.length < 140737488355328 then (spec_PartitionTask.l0 k (wrap64 (x2_7 + 1)) x2_1_0 x2_1_4 x2_2_0 x2_2_1 x2_2_2 x2_2_3 x2_2_4 x2_3_0 x2_3_1 x2_3_2 x2_3_3 x2_3_4 x2_5_0 x2_5_1 x2_5_2 x2_5_3 x2_5_4 x2_6_0 (x2_6_1 ++ ([(⟨(rd_T99 l0_1 x2_7).f0, (rd_T99 l0_1 x2_7).f1, (rd_T99 l0_1 x2_7).f2⟩ : S99)] : List S99)) x2_6_2 (x2_6_3 ++ ([rdOf false l0_3 x2_7] : List Bool)) x2_6_4 l0_1 l0_2 l0_3) else none) else none) else none))) else none) else (some (x2_5_0, x2_5_1, x2_5_2, x2_5_3, x2_5_4, x2_6_0, x2_6_1, x2_6_2, x2_6_3, x2_6_4, true))
def spec_PartitionTask.f (k : Nat) (a0_0 : Int) (l0_1 : List S99) (l0_2 : List S99) (l0_3 : List Bool) (a0_4 : Int) : Option (Int × (List S99) × (List S99) × (List Bool) × Int × Int × (List S99) × (List S99) × (List Bool) × Int × Bool) := (spec_IsValidTask.f k a0_0 l0_1 l0_2 l0_3 a0_4).bind fun t1 => (if t1 = true then (if a0_4 = 4 then (some (0, [], [], [], 0, 0, [], [], [], 0, false)) else ((spec_SplitByHashBit.f k l0_2 a0_4).bind fun bt4 => (spec_PartitionTask.l0 k 0 a0_0 a0_4 0 [] [] [] 0 0 [] [] [] 0 a0_0 [] bt4.1 [] (wrap64 (a0_4 + 1)) a0_0 [] bt4.2 [] (wrap64 (a0_4 + 1)) l0_1 l0_2 l0_3))) else (some (0, [], [], [], 0, 0, [], [], [], 0, false)))
set_option maxHeartbeats 4000000 in
set_option maxRecDepth 100000 in
theorem spec_PartitionTask.ok (k : Nat) (a0_0 : Int) (l0_1 : List S99) (Al0_1 : Option Addr) (cl0_1 : Nat) (l0_2 : List S99) (Al0_2 : Option Addr) (cl0_2 : Nat) (l0_3 : List Bool) (Al0_3 : Option Addr) (cl0_3 : Nat) (a0_4 : Int) (r0 : Int) (r1 : List S99) (r2 : List S99) (r3 : List Bool) (r4 : Int) (r5 : Int) (r6 : List S99) (r7 : List S99) (r8 : List Bool) (r9 : Int) (r10 : Bool) (H : spec_PartitionTask.f k a0_0 l0_1 l0_2 l0_3 a0_4 = some (r0, r1, r2, r3, r4, r5, r6, r7, r8, r9, r10)) : Fn Try.prog 132 [.agg #[.int .i64 a0_0, .slice Al0_1 l0_1.length cl0_1, .slice Al0_2 l0_2.length cl0_2, .slice Al0_3 l0_3.length cl0_3, .int .i64 a0_4]] [] [.sl 0 k99 Al0_1 cl0_1 l0_1 0 false, .sl 0 k99 Al0_2 cl0_2 l0_2 0 false, .sl 0 .bool Al0_3 cl0_3 l0_3 0 false] (fun v bx en => ∃ A1 c1 A2 c2 A3 c3 A6 c6 A7 c7 A8 c8, v = .tuple #[.agg #[.int .i64 r0, .slice A1 r1.length c1, .slice A2 r2.length c2, .slice A3 r3.length c3, .int .i64 r4], .agg #[.int .i64 r5, .slice A6 r6.length c6, .slice A7 r7.length c7, .slice A8 r8.length c8, .int .i64 r9], .bool r10] ∧ bx = [] ∧ en = [.sl 2 k99 A1 c1 r1 1 true, .sl 2 k99 A2 c2 r2 2 true, .sl 2 .bool A3 c3 r3 3 true, .sl 2 k99 A6 c6 r6 4 true, .sl 2 k99 A7 c7 r7 5 true, .sl 2 .bool A8 c8 r8 6 true]) := by
 refine fn_ 99 Try.func132 rfl rfl rfl (fun base T w0 => ?_)
 rw [spec_PartitionTask.f] at H
 refine gs (rg (so rfl (op_box (cs := [.int .i64 a0_0, .slice Al0_1 l0_1.length cl0_1, .slice Al0_2 l0_2.length cl0_2, .slice Al0_3 l0_3.length cl0_3, .int .i64 a0_4]) rfl rfl rfl fun b1 => (so rfl (op_alloc (cs := [.int .i64 0, .slice none 0 0, .slice none 0 0, .slice none 0 0, .int .i64 0]) (by kernel_rfl) rfl fun b2 => (so rfl (op_alloc (cs := [.int .i64 0, .slice none 0 0, .slice none 0 0, .slice none 0 0, .int .i64 0]) (by kernel_rfl) rfl fun b3 => (sv (EV.as rfl) rfl (re (gs (gs (rg (sv (EV.ld (v := .agg #[.int .i64 a0_0, .slice Al0_1 l0_1.length cl0_1, .slice Al0_2 l0_2.length cl0_2, .slice Al0_3 l0_3.length cl0_3, .int .i64 a0_4]) 0 (some 5) rfl rfl rfl) rfl ?_)))))))))))))
 revert H; refine bdI ?_; rintro t1 A1 H
 refine so rfl (op_call (spec_IsValidTask.ok k a0_0 l0_1 Al0_1 cl0_1 l0_2 Al0_2 cl0_2 l0_3 Al0_3 cl0_3 a0_4 _ A1) [⟨0, 0, 0, false⟩, ⟨1, 0, 0, false⟩, ⟨2, 0, 0, false⟩] 1 rfl rfl rfl rfl rfl ?_)
 rintro _ _ _ ⟨rfl, rfl, rfl⟩
 refine sv (EV.nt rfl) rfl (sv (EV.mv rfl) rfl ?_)
 revert H; refine ifsI ?_ ?_ <;> intro c2 H
 ·
  subst c2
  refine ts 11 rfl rfl (sv (EV.fa 4 rfl) rfl (sv (EV.ld 0 none rfl rfl rfl) rfl (sv (EV.eql rfl rfl) rfl (sv (EV.pf rfl rfl rfl) rfl (re (pr [1, 2, 3, 15] [0, 1, 2] [0, 1, 2] rfl rfl rfl rfl ?_))))))
  revert H; refine ifsI ?_ ?_ <;> intro c3 H
  ·
   refine gt rfl (dT c3) (gs (rg (sv (EV.bd (v := .agg #[.int .i64 0, .slice none 0 0, .slice none 0 0, .slice none 0 0, .int .i64 0]) rfl (by kernel_rfl)) rfl (sv (EV.bd (v := .agg #[.int .i64 0, .slice none 0 0, .slice none 0 0, .slice none 0 0, .int .i64 0]) rfl (by kernel_rfl)) rfl (so rfl (op_st (cs' := [.int .i64 0, .slice none 0 0, .slice none 0 0, .slice none 0 0, .int .i64 0]) 1 rfl rfl rfl rfl rfl rfl (so rfl (op_st (cs' := [.int .i64 0, .slice none 0 0, .slice none 0 0, .slice none 0 0, .int .i64 0]) 2 rfl rfl rfl rfl rfl rfl (sv (EV.as rfl) rfl (re (nil_ k99 1 dq (nil_ k99 2 dq (nil_ .bool 3 dq (nil_ k99 4 dq (nil_ k99 5 dq (nil_ .bool 6 dq ?_))))))))))))))))
   cases H
   exact rt Try.func132 rfl (.cell 1 (some 5) rfl rfl rfl (.cell 2 (some 5) rfl rfl rfl (.tmp rfl .nil))) rfl [] [⟨3, 2, 1, true⟩, ⟨4, 2, 2, true⟩, ⟨5, 2, 3, true⟩, ⟨6, 2, 4, true⟩, ⟨7, 2, 5, true⟩, ⟨8, 2, 6, true⟩] rfl rfl rfl rfl rfl ⟨_, _, _, _, _, _, _, _, _, _, _, _, rfl, rfl, rfl⟩
  ·
   refine gf rfl (dF c3) (gk (gs (rg (sv (EV.fa 0 rfl) rfl (sv (EV.ld 0 none rfl rfl rfl) rfl (sv (EV.fa 4 rfl) rfl (sv (EV.ld 0 none rfl rfl rfl) rfl (sv (EV.add rfl rfl) rfl (sv (EV.bd (v := .agg #[.int .i64 a0_0, .slice none 0 0, .slice none 0 0, .slice none 0 0, .int .i64 (wrap64 (a0_4 + 1))]) rfl (by kernel_rfl)) rfl (so rfl (op_alloc (cs := [.int .i64 0, .slice none 0 0, .slice none 0 0, .slice none 0 0, .int .i64 0]) (by kernel_rfl) rfl fun b5 => (so rfl (op_st (cs' := [.int .i64 a0_0, .slice none 0 0, .slice none 0 0, .slice none 0 0, .int .i64 (wrap64 (a0_4 + 1))]) 3 rfl rfl rfl rfl rfl rfl (re (pr [1, 2, 3, 5] [0, 1, 2, 3] [0, 1, 2] rfl rfl rfl rfl (gs (rg (sv (EV.fa 0 rfl) rfl (sv (EV.ld 0 none rfl rfl rfl) rfl (sv (EV.fa 4 rfl) rfl (sv (EV.ld 0 none rfl rfl rfl) rfl (sv (EV.add rfl rfl) rfl (sv (EV.bd (v := .agg #[.int .i64 a0_0, .slice none 0 0, .slice none 0 0, .slice none 0 0, .int .i64 (wrap64 (a0_4 + 1))]) rfl (by kernel_rfl)) rfl (so rfl (op_alloc (cs := [.int .i64 0, .slice none 0 0, .slice none 0 0, .slice none 0 0, .int .i64 0]) (by kernel_rfl) rfl fun b6 => (so rfl (op_st (cs' := [.int .i64 a0_0, .slice none 0 0, .slice none 0 0, .slice none 0 0, .int .i64 (wrap64 (a0_4 + 1))]) 4 rfl rfl rfl rfl rfl rfl (re (pr [1, 2, 3, 5, 6] [0, 1, 2, 3, 4] [0, 1, 2] rfl rfl rfl rfl ?_)))))))))))))))))))))))))))))
   refine gs (rg (sv (EV.fa 2 rfl) rfl (sv (EV.ld 0 none rfl rfl rfl) rfl (sv (EV.fa 4 rfl) rfl (sv (EV.ld 0 none rfl rfl rfl) rfl ?_)))))
   revert H; refine bdI ?_; rintro ⟨t4_0, t4_1⟩ A4 H
   refine so rfl (op_call (spec_SplitByHashBit.ok k l0_2 Al0_2 cl0_2 a0_4 _ _ A4) [⟨1, 0, 0, false⟩] 1 rfl rfl rfl rfl rfl ?_)
   rintro _ _ _ ⟨At4_0, ct4_0, At4_1, ct4_1, rfl, rfl, rfl⟩
   refine sv (EV.mv rfl) rfl (sv (EV.ex rfl rfl) rfl (sv (EV.ex rfl rfl) rfl (sv (EV.fa 2 rfl) rfl (so rfl (op_st (cs' := [.int .i64 a0_0, .slice none 0 0, .slice At4_0 t4_0.length ct4_0, .slice none 0 0, .int .i64 (wrap64 (a0_4 + 1))]) 3 rfl rfl rfl rfl rfl rfl (sv (EV.fa 2 rfl) rfl (so rfl (op_st (cs' := [.int .i64 a0_0, .slice none 0 0, .slice At4_1 t4_1.length ct4_1, .slice none 0 0, .int .i64 (wrap64 (a0_4 + 1))]) 4 rfl rfl rfl rfl rfl rfl (re (pr [1, 2, 3, 5, 6] [0, 1, 2, 3, 4] [0, 1, 2, 3, 4] rfl rfl rfl rfl (gs (gs (rg (sv (EV.as rfl) rfl (re (gb (nil_ k99 4 dq (nil_ k99 5 dq (nil_ .bool 6 dq (nil_ k99 7 dq (nil_ k99 8 dq (nil_ .bool 9 dq (nil_ k99 10 dq (nil_ .bool 11 dq (nil_ k99 12 dq (nil_ .bool 13 dq ?_))))))))))))))))))))))))))
   refine lo (fun kk S => ∃ (x2_7 : Int) (x2_1_0 : Int) (x2_1_4 : Int) (x2_2_0 : Int) (x2_2_1 : List S99) (Ax2_2_1 : Option Addr) (cx2_2_1 : Nat) (x2_2_2 : List S99) (Ax2_2_2 : Option Addr) (cx2_2_2 : Nat) (x2_2_3 : List Bool) (Ax2_2_3 : Option Addr) (cx2_2_3 : Nat) (x2_2_4 : Int) (x2_3_0 : Int) (x2_3_1 : List S99) (Ax2_3_1 : Option Addr) (cx2_3_1 : Nat) (x2_3_2 : List S99) (Ax2_3_2 : Option Addr) (cx2_3_2 : Nat) (x2_3_3 : List Bool) (Ax2_3_3 : Option Addr) (cx2_3_3 : Nat) (x2_3_4 : Int) (x2_5_0 : Int) (x2_5_1 : List S99) (Ax2_5_1 : Option Addr) (cx2_5_1 : Nat) (x2_5_2 : List S99) (Ax2_5_2 : Option Addr) (cx2_5_2 : Nat) (x2_5_3 : List Bool) (Ax2_5_3 : Option Addr) (cx2_5_3 : Nat) (x2_5_4 : Int) (x2_6_0 : Int) (x2_6_1 : List S99) (Ax2_6_1 : Option Addr) (cx2_6_1 : Nat) (x2_6_2 : List S99) (Ax2_6_2 : Option Addr) (cx2_6_2 : Nat) (x2_6_3 : List Bool) (Ax2_6_3 : Option Addr) (cx2_6_3 : Nat) (x2_6_4 : Int), spec_PartitionTask.l0 kk x2_7 x2_1_0 x2_1_4 x2_2_0 x2_2_1 x2_2_2 x2_2_3 x2_2_4 x2_3_0 x2_3_1 x2_3_2 x2_3_3 x2_3_4 x2_5_0 x2_5_1 x2_5_2 x2_5_3 x2_5_4 x2_6_0 x2_6_1 x2_6_2 x2_6_3 x2_6_4 l0_1 l0_2 l0_3 = some (r0, r1, r2, r3, r4, r5, r6, r7, r8, r9, r10) ∧ S = ⟨[(1, .pointer (some ⟨b1, 0, none⟩)), (2, .pointer (some ⟨b2, 0, none⟩)), (3, .pointer (some ⟨b3, 0, none⟩)), (5, .pointer (some ⟨b5, 0, none⟩)), (6, .pointer (some ⟨b6, 0, none⟩)), (7, .int .i64 x2_7)], [⟨b1, 27, [.int .i64 x2_1_0, .slice Al0_1 l0_1.length cl0_1, .slice Al0_2 l0_2.length cl0_2, .slice Al0_3 l0_3.length cl0_3, .int .i64 x2_1_4]⟩, ⟨b2, 27, [.int .i64 x2_2_0, .slice Ax2_2_1 x2_2_1.length cx2_2_1, .slice Ax2_2_2 x2_2_2.length cx2_2_2, .slice Ax2_2_3 x2_2_3.length cx2_2_3, .int .i64 x2_2_4]⟩, ⟨b3, 27, [.int .i64 x2_3_0, .slice Ax2_3_1 x2_3_1.length cx2_3_1, .slice Ax2_3_2 x2_3_2.length cx2_3_2, .slice Ax2_3_3 x2_3_3.length cx2_3_3, .int .i64 x2_3_4]⟩, ⟨b5, 27, [.int .i64 x2_5_0, .slice Ax2_5_1 x2_5_1.length cx2_5_1, .slice Ax2_5_2 x2_5_2.length cx2_5_2, .slice Ax2_5_3 x2_5_3.length cx2_5_3, .int .i64 x2_5_4]⟩, ⟨b6, 27, [.int .i64 x2_6_0, .slice Ax2_6_1 x2_6_1.length cx2_6_1, .slice Ax2_6_2 x2_6_2.length cx2_6_2, .slice Ax2_6_3 x2_6_3.length cx2_6_3, .int .i64 x2_6_4]⟩], [.sl 2 k99 Ax2_2_1 cx2_2_1 x2_2_1 1 true, .sl 2 k99 Ax2_2_2 cx2_2_2 x2_2_2 2 true, .sl 2 .bool Ax2_2_3 cx2_2_3 x2_2_3 3 true, .sl 2 k99 Ax2_3_1 cx2_3_1 x2_3_1 4 true, .sl 2 k99 Ax2_3_2 cx2_3_2 x2_3_2 5 true, .sl 2 .bool Ax2_3_3 cx2_3_3 x2_3_3 6 true, .sl 2 k99 Ax2_5_1 cx2_5_1 x2_5_1 7 true, .sl 2 k99 Ax2_5_2 cx2_5_2 x2_5_2 8 true, .sl 2 .bool Ax2_5_3 cx2_5_3 x2_5_3 9 true, .sl 2 k99 Ax2_6_1 cx2_6_1 x2_6_1 10 true, .sl 2 k99 Ax2_6_2 cx2_6_2 x2_6_2 11 true, .sl 2 .bool Ax2_6_3 cx2_6_3 x2_6_3 12 true, .sl 0 k99 Al0_1 cl0_1 l0_1 0 false, .sl 0 k99 Al0_2 cl0_2 l0_2 0 false, .sl 0 .bool Al0_3 cl0_3 l0_3 0 false]⟩) (fun S hS => ?_) (fun n0 ih0 S hS => ?_) ⟨0, a0_0, a0_4, 0, [], none, 0, [], none, 0, [], none, 0, 0, 0, [], none, 0, [], none, 0, [], none, 0, 0, a0_0, [], none, 0, t4_0, At4_0, ct4_0, [], none, 0, wrap64 (a0_4 + 1), a0_0, [], none, 0, t4_1, At4_1, ct4_1, [], none, 0, wrap64 (a0_4 + 1), H, rfl⟩ (fun h => wk [1, 2, 3, 5, 6, 7] [0, 1, 2, 3, 4] [⟨5, 2, 1, true⟩, ⟨6, 2, 2, true⟩, ⟨7, 2, 3, true⟩, ⟨8, 2, 4, true⟩, ⟨9, 2, 5, true⟩, ⟨10, 2, 6, true⟩, ⟨11, 2, 7, true⟩, ⟨3, 2, 8, true⟩, ⟨12, 2, 9, true⟩, ⟨13, 2, 10, true⟩, ⟨4, 2, 11, true⟩, ⟨14, 2, 12, true⟩, ⟨0, 0, 0, false⟩, ⟨1, 0, 0, false⟩, ⟨2, 0, 0, false⟩] h)
   · clear H; obtain ⟨_, _, _, _, _, _, _, _, _, _, _, _, _, _, _, _, _, _, _, _, _, _, _, _, _, _, _, _, _, _, _, _, _, _, _, _, _, _, _, _, _, _, _, _, _, _, _, H, _⟩ := hS; rw [spec_PartitionTask.l0] at H; cases H
   clear H
   obtain ⟨x2_7, x2_1_0, x2_1_4, x2_2_0, x2_2_1, Ax2_2_1, cx2_2_1, x2_2_2, Ax2_2_2, cx2_2_2, x2_2_3, Ax2_2_3, cx2_2_3, x2_2_4, x2_3_0, x2_3_1, Ax2_3_1, cx2_3_1, x2_3_2, Ax2_3_2, cx2_3_2, x2_3_3, Ax2_3_3, cx2_3_3, x2_3_4, x2_5_0, x2_5_1, Ax2_5_1, cx2_5_1, x2_5_2, Ax2_5_2, cx2_5_2, x2_5_3, Ax2_5_3, cx2_5_3, x2_5_4, x2_6_0, x2_6_1, Ax2_6_1, cx2_6_1, x2_6_2, Ax2_6_2, cx2_6_2, x2_6_3, Ax2_6_3, cx2_6_3, x2_6_4, H, rfl⟩ := hS
   rw [spec_PartitionTask.l0] at H
   refine gs (gs (rg (sv (EV.mv rfl) rfl (sv (EV.fa 1 rfl) rfl (sv (EV.ld 0 none rfl rfl rfl) rfl (sv (EV.ln rfl) rfl (sv (EV.lss rfl rfl) rfl (re ?_))))))))
   revert H; refine ifsI ?_ ?_ <;> intro c5 H
   ·
    refine gt rfl (dT c5) (gk (gs (gb (gs ?_))))
    revert H; refine ggI ?_; intro g6 H
    refine dr [0, 1, 2, 3, 4] [0, 1, 2, 3, 4, 5, 6, 7, 8, 9, 10, 11, 12, 13, 14] [] 10 rfl rfl rfl rfl (xv 0 [0, 1, 2, 3, 4] [0, 1, 2, 3, 4, 5, 6, 7, 8, 9, 10, 11, 12, 13, 14] rfl (EV.fa 1 rfl) rfl rfl rfl rfl (xv 1 [0, 1, 2, 3, 4] [0, 1, 2, 3, 4, 5, 6, 7, 8, 9, 10, 11, 12, 13, 14] rfl (EV.ld 0 none rfl rfl rfl) rfl rfl rfl rfl (xv 2 [0, 1, 2, 3, 4] [0, 1, 2, 3, 4, 5, 6, 7, 8, 9, 10, 11, 12, 13, 14] rfl (EV.mv rfl) rfl rfl rfl rfl (xv 3 [0, 1, 2, 3, 4] [0, 1, 2, 3, 4, 5, 6, 7, 8, 9, 10, 11, 12, 13, 14] rfl (EV.ix 12 rfl rfl rfl g6 c5 rfl) rfl rfl rfl rfl (xv 4 [0, 1, 2, 3, 4] [0, 1, 2, 3, 4, 5, 6, 7, 8, 9, 10, 11, 12, 13, 14] rfl (EV.fa 0 rfl) rfl rfl rfl rfl (xv 5 [0, 1, 2, 3, 4] [0, 1, 2, 3, 4, 5, 6, 7, 8, 9, 10, 11, 12, 13, 14] rfl (EV.le (v := .int .i64 ((rd_T99 l0_1 x2_7).f0)) x2_7 0 none 12 z99 rfl rfl rfl g6 c5 rfl rfl rfl) rfl rfl rfl rfl (xv 6 [0, 1, 2, 3, 4] [0, 1, 2, 3, 4, 5, 6, 7, 8, 9, 10, 11, 12, 13, 14] rfl (EV.fa 4 rfl) rfl rfl rfl rfl (xv 7 [0, 1, 2, 3, 4] [0, 1, 2, 3, 4, 5, 6, 7, 8, 9, 10, 11, 12, 13, 14] rfl (EV.ld 0 none rfl rfl rfl) rfl rfl rfl rfl (one1 8 rfl rfl ?_)))))))))
    revert H; refine bdI ?_; rintro t7 A7 H
    refine op_call (spec_HashBit.ok ((rd_T99 l0_1 x2_7).f0) x2_1_4 _ A7) [] 13 rfl rfl rfl rfl rfl ?_
    rintro _ _ _ ⟨rfl, rfl, rfl⟩
    refine xs [0, 1, 2, 3, 4] [0, 1, 2, 3, 4, 5, 6, 7, 8, 9, 10, 11, 12, 13, 14] rfl rfl rfl (xv 9 [0, 1, 2, 3, 4] [0, 1, 2, 3, 4, 5, 6, 7, 8, 9, 10, 11, 12, 13, 14] rfl (EV.eql rfl rfl) rfl rfl rfl rfl (xd (pr [1, 2, 3, 5, 6, 7, 56] [0, 1, 2, 3, 4] [0, 1, 2, 3, 4, 5, 6, 7, 8, 9, 10, 11, 12, 13, 14] rfl rfl rfl rfl ?_)))
    revert H; refine ifsI ?_ ?_ <;> intro c8 H
    ·
     refine gt rfl (dT c8) (gs ?_)
     revert H; refine ggI ?_; intro g9 H
     refine dr [0, 1, 2, 3, 4] [0, 1, 2, 3, 4, 5, 7, 8, 9, 10, 11, 12, 13, 14] [9, 10] 11 rfl rfl rfl rfl (xv 0 [0, 1, 2, 3, 4] [0, 1, 2, 3, 4, 5, 7, 8, 9, 10, 11, 12, 13, 14] rfl (EV.fa 1 rfl) rfl rfl rfl rfl (xv 1 [0, 1, 2, 3, 4] [0, 1, 2, 3, 4, 5, 7, 8, 9, 10, 11, 12, 13, 14] rfl (EV.ld 3 none rfl rfl rfl) rfl rfl rfl rfl (xv 2 [0, 1, 2, 3, 4] [0, 1, 2, 3, 4, 5, 7, 8, 9, 10, 11, 12, 13, 14] rfl (EV.fa 1 rfl) rfl rfl rfl rfl (xv 3 [0, 1, 2, 3, 4] [0, 1, 2, 3, 4, 5, 7, 8, 9, 10, 11, 12, 13, 14] rfl (EV.ld 0 none rfl rfl rfl) rfl rfl rfl rfl (xv 4 [0, 1, 2, 3, 4] [0, 1, 2, 3, 4, 5, 7, 8, 9, 10, 11, 12, 13, 14] rfl (EV.mv rfl) rfl rfl rfl rfl (xv 5 [0, 1, 2, 3, 4] [0, 1, 2, 3, 4, 5, 7, 8, 9, 10, 11, 12, 13, 14] rfl (EV.ix 11 rfl rfl rfl g6 c5 rfl) rfl rfl rfl rfl (xv 6 [0, 1, 2, 3, 4] [0, 1, 2, 3, 4, 5, 7, 8, 9, 10, 11, 12, 13, 14] rfl (EV.le (v := .agg #[.int .i64 ((rd_T99 l0_1 x2_7).f0), .int .i64 ((rd_T99 l0_1 x2_7).f1), .int .i64 ((rd_T99 l0_1 x2_7).f2)]) x2_7 0 (some 3) 11 z99 rfl rfl rfl g6 c5 rfl rfl rfl) rfl rfl rfl rfl (one1 7 rfl rfl (op_lit (s := 3) (by_ := 24) k99 ([(⟨(rd_T99 l0_1 x2_7).f0, (rd_T99 l0_1 x2_7).f1, (rd_T99 l0_1 x2_7).f2⟩ : S99)] : List S99) [[]] [] 13 [.tmp 63] rfl rfl rfl rfl rfl rfl rfl rfl rfl rfl rfl rfl rfl dq rfl fun A64_10 c64_10 => (xs [0, 1, 2, 3, 4] [0, 1, 2, 3, 4, 5, 7, 8, 9, 10, 11, 12, 13, 14] rfl rfl rfl (one1 8 rfl rfl (op_app (k := k99) (s := 3) (by_ := 24) 6 15 rfl rfl rfl rfl (ap1 g9 dq) (ap1n g9 dq) (.inl rfl) true (fun _ => .inl rfl) rfl rfl fun A65_11 c65_11 => (nmE (en := [.sl 2 k99 Ax2_2_1 cx2_2_1 x2_2_1 1 true, .sl 2 k99 Ax2_2_2 cx2_2_2 x2_2_2 2 true, .sl 2 .bool Ax2_2_3 cx2_2_3 x2_2_3 3 true, .sl 2 k99 Ax2_3_1 cx2_3_1 x2_3_1 4 true, .sl 2 k99 Ax2_3_2 cx2_3_2 x2_3_2 5 true, .sl 2 .bool Ax2_3_3 cx2_3_3 x2_3_3 6 true, .sl 2 k99 Ax2_5_2 cx2_5_2 x2_5_2 8 true, .sl 2 .bool Ax2_5_3 cx2_5_3 x2_5_3 9 true, .sl 2 k99 Ax2_6_1 cx2_6_1 x2_6_1 10 true, .sl 2 k99 Ax2_6_2 cx2_6_2 x2_6_2 11 true, .sl 2 .bool Ax2_6_3 cx2_6_3 x2_6_3 12 true, .sl 0 k99 Al0_1 cl0_1 l0_1 0 false, .sl 0 k99 Al0_2 cl0_2 l0_2 0 false, .sl 0 .bool Al0_3 cl0_3 l0_3 0 false, .sl 2 k99 A64_10 c64_10 ([(⟨(rd_T99 l0_1 x2_7).f0, (rd_T99 l0_1 x2_7).f1, (rd_T99 l0_1 x2_7).f2⟩ : S99)] : List S99) 13 true, .sl 2 k99 A65_11 c65_11 (x2_5_1 ++ ([(⟨(rd_T99 l0_1 x2_7).f0, (rd_T99 l0_1 x2_7).f1, (rd_T99 l0_1 x2_7).f2⟩ : S99)] : List S99)) 7 true]) (by kernel_rfl) (xs [0, 1, 2, 3, 4] [0, 1, 2, 3, 4, 5, 6, 7, 8, 9, 10, 11, 12, 13] rfl rfl rfl (one1 9 rfl rfl (ov (EV.fa 1 rfl) rfl (xn rfl (one1 10 rfl rfl (op_st (cs' := [.int .i64 x2_5_0, .slice A65_11 (x2_5_1 ++ ([(⟨(rd_T99 l0_1 x2_7).f0, (rd_T99 l0_1 x2_7).f1, (rd_T99 l0_1 x2_7).f2⟩ : S99)] : List S99)).length c65_11, .slice Ax2_5_2 x2_5_2.length cx2_5_2, .slice Ax2_5_3 x2_5_3.length cx2_5_3, .int .i64 x2_5_4]) 3 rfl rfl rfl rfl rfl rfl (xn rfl (xd (pr [1, 2, 3, 5, 6, 7] [0, 1, 2, 3, 4] [0, 1, 2, 3, 4, 5, 6, 7, 8, 9, 10, 11, 12, 13, 15] rfl rfl rfl rfl ?_))))))))))))))))))))))
     revert H; refine ggI ?_; intro g12 H
     revert H; refine ggI ?_; intro g13 H
     exact dr [0, 1, 2, 3, 4] [0, 1, 2, 3, 4, 5, 6, 8, 9, 10, 11, 12, 13, 14] [9, 10] 11 rfl rfl rfl rfl (xv 0 [0, 1, 2, 3, 4] [0, 1, 2, 3, 4, 5, 6, 8, 9, 10, 11, 12, 13, 14] rfl (EV.fa 3 rfl) rfl rfl rfl rfl (xv 1 [0, 1, 2, 3, 4] [0, 1, 2, 3, 4, 5, 6, 8, 9, 10, 11, 12, 13, 14] rfl (EV.ld 3 none rfl rfl rfl) rfl rfl rfl rfl (xv 2 [0, 1, 2, 3, 4] [0, 1, 2, 3, 4, 5, 6, 8, 9, 10, 11, 12, 13, 14] rfl (EV.fa 3 rfl) rfl rfl rfl rfl (xv 3 [0, 1, 2, 3, 4] [0, 1, 2, 3, 4, 5, 6, 8, 9, 10, 11, 12, 13, 14] rfl (EV.ld 0 none rfl rfl rfl) rfl rfl rfl rfl (xv 4 [0, 1, 2, 3, 4] [0, 1, 2, 3, 4, 5, 6, 8, 9, 10, 11, 12, 13, 14] rfl (EV.mv rfl) rfl rfl rfl rfl (xv 5 [0, 1, 2, 3, 4] [0, 1, 2, 3, 4, 5, 6, 8, 9, 10, 11, 12, 13, 14] rfl (EV.ix 12 rfl rfl rfl g6 g12 rfl) rfl rfl rfl rfl (xv 6 [0, 1, 2, 3, 4] [0, 1, 2, 3, 4, 5, 6, 8, 9, 10, 11, 12, 13, 14] rfl (EV.le (v := .bool (rdOf false l0_3 x2_7)) x2_7 0 none 12 false rfl rfl rfl g6 g12 rfl rfl rfl) rfl rfl rfl rfl (one1 7 rfl rfl (op_lit (s := 1) (by_ := 1) .bool ([rdOf false l0_3 x2_7] : List Bool) [[]] [] 13 [.tmp 73] rfl rfl rfl rfl rfl rfl rfl rfl rfl rfl rfl rfl rfl dq rfl fun A74_14 c74_14 => (xs [0, 1, 2, 3, 4] [0, 1, 2, 3, 4, 5, 6, 8, 9, 10, 11, 12, 13, 14] rfl rfl rfl (one1 8 rfl rfl (op_app (k := .bool) (s := 1) (by_ := 1) 7 15 rfl rfl rfl rfl (ap1 g13 dq) (ap1n g13 dq) (.inl rfl) true (fun _ => .inl rfl) rfl rfl fun A75_15 c75_15 => (nmE (en := [.sl 2 k99 Ax2_2_1 cx2_2_1 x2_2_1 1 true, .sl 2 k99 Ax2_2_2 cx2_2_2 x2_2_2 2 true, .sl 2 .bool Ax2_2_3 cx2_2_3 x2_2_3 3 true, .sl 2 k99 Ax2_3_1 cx2_3_1 x2_3_1 4 true, .sl 2 k99 Ax2_3_2 cx2_3_2 x2_3_2 5 true, .sl 2 .bool Ax2_3_3 cx2_3_3 x2_3_3 6 true, .sl 2 k99 Ax2_5_2 cx2_5_2 x2_5_2 8 true, .sl 2 k99 Ax2_6_1 cx2_6_1 x2_6_1 10 true, .sl 2 k99 Ax2_6_2 cx2_6_2 x2_6_2 11 true, .sl 2 .bool Ax2_6_3 cx2_6_3 x2_6_3 12 true, .sl 0 k99 Al0_1 cl0_1 l0_1 0 false, .sl 0 k99 Al0_2 cl0_2 l0_2 0 false, .sl 0 .bool Al0_3 cl0_3 l0_3 0 false, .sl 2 k99 A65_11 c65_11 (x2_5_1 ++ ([(⟨(rd_T99 l0_1 x2_7).f0, (rd_T99 l0_1 x2_7).f1, (rd_T99 l0_1 x2_7).f2⟩ : S99)] : List S99)) 7 true, .sl 2 .bool A74_14 c74_14 ([rdOf false l0_3 x2_7] : List Bool) 13 true, .sl 2 .bool A75_15 c75_15 (x2_5_3 ++ ([rdOf false l0_3 x2_7] : List Bool)) 9 true]) (by kernel_rfl) (xs [0, 1, 2, 3, 4] [0, 1, 2, 3, 4, 5, 6, 7, 8, 9, 10, 11, 12, 13] rfl rfl rfl (one1 9 rfl rfl (ov (EV.fa 3 rfl) rfl (xn rfl (one1 10 rfl rfl (op_st (cs' := [.int .i64 x2_5_0, .slice A65_11 (x2_5_1 ++ ([(⟨(rd_T99 l0_1 x2_7).f0, (rd_T99 l0_1 x2_7).f1, (rd_T99 l0_1 x2_7).f2⟩ : S99)] : List S99)).length c65_11, .slice Ax2_5_2 x2_5_2.length cx2_5_2, .slice A75_15 (x2_5_3 ++ ([rdOf false l0_3 x2_7] : List Bool)).length c75_15, .int .i64 x2_5_4]) 3 rfl rfl rfl rfl rfl rfl (xn rfl (xd (pr [1, 2, 3, 5, 6, 7] [0, 1, 2, 3, 4] [0, 1, 2, 3, 4, 5, 6, 7, 8, 9, 10, 11, 12, 13, 15] rfl rfl rfl rfl (ge (rg (sv (EV.mv rfl) rfl (sv (EV.add rfl rfl) rfl (sv (EV.as rfl) rfl (re (wk [1, 2, 3, 5, 6, 7] [0, 1, 2, 3, 4] [⟨0, 2, 1, true⟩, ⟨1, 2, 2, true⟩, ⟨2, 2, 3, true⟩, ⟨3, 2, 4, true⟩, ⟨4, 2, 5, true⟩, ⟨5, 2, 6, true⟩, ⟨13, 2, 7, true⟩, ⟨6, 2, 8, true⟩, ⟨14, 2, 9, true⟩, ⟨7, 2, 10, true⟩, ⟨8, 2, 11, true⟩, ⟨9, 2, 12, true⟩, ⟨10, 0, 0, false⟩, ⟨11, 0, 0, false⟩, ⟨12, 0, 0, false⟩] (ih0 _ (by omega) _ ⟨wrap64 (x2_7 + 1), x2_1_0, x2_1_4, x2_2_0, x2_2_1, Ax2_2_1, cx2_2_1, x2_2_2, Ax2_2_2, cx2_2_2, x2_2_3, Ax2_2_3, cx2_2_3, x2_2_4, x2_3_0, x2_3_1, Ax2_3_1, cx2_3_1, x2_3_2, Ax2_3_2, cx2_3_2, x2_3_3, Ax2_3_3, cx2_3_3, x2_3_4, x2_5_0, x2_5_1 ++ ([(⟨(rd_T99 l0_1 x2_7).f0, (rd_T99 l0_1 x2_7).f1, (rd_T99 l0_1 x2_7).f2⟩ : S99)] : List S99), A65_11, c65_11, x2_5_2, Ax2_5_2, cx2_5_2, x2_5_3 ++ ([rdOf false l0_3 x2_7] : List Bool), A75_15, c75_15, x2_5_4, x2_6_0, x2_6_1, Ax2_6_1, cx2_6_1, x2_6_2, Ax2_6_2, cx2_6_2, x2_6_3, Ax2_6_3, cx2_6_3, x2_6_4, H, rfl⟩))))))))))))))))))))))))))))))
    ·
     refine gf rfl (dF c8) (gs ?_)
     revert H; refine ggI ?_; intro g16 H
     refine dr [0, 1, 2, 3, 4] [0, 1, 2, 3, 4, 5, 6, 7, 8, 10, 11, 12, 13, 14] [9, 10] 11 rfl rfl rfl rfl (xv 0 [0, 1, 2, 3, 4] [0, 1, 2, 3, 4, 5, 6, 7, 8, 10, 11, 12, 13, 14] rfl (EV.fa 1 rfl) rfl rfl rfl rfl (xv 1 [0, 1, 2, 3, 4] [0, 1, 2, 3, 4, 5, 6, 7, 8, 10, 11, 12, 13, 14] rfl (EV.ld 4 none rfl rfl rfl) rfl rfl rfl rfl (xv 2 [0, 1, 2, 3, 4] [0, 1, 2, 3, 4, 5, 6, 7, 8, 10, 11, 12, 13, 14] rfl (EV.fa 1 rfl) rfl rfl rfl rfl (xv 3 [0, 1, 2, 3, 4] [0, 1, 2, 3, 4, 5, 6, 7, 8, 10, 11, 12, 13, 14] rfl (EV.ld 0 none rfl rfl rfl) rfl rfl rfl rfl (xv 4 [0, 1, 2, 3, 4] [0, 1, 2, 3, 4, 5, 6, 7, 8, 10, 11, 12, 13, 14] rfl (EV.mv rfl) rfl rfl rfl rfl (xv 5 [0, 1, 2, 3, 4] [0, 1, 2, 3, 4, 5, 6, 7, 8, 10, 11, 12, 13, 14] rfl (EV.ix 11 rfl rfl rfl g6 c5 rfl) rfl rfl rfl rfl (xv 6 [0, 1, 2, 3, 4] [0, 1, 2, 3, 4, 5, 6, 7, 8, 10, 11, 12, 13, 14] rfl (EV.le (v := .agg #[.int .i64 ((rd_T99 l0_1 x2_7).f0), .int .i64 ((rd_T99 l0_1 x2_7).f1), .int .i64 ((rd_T99 l0_1 x2_7).f2)]) x2_7 0 (some 3) 11 z99 rfl rfl rfl g6 c5 rfl rfl rfl) rfl rfl rfl rfl (one1 7 rfl rfl (op_lit (s := 3) (by_ := 24) k99 ([(⟨(rd_T99 l0_1 x2_7).f0, (rd_T99 l0_1 x2_7).f1, (rd_T99 l0_1 x2_7).f2⟩ : S99)] : List S99) [[]] [] 13 [.tmp 83] rfl rfl rfl rfl rfl rfl rfl rfl rfl rfl rfl rfl rfl dq rfl fun A84_17 c84_17 => (xs [0, 1, 2, 3, 4] [0, 1, 2, 3, 4, 5, 6, 7, 8, 10, 11, 12, 13, 14] rfl rfl rfl (one1 8 rfl rfl (op_app (k := k99) (s := 3) (by_ := 24) 9 15 rfl rfl rfl rfl (ap1 g16 dq) (ap1n g16 dq) (.inl rfl) true (fun _ => .inl rfl) rfl rfl fun A85_18 c85_18 => (nmE (en := [.sl 2 k99 Ax2_2_1 cx2_2_1 x2_2_1 1 true, .sl 2 k99 Ax2_2_2 cx2_2_2 x2_2_2 2 true, .sl 2 .bool Ax2_2_3 cx2_2_3 x2_2_3 3 true, .sl 2 k99 Ax2_3_1 cx2_3_1 x2_3_1 4 true, .sl 2 k99 Ax2_3_2 cx2_3_2 x2_3_2 5 true, .sl 2 .bool Ax2_3_3 cx2_3_3 x2_3_3 6 true, .sl 2 k99 Ax2_5_1 cx2_5_1 x2_5_1 7 true, .sl 2 k99 Ax2_5_2 cx2_5_2 x2_5_2 8 true, .sl 2 .bool Ax2_5_3 cx2_5_3 x2_5_3 9 true, .sl 2 k99 Ax2_6_2 cx2_6_2 x2_6_2 11 true, .sl 2 .bool Ax2_6_3 cx2_6_3 x2_6_3 12 true, .sl 0 k99 Al0_1 cl0_1 l0_1 0 false, .sl 0 k99 Al0_2 cl0_2 l0_2 0 false, .sl 0 .bool Al0_3 cl0_3 l0_3 0 false, .sl 2 k99 A84_17 c84_17 ([(⟨(rd_T99 l0_1 x2_7).f0, (rd_T99 l0_1 x2_7).f1, (rd_T99 l0_1 x2_7).f2⟩ : S99)] : List S99) 13 true, .sl 2 k99 A85_18 c85_18 (x2_6_1 ++ ([(⟨(rd_T99 l0_1 x2_7).f0, (rd_T99 l0_1 x2_7).f1, (rd_T99 l0_1 x2_7).f2⟩ : S99)] : List S99)) 10 true]) (by kernel_rfl) (xs [0, 1, 2, 3, 4] [0, 1, 2, 3, 4, 5, 6, 7, 8, 9, 10, 11, 12, 13] rfl rfl rfl (one1 9 rfl rfl (ov (EV.fa 1 rfl) rfl (xn rfl (one1 10 rfl rfl (op_st (cs' := [.int .i64 x2_6_0, .slice A85_18 (x2_6_1 ++ ([(⟨(rd_T99 l0_1 x2_7).f0, (rd_T99 l0_1 x2_7).f1, (rd_T99 l0_1 x2_7).f2⟩ : S99)] : List S99)).length c85_18, .slice Ax2_6_2 x2_6_2.length cx2_6_2, .slice Ax2_6_3 x2_6_3.length cx2_6_3, .int .i64 x2_6_4]) 4 rfl rfl rfl rfl rfl rfl (xn rfl (xd (pr [1, 2, 3, 5, 6, 7] [0, 1, 2, 3, 4] [0, 1, 2, 3, 4, 5, 6, 7, 8, 9, 10, 11, 12, 13, 15] rfl rfl rfl rfl ?_))))))))))))))))))))))
     revert H; refine ggI ?_; intro g19 H
     revert H; refine ggI ?_; intro g20 H
     exact dr [0, 1, 2, 3, 4] [0, 1, 2, 3, 4, 5, 6, 7, 8, 9, 11, 12, 13, 14] [9, 10] 11 rfl rfl rfl rfl (xv 0 [0, 1, 2, 3, 4] [0, 1, 2, 3, 4, 5, 6, 7, 8, 9, 11, 12, 13, 14] rfl (EV.fa 3 rfl) rfl rfl rfl rfl (xv 1 [0, 1, 2, 3, 4] [0, 1, 2, 3, 4, 5, 6, 7, 8, 9, 11, 12, 13, 14] rfl (EV.ld 4 none rfl rfl rfl) rfl rfl rfl rfl (xv 2 [0, 1, 2, 3, 4] [0, 1, 2, 3, 4, 5, 6, 7, 8, 9, 11, 12, 13, 14] rfl (EV.fa 3 rfl) rfl rfl rfl rfl (xv 3 [0, 1, 2, 3, 4] [0, 1, 2, 3, 4, 5, 6, 7, 8, 9, 11, 12, 13, 14] rfl (EV.ld 0 none rfl rfl rfl) rfl rfl rfl rfl (xv 4 [0, 1, 2, 3, 4] [0, 1, 2, 3, 4, 5, 6, 7, 8, 9, 11, 12, 13, 14] rfl (EV.mv rfl) rfl rfl rfl rfl (xv 5 [0, 1, 2, 3, 4] [0, 1, 2, 3, 4, 5, 6, 7, 8, 9, 11, 12, 13, 14] rfl (EV.ix 12 rfl rfl rfl g6 g19 rfl) rfl rfl rfl rfl (xv 6 [0, 1, 2, 3, 4] [0, 1, 2, 3, 4, 5, 6, 7, 8, 9, 11, 12, 13, 14] rfl (EV.le (v := .bool (rdOf false l0_3 x2_7)) x2_7 0 none 12 false rfl rfl rfl g6 g19 rfl rfl rfl) rfl rfl rfl rfl (one1 7 rfl rfl (op_lit (s := 1) (by_ := 1) .bool ([rdOf false l0_3 x2_7] : List Bool) [[]] [] 13 [.tmp 93] rfl rfl rfl rfl rfl rfl rfl rfl rfl rfl rfl rfl rfl dq rfl fun A94_21 c94_21 => (xs [0, 1, 2, 3, 4] [0, 1, 2, 3, 4, 5, 6, 7, 8, 9, 11, 12, 13, 14] rfl rfl rfl (one1 8 rfl rfl (op_app (k := .bool) (s := 1) (by_ := 1) 10 15 rfl rfl rfl rfl (ap1 g20 dq) (ap1n g20 dq) (.inl rfl) true (fun _ => .inl rfl) rfl rfl fun A95_22 c95_22 => (nmE (en := [.sl 2 k99 Ax2_2_1 cx2_2_1 x2_2_1 1 true, .sl 2 k99 Ax2_2_2 cx2_2_2 x2_2_2 2 true, .sl 2 .bool Ax2_2_3 cx2_2_3 x2_2_3 3 true, .sl 2 k99 Ax2_3_1 cx2_3_1 x2_3_1 4 true, .sl 2 k99 Ax2_3_2 cx2_3_2 x2_3_2 5 true, .sl 2 .bool Ax2_3_3 cx2_3_3 x2_3_3 6 true, .sl 2 k99 Ax2_5_1 cx2_5_1 x2_5_1 7 true, .sl 2 k99 Ax2_5_2 cx2_5_2 x2_5_2 8 true, .sl 2 .bool Ax2_5_3 cx2_5_3 x2_5_3 9 true, .sl 2 k99 Ax2_6_2 cx2_6_2 x2_6_2 11 true, .sl 0 k99 Al0_1 cl0_1 l0_1 0 false, .sl 0 k99 Al0_2 cl0_2 l0_2 0 false, .sl 0 .bool Al0_3 cl0_3 l0_3 0 false, .sl 2 k99 A85_18 c85_18 (x2_6_1 ++ ([(⟨(rd_T99 l0_1 x2_7).f0, (rd_T99 l0_1 x2_7).f1, (rd_T99 l0_1 x2_7).f2⟩ : S99)] : List S99)) 10 true, .sl 2 .bool A94_21 c94_21 ([rdOf false l0_3 x2_7] : List Bool) 13 true, .sl 2 .bool A95_22 c95_22 (x2_6_3 ++ ([rdOf false l0_3 x2_7] : List Bool)) 12 true]) (by kernel_rfl) (xs [0, 1, 2, 3, 4] [0, 1, 2, 3, 4, 5, 6, 7, 8, 9, 10, 11, 12, 13] rfl rfl rfl (one1 9 rfl rfl (ov (EV.fa 3 rfl) rfl (xn rfl (one1 10 rfl rfl (op_st (cs' := [.int .i64 x2_6_0, .slice A85_18 (x2_6_1 ++ ([(⟨(rd_T99 l0_1 x2_7).f0, (rd_T99 l0_1 x2_7).f1, (rd_T99 l0_1 x2_7).f2⟩ : S99)] : List S99)).length c85_18, .slice Ax2_6_2 x2_6_2.length cx2_6_2, .slice A95_22 (x2_6_3 ++ ([rdOf false l0_3 x2_7] : List Bool)).length c95_22, .int .i64 x2_6_4]) 4 rfl rfl rfl rfl rfl rfl (xn rfl (xd (pr [1, 2, 3, 5, 6, 7] [0, 1, 2, 3, 4] [0, 1, 2, 3, 4, 5, 6, 7, 8, 9, 10, 11, 12, 13, 15] rfl rfl rfl rfl (ge (rg (sv (EV.mv rfl) rfl (sv (EV.add rfl rfl) rfl (sv (EV.as rfl) rfl (re (wk [1, 2, 3, 5, 6, 7] [0, 1, 2, 3, 4] [⟨0, 2, 1, true⟩, ⟨1, 2, 2, true⟩, ⟨2, 2, 3, true⟩, ⟨3, 2, 4, true⟩, ⟨4, 2, 5, true⟩, ⟨5, 2, 6, true⟩, ⟨6, 2, 7, true⟩, ⟨7, 2, 8, true⟩, ⟨8, 2, 9, true⟩, ⟨13, 2, 10, true⟩, ⟨9, 2, 11, true⟩, ⟨14, 2, 12, true⟩, ⟨10, 0, 0, false⟩, ⟨11, 0, 0, false⟩, ⟨12, 0, 0, false⟩] (ih0 _ (by omega) _ ⟨wrap64 (x2_7 + 1), x2_1_0, x2_1_4, x2_2_0, x2_2_1, Ax2_2_1, cx2_2_1, x2_2_2, Ax2_2_2, cx2_2_2, x2_2_3, Ax2_2_3, cx2_2_3, x2_2_4, x2_3_0, x2_3_1, Ax2_3_1, cx2_3_1, x2_3_2, Ax2_3_2, cx2_3_2, x2_3_3, Ax2_3_3, cx2_3_3, x2_3_4, x2_5_0, x2_5_1, Ax2_5_1, cx2_5_1, x2_5_2, Ax2_5_2, cx2_5_2, x2_5_3, Ax2_5_3, cx2_5_3, x2_5_4, x2_6_0, x2_6_1 ++ ([(⟨(rd_T99 l0_1 x2_7).f0, (rd_T99 l0_1 x2_7).f1, (rd_T99 l0_1 x2_7).f2⟩ : S99)] : List S99), A85_18, c85_18, x2_6_2, Ax2_6_2, cx2_6_2, x2_6_3 ++ ([rdOf false l0_3 x2_7] : List Bool), A95_22, c95_22, x2_6_4, H, rfl⟩))))))))))))))))))))))))))))))
   ·
    refine gf rfl (dF c5) (gx rfl (gs (dr [0, 2, 3, 4] [0, 1, 2, 3, 4, 5, 6, 7, 8, 9, 10, 11, 12, 13, 14] [3, 4] 5 rfl rfl rfl rfl (xv 0 [0, 2, 3, 4] [0, 1, 2, 3, 4, 5, 6, 7, 8, 9, 10, 11, 12, 13, 14] rfl (EV.ld (v := .agg #[.int .i64 x2_5_0, .slice Ax2_5_1 x2_5_1.length cx2_5_1, .slice Ax2_5_2 x2_5_2.length cx2_5_2, .slice Ax2_5_3 x2_5_3.length cx2_5_3, .int .i64 x2_5_4]) 2 (some 5) rfl rfl rfl) rfl rfl rfl rfl (xv 1 [0, 2, 3, 4] [0, 1, 2, 3, 4, 5, 6, 7, 8, 9, 10, 11, 12, 13, 14] rfl (EV.ld (v := .agg #[.int .i64 x2_6_0, .slice Ax2_6_1 x2_6_1.length cx2_6_1, .slice Ax2_6_2 x2_6_2.length cx2_6_2, .slice Ax2_6_3 x2_6_3.length cx2_6_3, .int .i64 x2_6_4]) 3 (some 5) rfl rfl rfl) rfl rfl rfl rfl (one1 2 rfl rfl (op_st (cs' := [.int .i64 x2_5_0, .slice Ax2_5_1 x2_5_1.length cx2_5_1, .slice Ax2_5_2 x2_5_2.length cx2_5_2, .slice Ax2_5_3 x2_5_3.length cx2_5_3, .int .i64 x2_5_4]) 1 rfl rfl rfl rfl rfl rfl (xs [0, 2, 3, 4] [0, 1, 2, 3, 4, 5, 6, 7, 8, 9, 10, 11, 12, 13, 14] rfl rfl rfl (one1 3 rfl rfl (op_st (cs' := [.int .i64 x2_6_0, .slice Ax2_6_1 x2_6_1.length cx2_6_1, .slice Ax2_6_2 x2_6_2.length cx2_6_2, .slice Ax2_6_3 x2_6_3.length cx2_6_3, .int .i64 x2_6_4]) 2 rfl rfl rfl rfl rfl rfl (xn rfl (one1 4 rfl rfl (ov (EV.as rfl) rfl (xn rfl (xd (pr [2, 3, 4] [1, 2] [6, 7, 8, 9, 10, 11] rfl rfl rfl rfl ?_))))))))))))))))
    cases H
    exact rt Try.func132 rfl (.cell 0 (some 5) rfl rfl rfl (.cell 1 (some 5) rfl rfl rfl (.tmp rfl .nil))) rfl [] [⟨0, 2, 1, true⟩, ⟨1, 2, 2, true⟩, ⟨2, 2, 3, true⟩, ⟨3, 2, 4, true⟩, ⟨4, 2, 5, true⟩, ⟨5, 2, 6, true⟩] rfl rfl rfl rfl rfl ⟨_, _, _, _, _, _, _, _, _, _, _, _, rfl, rfl, rfl⟩
 ·
  obtain rfl := bF c2
  refine ts 11 rfl rfl (sk rfl (sk rfl (sk rfl (sv (EV.pt rfl rfl rfl) rfl (re (pr [1, 2, 3, 15] [0, 1, 2] [0, 1, 2] rfl rfl rfl rfl (gt rfl rfl (gs (rg (sv (EV.bd (v := .agg #[.int .i64 0, .slice none 0 0, .slice none 0 0, .slice none 0 0, .int .i64 0]) rfl (by kernel_rfl)) rfl (sv (EV.bd (v := .agg #[.int .i64 0, .slice none 0 0, .slice none 0 0, .slice none 0 0, .int .i64 0]) rfl (by kernel_rfl)) rfl (so rfl (op_st (cs' := [.int .i64 0, .slice none 0 0, .slice none 0 0, .slice none 0 0, .int .i64 0]) 1 rfl rfl rfl rfl rfl rfl (so rfl (op_st (cs' := [.int .i64 0, .slice none 0 0, .slice none 0 0, .slice none 0 0, .int .i64 0]) 2 rfl rfl rfl rfl rfl rfl (sv (EV.as rfl) rfl (re (nil_ k99 1 dq (nil_ k99 2 dq (nil_ .bool 3 dq (nil_ k99 4 dq (nil_ k99 5 dq (nil_ .bool 6 dq ?_)))))))))))))))))))))))
  cases H
  exact rt Try.func132 rfl (.cell 1 (some 5) rfl rfl rfl (.cell 2 (some 5) rfl rfl rfl (.tmp rfl .nil))) rfl [] [⟨3, 2, 1, true⟩, ⟨4, 2, 2, true⟩, ⟨5, 2, 3, true⟩, ⟨6, 2, 4, true⟩, ⟨7, 2, 5, true⟩, ⟨8, 2, 6, true⟩] rfl rfl rfl rfl rfl ⟨_, _, _, _, _, _, _, _, _, _, _, _, rfl, rfl, rfl⟩
def spec_TotalCost.l0 : Nat → Int → Int → (List S99) → Option (Int)
 | 0, _, _, _ => none
 | k + 1, x2_3, x2_4, l0 => if x2_4 < (l0.length : Int) then (if 0 ≤ x2_4 then ((spec_RowCost.f ((rd_T99 l0 x2_4).f0) ((rd_T99 l0 x2_4).f1) ((rd_T99 l0 x2_4).f2)).bind fun t3 => (spec_TotalCost.l0 k (wrap64 (x2_3 + t3)) (wrap64 (x2_4 + 1)) l0)) else none) else (some x2_3)
def spec_TotalCost.f (k : Nat) (l0 : List S99) : Option (Int) := spec_TotalCost.l0 k 0 0 l0
set_option maxHeartbeats 4000000 in
set_option maxRecDepth 100000 in
theorem spec_TotalCost.ok (k : Nat) (l0 : List S99) (Al0 : Option Addr) (cl0 : Nat) (r0 : Int) (H : spec_TotalCost.f k l0 = some r0) : Fn Try.prog 24 [.slice Al0 l0.length cl0] [] [.sl 0 k99 Al0 cl0 l0 0 false] (fun v bx en => v = .int .i64 r0 ∧ bx = [] ∧ en = []) := by
 refine fn_ 19 Try.func24 rfl rfl rfl (fun base T w0 => ?_)
 rw [spec_TotalCost.f] at H
 refine gs (rg (sv (EV.as rfl) rfl (re (gs (rg (sv (EV.as rfl) rfl (re (gs (gs (rg (sv (EV.as rfl) rfl (re (gb ?_)))))))))))))
 refine lo (fun kk S => ∃ (x2_3 : Int) (x2_4 : Int), spec_TotalCost.l0 kk x2_3 x2_4 l0 = some r0 ∧ S = ⟨[(0, .slice Al0 l0.length cl0), (3, .int .i64 x2_3), (4, .int .i64 x2_4)], [], [.sl 0 k99 Al0 cl0 l0 0 false]⟩) (fun S hS => ?_) (fun n0 ih0 S hS => ?_) ⟨0, 0, H, rfl⟩ (fun h => wk [0, 3, 4] [] [⟨0, 0, 0, false⟩] h)
 · clear H; obtain ⟨_, _, H, _⟩ := hS; rw [spec_TotalCost.l0] at H; cases H
 clear H
 obtain ⟨x2_3, x2_4, H, rfl⟩ := hS
 rw [spec_TotalCost.l0] at H
 refine gs (gs (rg (sv (EV.mv rfl) rfl (sv (EV.mv rfl) rfl (sv (EV.ln rfl) rfl (sv (EV.lss rfl rfl) rfl (re ?_)))))))
 revert H; refine ifsI ?_ ?_ <;> intro c1 H
 ·
  refine gt rfl (dT c1) (gk (gs (gb (rg (sv (EV.mv rfl) rfl (sv (EV.mv rfl) rfl (sv (EV.mv rfl) rfl ?_)))))))
  revert H; refine ggI ?_; intro g2 H
  refine sv (EV.ix 0 rfl rfl rfl g2 c1 rfl) rfl (sv (EV.le (v := .agg #[.int .i64 ((rd_T99 l0 x2_4).f0), .int .i64 ((rd_T99 l0 x2_4).f1), .int .i64 ((rd_T99 l0 x2_4).f2)]) x2_4 0 (some 3) 0 z99 rfl rfl rfl g2 c1 rfl rfl rfl) rfl ?_)
  revert H; refine bdI ?_; rintro t3 A3 H
  refine so rfl (op_call (spec_RowCost.ok ((rd_T99 l0 x2_4).f0) ((rd_T99 l0 x2_4).f1) ((rd_T99 l0 x2_4).f2) _ A3) [] 1 rfl rfl rfl rfl rfl ?_)
  rintro _ _ _ ⟨rfl, rfl, rfl⟩
  exact sv (EV.add rfl rfl) rfl (sv (EV.as rfl) rfl (re (pr [0, 3, 4] [] [0] rfl rfl rfl rfl (ge (rg (sv (EV.mv rfl) rfl (sv (EV.add rfl rfl) rfl (sv (EV.as rfl) rfl (re (wk [0, 3, 4] [] [⟨0, 0, 0, false⟩] (ih0 _ (by omega) _ ⟨wrap64 (x2_3 + t3), wrap64 (x2_4 + 1), H, rfl⟩)))))))))))
 ·
  refine gf rfl (dF c1) (gx rfl (gs (rg (sv (EV.mv rfl) rfl (sv (EV.as rfl) rfl (re (pr [2] [] [] rfl rfl rfl rfl ?_)))))))
  cases H
  exact rt Try.func24 rfl (.tmp rfl .nil) rfl [] [] rfl rfl rfl rfl rfl ⟨rfl, rfl, rfl⟩
def spec_TaskCost.f (k : Nat) (a0_0 : Int) (l0_1 : List S99) (l0_2 : List S99) (l0_3 : List Bool) (a0_4 : Int) : Option (Int) := (spec_TotalCost.f k l0_1).bind fun t1 => ((spec_TotalCost.f k l0_2).bind fun t2 => (some (wrap64 (t1 + t2))))
set_option maxHeartbeats 4000000 in
set_option maxRecDepth 100000 in
theorem spec_TaskCost.ok (k : Nat) (a0_0 : Int) (l0_1 : List S99) (Al0_1 : Option Addr) (cl0_1 : Nat) (l0_2 : List S99) (Al0_2 : Option Addr) (cl0_2 : Nat) (l0_3 : List Bool) (Al0_3 : Option Addr) (cl0_3 : Nat) (a0_4 : Int) (r0 : Int) (H : spec_TaskCost.f k a0_0 l0_1 l0_2 l0_3 a0_4 = some r0) : Fn Try.prog 133 [.agg #[.int .i64 a0_0, .slice Al0_1 l0_1.length cl0_1, .slice Al0_2 l0_2.length cl0_2, .slice Al0_3 l0_3.length cl0_3, .int .i64 a0_4]] [] [.sl 0 k99 Al0_1 cl0_1 l0_1 0 false, .sl 0 k99 Al0_2 cl0_2 l0_2 0 false, .sl 0 .bool Al0_3 cl0_3 l0_3 0 false] (fun v bx en => v = .int .i64 r0 ∧ bx = [] ∧ en = []) := by
 refine fn_ 10 Try.func133 rfl rfl rfl (fun base T w0 => ?_)
 rw [spec_TaskCost.f] at H
 refine gs (rg (so rfl (op_box (cs := [.int .i64 a0_0, .slice Al0_1 l0_1.length cl0_1, .slice Al0_2 l0_2.length cl0_2, .slice Al0_3 l0_3.length cl0_3, .int .i64 a0_4]) rfl rfl rfl fun b1 => (sv (EV.as rfl) rfl (re (gs (dr [0] [0, 1, 2] [] 8 rfl rfl rfl rfl (xv 0 [0] [0, 1, 2] rfl (EV.fa 1 rfl) rfl rfl rfl rfl (xv 1 [0] [0, 1, 2] rfl (EV.ld 0 none rfl rfl rfl) rfl rfl rfl rfl (xv 3 [0] [0, 1, 2] rfl (EV.fa 2 rfl) rfl rfl rfl rfl (xv 4 [0] [0, 1, 2] rfl (EV.ld 0 none rfl rfl rfl) rfl rfl rfl rfl (one1 2 rfl rfl ?_))))))))))))
 revert H; refine bdI ?_; rintro t1 A1 H
 refine op_call (spec_TotalCost.ok k l0_1 Al0_1 cl0_1 _ A1) [⟨0, 0, 0, false⟩] 1 rfl rfl rfl rfl rfl ?_
 rintro _ _ _ ⟨rfl, rfl, rfl⟩
 refine xs [0] [0, 1, 2] rfl rfl rfl (one1 5 rfl rfl ?_)
 revert H; refine bdI ?_; rintro t2 A2 H
 refine op_call (spec_TotalCost.ok k l0_2 Al0_2 cl0_2 _ A2) [⟨1, 0, 0, false⟩] 1 rfl rfl rfl rfl rfl ?_
 rintro _ _ _ ⟨rfl, rfl, rfl⟩
 refine xs [0] [0, 1, 2] rfl rfl rfl (xv 6 [0] [0, 1, 2] rfl (EV.add rfl rfl) rfl rfl rfl rfl (xv 7 [0] [0, 1, 2] rfl (EV.as rfl) rfl rfl rfl rfl (xd (pr [2] [] [] rfl rfl rfl rfl ?_))))
 cases H
 exact rt Try.func133 rfl (.tmp rfl .nil) rfl [] [] rfl rfl rfl rfl rfl ⟨rfl, rfl, rfl⟩
def spec_BuildSide.j0 : Nat → Int → Int → Int → (List S99) → (List S99) → (List Bool) → Option (Int)
 | 0, _, _, _, _, _, _ => none
 | k + 1, x1_1, x1_2_0, x1_2_4, l0_1, l0_2, l0_3 => (spec_TotalCost.f k l0_2).bind fun t4 => (if t4 ≤ x1_1 then (some 2) else (some 0))
def spec_BuildSide.f (k : Nat) (a0_0 : Int) (l0_1 : List S99) (l0_2 : List S99) (l0_3 : List Bool) (a0_4 : Int) (a1 : Int) : Option (Int) := (spec_IsValidTask.f k a0_0 l0_1 l0_2 l0_3 a0_4).bind fun t1 => (if t1 = true then (if a0_0 = 1 then ((spec_TotalCost.f k l0_1).bind fun t7 => ((spec_TotalCost.f k l0_2).bind fun t8 => (if t7 < t8 then ((spec_TotalCost.f k l0_1).bind fun t10 => (if t10 ≤ a1 then (some 1) else (spec_BuildSide.j0 k a1 a0_0 a0_4 l0_1 l0_2 l0_3))) else (spec_BuildSide.j0 k a1 a0_0 a0_4 l0_1 l0_2 l0_3)))) else (spec_BuildSide.j0 k a1 a0_0 a0_4 l0_1 l0_2 l0_3)) else (some 0))
set_option maxHeartbeats 4000000 in
set_option maxRecDepth 100000 in
theorem spec_BuildSide.ok (k : Nat) (a0_0 : Int) (l0_1 : List S99) (Al0_1 : Option Addr) (cl0_1 : Nat) (l0_2 : List S99) (Al0_2 : Option Addr) (cl0_2 : Nat) (l0_3 : List Bool) (Al0_3 : Option Addr) (cl0_3 : Nat) (a0_4 : Int) (a1 : Int) (r0 : Int) (H : spec_BuildSide.f k a0_0 l0_1 l0_2 l0_3 a0_4 a1 = some r0) : Fn Try.prog 21 [.agg #[.int .i64 a0_0, .slice Al0_1 l0_1.length cl0_1, .slice Al0_2 l0_2.length cl0_2, .slice Al0_3 l0_3.length cl0_3, .int .i64 a0_4], .int .i64 a1] [] [.sl 0 k99 Al0_1 cl0_1 l0_1 0 false, .sl 0 k99 Al0_2 cl0_2 l0_2 0 false, .sl 0 .bool Al0_3 cl0_3 l0_3 0 false] (fun v bx en => v = .int .i64 r0 ∧ bx = [] ∧ en = []) := by
 refine fn_ 32 Try.func21 rfl rfl rfl (fun base T w0 => ?_)
 rw [spec_BuildSide.f] at H
 refine gs (rg (so rfl (op_box (cs := [.int .i64 a0_0, .slice Al0_1 l0_1.length cl0_1, .slice Al0_2 l0_2.length cl0_2, .slice Al0_3 l0_3.length cl0_3, .int .i64 a0_4]) rfl rfl rfl fun b2 => (sv (EV.as rfl) rfl (re (gs (gs (rg (sv (EV.ld (v := .agg #[.int .i64 a0_0, .slice Al0_1 l0_1.length cl0_1, .slice Al0_2 l0_2.length cl0_2, .slice Al0_3 l0_3.length cl0_3, .int .i64 a0_4]) 0 (some 5) rfl rfl rfl) rfl ?_)))))))))
 revert H; refine bdI ?_; rintro t1 A1 H
 refine so rfl (op_call (spec_IsValidTask.ok k a0_0 l0_1 Al0_1 cl0_1 l0_2 Al0_2 cl0_2 l0_3 Al0_3 cl0_3 a0_4 _ A1) [⟨0, 0, 0, false⟩, ⟨1, 0, 0, false⟩, ⟨2, 0, 0, false⟩] 1 rfl rfl rfl rfl rfl ?_)
 rintro _ _ _ ⟨rfl, rfl, rfl⟩
 refine sv (EV.nt rfl) rfl (re ?_)
 revert H; refine ifsI ?_ ?_ <;> intro c2 H
 ·
  subst c2
  refine gf rfl rfl (gk ?_)
  refine jo (fun S => ∃ (m : Nat) (x1_1 : Int) (x1_2_0 : Int) (x1_2_4 : Int), spec_BuildSide.j0 m x1_1 x1_2_0 x1_2_4 l0_1 l0_2 l0_3 = some r0 ∧ S = ⟨[(1, .int .i64 x1_1), (2, .pointer (some ⟨b2, 0, none⟩))], [⟨b2, 27, [.int .i64 x1_2_0, .slice Al0_1 l0_1.length cl0_1, .slice Al0_2 l0_2.length cl0_2, .slice Al0_3 l0_3.length cl0_3, .int .i64 x1_2_4]⟩], [.sl 0 k99 Al0_1 cl0_1 l0_1 0 false, .sl 0 k99 Al0_2 cl0_2 l0_2 0 false, .sl 0 .bool Al0_3 cl0_3 l0_3 0 false]⟩) (fun S hS => ?_) (fun jh0 => ?_)
  ·
   clear H
   obtain ⟨m3, x1_1, x1_2_0, x1_2_4, H, rfl⟩ := hS
   rcases m3 with _ | m3
   · rw [spec_BuildSide.j0] at H; cases H
   rw [spec_BuildSide.j0] at H
   refine gs (gs (rg (sv (EV.fa 2 rfl) rfl (sv (EV.ld 0 none rfl rfl rfl) rfl ?_))))
   revert H; refine bdI ?_; rintro t4 A4 H
   refine so rfl (op_call (spec_TotalCost.ok m3 l0_2 Al0_2 cl0_2 _ A4) [⟨1, 0, 0, false⟩] 1 rfl rfl rfl rfl rfl ?_)
   rintro _ _ _ ⟨rfl, rfl, rfl⟩
   refine sv (EV.mv rfl) rfl (sv (EV.leq rfl rfl) rfl (re (pr [31] [] [] rfl rfl rfl rfl ?_)))
   revert H; refine ifsI ?_ ?_ <;> intro c5 H
   ·
    refine gt rfl (dT c5) (gs (rg (sv (EV.as rfl) rfl (re ?_))))
    cases H
    exact rt Try.func21 rfl (.tmp rfl .nil) rfl [] [] rfl rfl rfl rfl rfl ⟨rfl, rfl, rfl⟩
   ·
    refine gf rfl (dF c5) (gk (gs (rg (sv (EV.as rfl) rfl (re ?_)))))
    cases H
    exact rt Try.func21 rfl (.tmp rfl .nil) rfl [] [] rfl rfl rfl rfl rfl ⟨rfl, rfl, rfl⟩
  ·
   refine gs (dr [0] [0, 1, 2] [] 19 rfl rfl rfl rfl (xv 0 [0] [0, 1, 2] rfl (EV.fa 0 rfl) rfl rfl rfl rfl (xv 1 [0] [0, 1, 2] rfl (EV.ld 0 none rfl rfl rfl) rfl rfl rfl rfl (xv 2 [0] [0, 1, 2] rfl (EV.eql rfl rfl) rfl rfl rfl rfl (xv 3 [0] [0, 1, 2] rfl (EV.mv rfl) rfl rfl rfl rfl ?_)))))
   revert H; refine ifsI ?_ ?_ <;> intro c6 H
   ·
    refine ts 11 rfl (dT c6) (xv 4 [0] [0, 1, 2] rfl (EV.fa 1 rfl) rfl rfl rfl rfl (xv 5 [0] [0, 1, 2] rfl (EV.ld 0 none rfl rfl rfl) rfl rfl rfl rfl (xv 7 [0] [0, 1, 2] rfl (EV.fa 2 rfl) rfl rfl rfl rfl (xv 8 [0] [0, 1, 2] rfl (EV.ld 0 none rfl rfl rfl) rfl rfl rfl rfl (one1 6 rfl rfl ?_)))))
    revert H; refine bdI ?_; rintro t7 A7 H
    refine op_call (spec_TotalCost.ok k l0_1 Al0_1 cl0_1 _ A7) [⟨0, 0, 0, false⟩] 1 rfl rfl rfl rfl rfl ?_
    rintro _ _ _ ⟨rfl, rfl, rfl⟩
    refine xs [0] [0, 1, 2] rfl rfl rfl (one1 9 rfl rfl ?_)
    revert H; refine bdI ?_; rintro t8 A8 H
    refine op_call (spec_TotalCost.ok k l0_2 Al0_2 cl0_2 _ A8) [⟨1, 0, 0, false⟩] 1 rfl rfl rfl rfl rfl ?_
    rintro _ _ _ ⟨rfl, rfl, rfl⟩
    refine xs [0] [0, 1, 2] rfl rfl rfl (xv 10 [0] [0, 1, 2] rfl (EV.lss rfl rfl) rfl rfl rfl rfl (xv 11 [0] [0, 1, 2] rfl (EV.pt rfl rfl rfl) rfl rfl rfl rfl (xv 12 [0] [0, 1, 2] rfl (EV.mv rfl) rfl rfl rfl rfl ?_)))
    revert H; refine ifsI ?_ ?_ <;> intro c9 H
    ·
     refine ts 20 rfl (dT c9) (xv 13 [0] [0, 1, 2] rfl (EV.fa 1 rfl) rfl rfl rfl rfl (xv 14 [0] [0, 1, 2] rfl (EV.ld 0 none rfl rfl rfl) rfl rfl rfl rfl (xv 16 [0] [0, 1, 2] rfl (EV.mv rfl) rfl rfl rfl rfl (one1 15 rfl rfl ?_))))
     revert H; refine bdI ?_; rintro t10 A10 H
     refine op_call (spec_TotalCost.ok k l0_1 Al0_1 cl0_1 _ A10) [⟨0, 0, 0, false⟩] 1 rfl rfl rfl rfl rfl ?_
     rintro _ _ _ ⟨rfl, rfl, rfl⟩
     refine xs [0] [0, 1, 2] rfl rfl rfl (xv 17 [0] [0, 1, 2] rfl (EV.leq rfl rfl) rfl rfl rfl rfl (xv 18 [0] [0, 1, 2] rfl (EV.pt rfl rfl rfl) rfl rfl rfl rfl (xd (pr [1, 2, 26] [0] [0, 1, 2] rfl rfl rfl rfl ?_))))
     revert H; refine ifsI ?_ ?_ <;> intro c11 H
     ·
      refine gt rfl (dT c11) (gs (rg (sv (EV.as rfl) rfl (re ?_))))
      cases H
      exact rt Try.func21 rfl (.tmp rfl .nil) rfl [] [] rfl rfl rfl rfl rfl ⟨rfl, rfl, rfl⟩
     ·
      exact gf rfl (dF c11) (gk (wk [1, 2] [0] [⟨0, 0, 0, false⟩, ⟨1, 0, 0, false⟩, ⟨2, 0, 0, false⟩] (jh0 _ ⟨_, a1, a0_0, a0_4, H, rfl⟩)))
    ·
     exact ts 20 rfl (dF c9) (xk 13 [0] [0, 1, 2] rfl rfl rfl rfl rfl (xk 14 [0] [0, 1, 2] rfl rfl rfl rfl rfl (xk 16 [0] [0, 1, 2] rfl rfl rfl rfl rfl (xk 15 [0] [0, 1, 2] rfl rfl rfl rfl rfl (xk 17 [0] [0, 1, 2] rfl rfl rfl rfl rfl (xv 18 [0] [0, 1, 2] rfl (EV.pf rfl rfl rfl) rfl rfl rfl rfl (xd (pr [1, 2, 26] [0] [0, 1, 2] rfl rfl rfl rfl (gf rfl rfl (gk (wk [1, 2] [0] [⟨0, 0, 0, false⟩, ⟨1, 0, 0, false⟩, ⟨2, 0, 0, false⟩] (jh0 _ ⟨_, a1, a0_0, a0_4, H, rfl⟩))))))))))))
   ·
    exact ts 11 rfl (dF c6) (xk 4 [0] [0, 1, 2] rfl rfl rfl rfl rfl (xk 5 [0] [0, 1, 2] rfl rfl rfl rfl rfl (xk 7 [0] [0, 1, 2] rfl rfl rfl rfl rfl (xk 8 [0] [0, 1, 2] rfl rfl rfl rfl rfl (xk 6 [0] [0, 1, 2] rfl rfl rfl rfl rfl (xk 9 [0] [0, 1, 2] rfl rfl rfl rfl rfl (xk 10 [0] [0, 1, 2] rfl rfl rfl rfl rfl (xv 11 [0] [0, 1, 2] rfl (EV.pf rfl rfl rfl) rfl rfl rfl rfl (xv 12 [0] [0, 1, 2] rfl (EV.mv rfl) rfl rfl rfl rfl (xk 13 [0] [0, 1, 2] rfl rfl rfl rfl rfl (xk 14 [0] [0, 1, 2] rfl rfl rfl rfl rfl (xk 16 [0] [0, 1, 2] rfl rfl rfl rfl rfl (xk 15 [0] [0, 1, 2] rfl rfl rfl rfl rfl (xk 17 [0] [0, 1, 2] rfl rfl rfl rfl rfl (xv 18 [0] [0, 1, 2] rfl (EV.pf rfl rfl rfl) rfl rfl rfl rfl (xd (pr [1, 2, 26] [0] [0, 1, 2] rfl rfl rfl rfl (gf rfl rfl (gk (wk [1, 2] [0] [⟨0, 0, 0, false⟩, ⟨1, 0, 0, false⟩, ⟨2, 0, 0, false⟩] (jh0 _ ⟨_, a1, a0_0, a0_4, H, rfl⟩)))))))))))))))))))))
 ·
  obtain rfl := bF c2
  refine gt rfl rfl (gs (rg (sv (EV.as rfl) rfl (re (pr [4] [] [] rfl rfl rfl rfl ?_)))))
  cases H
  exact rt Try.func21 rfl (.tmp rfl .nil) rfl [] [] rfl rfl rfl rfl rfl ⟨rfl, rfl, rfl⟩
def spec_IsValidJoiner.l0 : Nat → Int → Int → Int → Int → Int → (List S27) → Option (Bool)
 | 0, _, _, _, _, _, _ => none
 | k + 1, x2_3, x2_4, x2_5, x2_1_1, x2_1_2, l0_0 => if x2_5 < (l0_0.length : Int) then (if 0 ≤ x2_5 then ((spec_IsValidTask.f k ((rd_T27 l0_0 x2_5).f0) ((rd_T27 l0_0 x2_5).f1) ((rd_T27 l0_0 x2_5).f2) ((rd_T27 l0_0 x2_5).f3) ((rd_T27 l0_0 x2_5).f4)).bind fun t6 => (if t6 = true then (if 0 < (l0_0.length : Int) then (if ((rd_T27 l0_0 x2_5).f0) = ((rd_T27 l0_0 0).f0) then (spec_IsValidJoiner.l0 k (wrap64 (x2_3 + (((rd_T27 l0_0 x2_5).f1).length : Int))) (wrap64 (x2_4 + (((rd_T27 l0_0 x2_5).f2).length : Int))) (wrap64 (x2_5 + 1)) x2_1_1 x2_1_2 l0_0) else (some false)) else none) else (some false))) else none) else (if x2_3 ≤ 24 then (if x2_4 ≤ 24 then (if (l0_0.length : Int) ≤ 40 then ((spec_l1In.f x2_1_1 0 100000).bind fun t19 => (if t19 = true then ((spec_l1In.f x2_1_2 0 1000).bind fun t21 => (some t21)) else (some false))) else (some false)) else (some false)) else (some false))
def spec_IsValidJoiner.f (k : Nat) (l0_0 : List S27) (a0_1 : Int) (a0_2 : Int) : Option (Bool) := spec_IsValidJoiner.l0 k 0 0 0 a0_1 a0_2 l0_0
set_option maxHeartbeats 4000000 in
set_option maxRecDepth 100000 in
theorem spec_IsValidJoiner.ok (k : Nat) (l0_0 : List S27) (Al0_0 : Option Addr) (cl0_0 : Nat) (a0_1 : Int) (a0_2 : Int) (r0 : Bool) (H : spec_IsValidJoiner.f k l0_0 a0_1 a0_2 = some r0) : Fn Try.prog 51 [.agg #[.slice Al0_0 l0_0.length cl0_0, .int .i64 a0_1, .int .i64 a0_2]] [] [.sl 0 k27 Al0_0 cl0_0 l0_0 0 false] (fun v bx en => v = .bool r0 ∧ bx = [] ∧ en = []) := by
 refine fn_ 74 Try.func51 rfl rfl rfl (fun base T w0 => ?_)
 rw [spec_IsValidJoiner.f] at H
 refine gs (rg (so rfl (op_box (cs := [.slice Al0_0 l0_0.length cl0_0, .int .i64 a0_1, .int .i64 a0_2]) rfl rfl rfl fun b1 => (sv (EV.as rfl) rfl (re (gs (rg (sv (EV.as rfl) rfl (re (gs (rg (sv (EV.as rfl) rfl (re (gs (gs (rg (sv (EV.as rfl) rfl (re (gb ?_)))))))))))))))))))
 refine lo (fun kk S => ∃ (x2_3 : Int) (x2_4 : Int) (x2_5 : Int) (x2_1_1 : Int) (x2_1_2 : Int), spec_IsValidJoiner.l0 kk x2_3 x2_4 x2_5 x2_1_1 x2_1_2 l0_0 = some r0 ∧ S = ⟨[(1, .pointer (some ⟨b1, 0, none⟩)), (3, .int .i64 x2_3), (4, .int .i64 x2_4), (5, .int .i64 x2_5)], [⟨b1, 60, [.slice Al0_0 l0_0.length cl0_0, .int .i64 x2_1_1, .int .i64 x2_1_2]⟩], [.sl 0 k27 Al0_0 cl0_0 l0_0 0 false]⟩) (fun S hS => ?_) (fun n0 ih0 S hS => ?_) ⟨0, 0, 0, a0_1, a0_2, H, rfl⟩ (fun h => wk [1, 3, 4, 5] [0] [⟨0, 0, 0, false⟩] h)
 · clear H; obtain ⟨_, _, _, _, _, H, _⟩ := hS; rw [spec_IsValidJoiner.l0] at H; cases H
 clear H
 obtain ⟨x2_3, x2_4, x2_5, x2_1_1, x2_1_2, H, rfl⟩ := hS
 rw [spec_IsValidJoiner.l0] at H
 refine gs (gs (rg (sv (EV.mv rfl) rfl (sv (EV.fa 0 rfl) rfl (sv (EV.ld 0 none rfl rfl rfl) rfl (sv (EV.ln rfl) rfl (sv (EV.lss rfl rfl) rfl (re ?_))))))))
 revert H; refine ifsI ?_ ?_ <;> intro c1 H
 ·
  refine gt rfl (dT c1) (gk (gs (gb (gs (gs ?_)))))
  revert H; refine ggI ?_; intro g2 H
  refine opn (i := x2_5) 0 z27 rfl g2 c1 fun A_3 c_3 A_4 c_4 A_5 c_5 => (dr [0] [0, 1, 2, 3, 4] [] 21 rfl rfl rfl rfl (xv 0 [0] [0, 1, 2, 3, 4] rfl (EV.fa 0 rfl) rfl rfl rfl rfl (xv 1 [0] [0, 1, 2, 3, 4] rfl (EV.ld 0 none rfl rfl rfl) rfl rfl rfl rfl (xv 2 [0] [0, 1, 2, 3, 4] rfl (EV.mv rfl) rfl rfl rfl rfl (xv 3 [0] [0, 1, 2, 3, 4] rfl (EV.ix 0 rfl rfl rfl g2 c1 rfl) rfl rfl rfl rfl (xv 4 [0] [0, 1, 2, 3, 4] rfl (EV.lc (v := .agg #[.int .i64 ((rd_T27 l0_0 x2_5).f0), .slice A_3 ((rd_T27 l0_0 x2_5).f1).length c_3, .slice A_4 ((rd_T27 l0_0 x2_5).f2).length c_4, .slice A_5 ((rd_T27 l0_0 x2_5).f3).length c_5, .int .i64 ((rd_T27 l0_0 x2_5).f4)]) 0 (some 5) 1 rfl rfl rfl rfl) rfl rfl rfl rfl (one1 5 rfl rfl ?_)))))))
  revert H; refine bdI ?_; rintro t6 A6 H
  refine op_call (spec_IsValidTask.ok n0 ((rd_T27 l0_0 x2_5).f0) ((rd_T27 l0_0 x2_5).f1) A_3 c_3 ((rd_T27 l0_0 x2_5).f2) A_4 c_4 ((rd_T27 l0_0 x2_5).f3) A_5 c_5 ((rd_T27 l0_0 x2_5).f4) _ A6) [⟨2, 0, 0, false⟩, ⟨3, 0, 0, false⟩, ⟨4, 0, 0, false⟩] 1 rfl rfl rfl rfl rfl ?_
  rintro _ _ _ ⟨rfl, rfl, rfl⟩
  refine xs [0] [0, 1, 2, 3, 4] rfl rfl rfl (xv 6 [0] [0, 1, 2, 3, 4] rfl (EV.nt rfl) rfl rfl rfl rfl (xv 7 [0] [0, 1, 2, 3, 4] rfl (EV.mv rfl) rfl rfl rfl rfl ?_))
  revert H; refine ifsI ?_ ?_ <;> intro c7 H
  ·
   subst c7
   refine ts 20 rfl rfl (xv 8 [0] [0, 1, 2, 3, 4] rfl (EV.fa 0 rfl) rfl rfl rfl rfl (xv 9 [0] [0, 1, 2, 3, 4] rfl (EV.ld 0 none rfl rfl rfl) rfl rfl rfl rfl (xv 10 [0] [0, 1, 2, 3, 4] rfl (EV.mv rfl) rfl rfl rfl rfl (xv 11 [0] [0, 1, 2, 3, 4] rfl (EV.ix 0 rfl rfl rfl g2 c1 rfl) rfl rfl rfl rfl (xv 12 [0] [0, 1, 2, 3, 4] rfl (EV.fa 0 rfl) rfl rfl rfl rfl (xv 13 [0] [0, 1, 2, 3, 4] rfl (EV.lf (v := .int .i64 ((rd_T27 l0_0 x2_5).f0)) x2_5 0 none 0 z27 rfl rfl rfl g2 c1 rfl (fun _ _ _ _ _ _ => rfl)) rfl rfl rfl rfl (xv 14 [0] [0, 1, 2, 3, 4] rfl (EV.fa 0 rfl) rfl rfl rfl rfl (xv 15 [0] [0, 1, 2, 3, 4] rfl (EV.ld 0 none rfl rfl rfl) rfl rfl rfl rfl ?_))))))))
   revert H; refine ggI ?_; intro g8 H
   refine xv 16 [0] [0, 1, 2, 3, 4] rfl (EV.ix 0 rfl rfl rfl dq g8 rfl) rfl rfl rfl rfl (xv 17 [0] [0, 1, 2, 3, 4] rfl (EV.fa 0 rfl) rfl rfl rfl rfl (xv 18 [0] [0, 1, 2, 3, 4] rfl (EV.lf (v := .int .i64 ((rd_T27 l0_0 0).f0)) 0 0 none 0 z27 rfl rfl rfl dq g8 rfl (fun _ _ _ _ _ _ => rfl)) rfl rfl rfl rfl (xv 19 [0] [0, 1, 2, 3, 4] rfl (EV.neq rfl rfl) rfl rfl rfl rfl (xv 20 [0] [0, 1, 2, 3, 4] rfl (EV.pf rfl rfl rfl) rfl rfl rfl rfl (xd (pr [1, 3, 4, 5, 21, 22, 23, 24, 25, 26, 27, 28, 29, 30, 31, 32, 33] [0] [0] rfl rfl rfl rfl ?_))))))
   revert H; refine ifsI ?_ ?_ <;> intro c9 H
   ·
    refine gf rfl (nF c9) (gk (gs (rg (sv (EV.mv rfl) rfl (sv (EV.fa 0 rfl) rfl (sv (EV.ld 0 none rfl rfl rfl) rfl (sv (EV.mv rfl) rfl (sv (EV.ix 0 rfl rfl rfl g2 c1 rfl) rfl (sv (EV.fa 1 rfl) rfl (opn (i := x2_5) 0 z27 rfl g2 c1 fun A_10 c_10 A_11 c_11 A_12 c_12 => (sv (EV.lc (v := .slice A_10 ((rd_T27 l0_0 x2_5).f1).length c_10) 1 none 1 rfl rfl rfl rfl) rfl (sv (EV.ln rfl) rfl (sv (EV.add rfl rfl) rfl (sv (EV.as rfl) rfl (re (pr [1, 3, 4, 5, 21, 22, 23, 24, 25, 26, 27, 28, 29, 30, 31, 32] [0] [0] rfl rfl rfl rfl (rg (sv (EV.mv rfl) rfl (sv (EV.fa 0 rfl) rfl (sv (EV.ld 0 none rfl rfl rfl) rfl (sv (EV.mv rfl) rfl (sv (EV.ix 0 rfl rfl rfl g2 c1 rfl) rfl (sv (EV.fa 2 rfl) rfl (opn (i := x2_5) 0 z27 rfl g2 c1 fun A_13 c_13 A_14 c_14 A_15 c_15 => (sv (EV.lc (v := .slice A_14 ((rd_T27 l0_0 x2_5).f2).length c_14) 2 none 1 rfl rfl rfl rfl) rfl (sv (EV.ln rfl) rfl (sv (EV.add rfl rfl) rfl (sv (EV.as rfl) rfl (re ?_)))))))))))))))))))))))))))))
    exact pr [1, 3, 4, 5, 21, 22, 23, 24, 25, 26, 27, 28, 29, 30, 31, 32] [0] [0] rfl rfl rfl rfl (ge (rg (sv (EV.mv rfl) rfl (sv (EV.add rfl rfl) rfl (sv (EV.as rfl) rfl (re (wk [1, 3, 4, 5] [0] [⟨0, 0, 0, false⟩] (ih0 _ (by omega) _ ⟨wrap64 (x2_3 + (((rd_T27 l0_0 x2_5).f1).length : Int)), wrap64 (x2_4 + (((rd_T27 l0_0 x2_5).f2).length : Int)), wrap64 (x2_5 + 1), x2_1_1, x2_1_2, H, rfl⟩))))))))
   ·
    refine gt rfl (nT c9) (gs (rg (sv (EV.as rfl) rfl (re (pr [2] [] [] rfl rfl rfl rfl ?_)))))
    cases H
    exact rt Try.func51 rfl (.tmp rfl .nil) rfl [] [] rfl rfl rfl rfl rfl ⟨rfl, rfl, rfl⟩
  ·
   obtain rfl := bF c7
   refine ts 20 rfl rfl (xk 8 [0] [0, 1, 2, 3, 4] rfl rfl rfl rfl rfl (xk 9 [0] [0, 1, 2, 3, 4] rfl rfl rfl rfl rfl (xk 10 [0] [0, 1, 2, 3, 4] rfl rfl rfl rfl rfl (xk 11 [0] [0, 1, 2, 3, 4] rfl rfl rfl rfl rfl (xk 12 [0] [0, 1, 2, 3, 4] rfl rfl rfl rfl rfl (xk 13 [0] [0, 1, 2, 3, 4] rfl rfl rfl rfl rfl (xk 14 [0] [0, 1, 2, 3, 4] rfl rfl rfl rfl rfl (xk 15 [0] [0, 1, 2, 3, 4] rfl rfl rfl rfl rfl (xk 16 [0] [0, 1, 2, 3, 4] rfl rfl rfl rfl rfl (xk 17 [0] [0, 1, 2, 3, 4] rfl rfl rfl rfl rfl (xk 18 [0] [0, 1, 2, 3, 4] rfl rfl rfl rfl rfl (xk 19 [0] [0, 1, 2, 3, 4] rfl rfl rfl rfl rfl (xv 20 [0] [0, 1, 2, 3, 4] rfl (EV.pt rfl rfl rfl) rfl rfl rfl rfl (xd (pr [1, 3, 4, 5, 33] [0] [0] rfl rfl rfl rfl (gt rfl rfl (gs (rg (sv (EV.as rfl) rfl (re ?_))))))))))))))))))))
   cases H
   exact rt Try.func51 rfl (.tmp rfl .nil) rfl [] [] rfl rfl rfl rfl rfl ⟨rfl, rfl, rfl⟩
 ·
  refine gf rfl (dF c1) (gx rfl (gs (rg (sv (EV.mv rfl) rfl (sv (EV.leq rfl rfl) rfl (sv (EV.mv rfl) rfl ?_))))))
  revert H; refine ifsI ?_ ?_ <;> intro c16 H
  ·
   refine ts 54 rfl (dT c16) (sv (EV.mv rfl) rfl (sv (EV.leq rfl rfl) rfl (sv (EV.pt rfl rfl rfl) rfl (sv (EV.mv rfl) rfl ?_))))
   revert H; refine ifsI ?_ ?_ <;> intro c17 H
   ·
    refine ts 58 rfl (dT c17) (sv (EV.fa 0 rfl) rfl (sv (EV.ld 0 none rfl rfl rfl) rfl (sv (EV.ln rfl) rfl (sv (EV.leq rfl rfl) rfl (sv (EV.pt rfl rfl rfl) rfl (sv (EV.mv rfl) rfl ?_))))))
    revert H; refine ifsI ?_ ?_ <;> intro c18 H
    ·
     refine ts 64 rfl (dT c18) (sv (EV.fa 1 rfl) rfl (sv (EV.ld 0 none rfl rfl rfl) rfl ?_))
     revert H; refine bdI ?_; rintro t19 A19 H
     refine so rfl (op_call (spec_l1In.ok x2_1_1 0 100000 _ A19) [] 1 rfl rfl rfl rfl rfl ?_)
     rintro _ _ _ ⟨rfl, rfl, rfl⟩
     refine sv (EV.pt rfl rfl rfl) rfl (sv (EV.mv rfl) rfl ?_)
     revert H; refine ifsI ?_ ?_ <;> intro c20 H
     ·
      subst c20
      refine ts 69 rfl rfl (sv (EV.fa 2 rfl) rfl (sv (EV.ld 0 none rfl rfl rfl) rfl ?_))
      revert H; refine bdI ?_; rintro t21 A21 H
      refine so rfl (op_call (spec_l1In.ok x2_1_2 0 1000 _ A21) [] 1 rfl rfl rfl rfl rfl ?_)
      rintro _ _ _ ⟨rfl, rfl, rfl⟩
      refine sv (EV.pt rfl rfl rfl) rfl (sv (EV.as rfl) rfl (re (pr [2] [] [] rfl rfl rfl rfl ?_)))
      cases H
      exact rt Try.func51 rfl (.tmp rfl .nil) rfl [] [] rfl rfl rfl rfl rfl ⟨rfl, rfl, rfl⟩
     ·
      obtain rfl := bF c20
      refine ts 69 rfl rfl (sk rfl (sk rfl (sk rfl (sv (EV.pf rfl rfl rfl) rfl (sv (EV.as rfl) rfl (re (pr [2] [] [] rfl rfl rfl rfl ?_)))))))
      cases H
      exact rt Try.func51 rfl (.tmp rfl .nil) rfl [] [] rfl rfl rfl rfl rfl ⟨rfl, rfl, rfl⟩
    ·
     refine ts 64 rfl (dF c18) (sk rfl (sk rfl (sk rfl (sv (EV.pf rfl rfl rfl) rfl (sv (EV.mv rfl) rfl (sk rfl (sk rfl (sk rfl (sv (EV.pf rfl rfl rfl) rfl (sv (EV.as rfl) rfl (re (pr [2] [] [] rfl rfl rfl rfl ?_))))))))))))
     cases H
     exact rt Try.func51 rfl (.tmp rfl .nil) rfl [] [] rfl rfl rfl rfl rfl ⟨rfl, rfl, rfl⟩
   ·
    refine ts 58 rfl (dF c17) (sk rfl (sk rfl (sk rfl (sk rfl (sv (EV.pf rfl rfl rfl) rfl (sv (EV.mv rfl) rfl (sk rfl (sk rfl (sk rfl (sv (EV.pf rfl rfl rfl) rfl (sv (EV.mv rfl) rfl (sk rfl (sk rfl (sk rfl (sv (EV.pf rfl rfl rfl) rfl (sv (EV.as rfl) rfl (re (pr [2] [] [] rfl rfl rfl rfl ?_))))))))))))))))))
    cases H
    exact rt Try.func51 rfl (.tmp rfl .nil) rfl [] [] rfl rfl rfl rfl rfl ⟨rfl, rfl, rfl⟩
  ·
   refine ts 54 rfl (dF c16) (sk rfl (sk rfl (sv (EV.pf rfl rfl rfl) rfl (sv (EV.mv rfl) rfl (sk rfl (sk rfl (sk rfl (sk rfl (sv (EV.pf rfl rfl rfl) rfl (sv (EV.mv rfl) rfl (sk rfl (sk rfl (sk rfl (sv (EV.pf rfl rfl rfl) rfl (sv (EV.mv rfl) rfl (sk rfl (sk rfl (sk rfl (sv (EV.pf rfl rfl rfl) rfl (sv (EV.as rfl) rfl (re (pr [2] [] [] rfl rfl rfl rfl ?_))))))))))))))))))))))
   cases H
   exact rt Try.func51 rfl (.tmp rfl .nil) rfl [] [] rfl rfl rfl rfl rfl ⟨rfl, rfl, rfl⟩
end Go.Proofs.Ytamjndlkompeeaa.K
