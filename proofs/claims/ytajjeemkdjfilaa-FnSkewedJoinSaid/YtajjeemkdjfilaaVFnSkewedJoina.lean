/- Walks: what the functions compute. Printed by gen.py; no condition. -/
import Derived.Test.YtajjeemkdjfilaaProg
import Derived.Test.YtajjeemkdjfilaaSB
namespace Go.Proofs.Ytajjeemkdjfilaa.K
open Go Go.RowKit
set_option linter.unusedVariables false
set_option linter.unusedSimpArgs false
structure S70 where
  f0 : Int
  f1 : Int
  f2 : Int
def z70 : S70 := ⟨0, 0, 0⟩
def k70 : Kd S70 := .iso (fun p => ⟨p.1, p.2.1, p.2.2⟩) (fun x => (x.f0, x.f1, x.f2)) (fun _ => rfl) (.pair (.int .i64) (.pair (.int .i64) (.int .i64)))
def rd_T70 (xs : List S70) (i : Int) : S70 := xs.getD i.toNat z70
structure S92 where
  f0 : S70
  f1 : S70
  f2 : Bool
def z92 : S92 := ⟨z70, z70, false⟩
def k92 : Kd S92 := .iso (fun p => ⟨p.1, p.2.1, p.2.2⟩) (fun x => (x.f0, x.f1, x.f2)) (fun _ => rfl) (.pair k70 (.pair k70 .bool))
def rd_T92 (xs : List S92) (i : Int) : S92 := xs.getD i.toNat z92
structure S30 where
  f0 : List S92
  f1 : Int
  f2 : Int
  f3 : Int
def z30 : S30 := ⟨[], 0, 0, 0⟩
def k30 : Kd S30 := .iso (fun p => ⟨p.1, p.2.1, p.2.2.1, p.2.2.2⟩) (fun x => (x.f0, x.f1, x.f2, x.f3)) (fun _ => rfl) (.pair (.slice k92) (.pair (.int .i64) (.pair (.int .i64) (.int .i64))))
def rd_T30 (xs : List S30) (i : Int) : S30 := xs.getD i.toNat z30
structure S44 where
  f0 : Int
  f1 : List S70
  f2 : List S70
  f3 : List Bool
  f4 : Int
def z44 : S44 := ⟨0, [], [], [], 0⟩
def k44 : Kd S44 := .iso (fun p => ⟨p.1, p.2.1, p.2.2.1, p.2.2.2.1, p.2.2.2.2⟩) (fun x => (x.f0, x.f1, x.f2, x.f3, x.f4)) (fun _ => rfl) (.pair (.int .i64) (.pair (.slice k70) (.pair (.slice k70) (.pair (.slice .bool) (.int .i64)))))
def rd_T44 (xs : List S44) (i : Int) : S44 := xs.getD i.toNat z44
structure S73 where
  f0 : List S44
  f1 : Int
  f2 : Int
def z73 : S73 := ⟨[], 0, 0⟩
def k73 : Kd S73 := .iso (fun p => ⟨p.1, p.2.1, p.2.2⟩) (fun x => (x.f0, x.f1, x.f2)) (fun _ => rfl) (.pair (.slice k44) (.pair (.int .i64) (.int .i64)))
def rd_T73 (xs : List S73) (i : Int) : S73 := xs.getD i.toNat z73
structure S111 where
  f0 : List Int
  f1 : Int
  f2 : Int
def z111 : S111 := ⟨[], 0, 0⟩
def k111 : Kd S111 := .iso (fun p => ⟨p.1, p.2.1, p.2.2⟩) (fun x => (x.f0, x.f1, x.f2)) (fun _ => rfl) (.pair (.slice (.int .u8)) (.pair (.int .i64) (.int .i64)))
def rd_T111 (xs : List S111) (i : Int) : S111 := xs.getD i.toNat z111
theorem eqD70 (d : Nat) (w : World) (x0 y0 : Int) (x1 y1 : Int) (x2 y2 : Int) : (Op.equalIn (d + 2) 70 (.agg #[.int .i64 x0, .int .i64 x1, .int .i64 x2]) (.agg #[.int .i64 y0, .int .i64 y1, .int .i64 y2])).run Try.prog w = .ok (x0 == y0 && (x1 == y1 && (x2 == y2))) w := by
  refine eq_of (d := d + 1) Try.underlying70 (by kernel_rfl) ?_
  refine eq_cons (by rfl) (by first | (go_simp; done) | (go_simp; rfl)) (by first | (go_simp; done) | (go_simp; rfl)) (by go_simp) ?_
  refine eq_cons (by rfl) (by first | (go_simp; done) | (go_simp; rfl)) (by first | (go_simp; done) | (go_simp; rfl)) (by go_simp) ?_
  exact eq_last (by rfl) (by first | (go_simp; done) | (go_simp; rfl)) (by first | (go_simp; done) | (go_simp; rfl)) (by go_simp)
theorem eq70 (d : Nat) (w : World) (x0 y0 : Int) (x1 y1 : Int) (x2 y2 : Int) : (Op.equalIn (d + 20) 70 (.agg #[.int .i64 x0, .int .i64 x1, .int .i64 x2]) (.agg #[.int .i64 y0, .int .i64 y1, .int .i64 y2])).run Try.prog w = .ok (x0 == y0 && (x1 == y1 && (x2 == y2))) w := eqD70 (d + 18) w x0 y0 x1 y1 x2 y2
theorem eqD92 (d : Nat) (w : World) (x0 y0 : Int) (x1 y1 : Int) (x2 y2 : Int) (x3 y3 : Int) (x4 y4 : Int) (x5 y5 : Int) (x6 y6 : Bool) : (Op.equalIn (d + 3) 92 (.agg #[.int .i64 x0, .int .i64 x1, .int .i64 x2, .int .i64 x3, .int .i64 x4, .int .i64 x5, .bool x6]) (.agg #[.int .i64 y0, .int .i64 y1, .int .i64 y2, .int .i64 y3, .int .i64 y4, .int .i64 y5, .bool y6])).run Try.prog w = .ok ((x0 == y0 && (x1 == y1 && (x2 == y2))) && ((x3 == y3 && (x4 == y4 && (x5 == y5))) && (x6 == y6))) w := by
  refine eq_of (d := d + 2) Try.underlying92 (by kernel_rfl) ?_
  refine eq_cons (by rfl) (by first | (go_simp; done) | (go_simp; rfl)) (by first | (go_simp; done) | (go_simp; rfl)) (eqD70 _ w x0 y0 x1 y1 x2 y2) ?_
  refine eq_cons (by rfl) (by first | (go_simp; done) | (go_simp; rfl)) (by first | (go_simp; done) | (go_simp; rfl)) (eqD70 _ w x3 y3 x4 y4 x5 y5) ?_
  exact eq_last (by rfl) (by first | (go_simp; done) | (go_simp; rfl)) (by first | (go_simp; done) | (go_simp; rfl)) (by go_simp)
theorem eq92 (d : Nat) (w : World) (x0 y0 : Int) (x1 y1 : Int) (x2 y2 : Int) (x3 y3 : Int) (x4 y4 : Int) (x5 y5 : Int) (x6 y6 : Bool) : (Op.equalIn (d + 20) 92 (.agg #[.int .i64 x0, .int .i64 x1, .int .i64 x2, .int .i64 x3, .int .i64 x4, .int .i64 x5, .bool x6]) (.agg #[.int .i64 y0, .int .i64 y1, .int .i64 y2, .int .i64 y3, .int .i64 y4, .int .i64 y5, .bool y6])).run Try.prog w = .ok ((x0 == y0 && (x1 == y1 && (x2 == y2))) && ((x3 == y3 && (x4 == y4 && (x5 == y5))) && (x6 == y6))) w := eqD92 (d + 17) w x0 y0 x1 y1 x2 y2 x3 y3 x4 y4 x5 y5 x6 y6
theorem mk42 : ∀ (zz : Value) (e : TypeId) (i : TypeInfo), Try.prog.underlying 42 = some (.slice e) → Try.prog.info? e = some i → i.zero = some zz → ∀ w, Kd.rep .bool 1 w zz.cells.toList false [] := by
  intro zz e i hu hi hz w
  have h1 : (Try.prog.underlying 42).bind (fun d => match d with | .slice e => (Try.prog.info? e).bind (fun i => i.zero) | _ => none) = some (.bool false) := by kernel_rfl
  rw [hu] at h1
  simp only [Option.bind_some, hi, hz, Option.some.injEq] at h1
  subst h1
  exact Kd.closed .bool (o := 1) (w := w) (x := false) (hs := []) (bs := []) 0 false (Nat.le_refl 1) rfl .nil
end Go.Proofs.Ytajjeemkdjfilaa.K
namespace Go.Proofs.Ytajjeemkdjfilaa.K
open Go Go.RowKit
set_option linter.unusedVariables false
set_option linter.unusedSimpArgs false

end Go.Proofs.Ytajjeemkdjfilaa.K
namespace Go.Proofs.Ytajjeemkdjfilaa.K
open Go Go.RowKit
set_option linter.unusedVariables false
set_option linter.unusedSimpArgs false
mutual
def spec_l1New.j0 : Nat → Int → (List Int) → Option (Int × Int)
 | 0, _, _ => none
 | k + 1, x2_3, l0 => some (0, x2_3)
def spec_l1New.l0 : Nat → Int → Int → (List Int) → Option (Int × Int)
 | 0, _, _, _ => none
 | k + 1, x3_3, x3_4, l0 => if x3_4 < (l0.length : Int) then (if x3_4 < 4000 then (if 0 ≤ x3_4 then (spec_l1New.l0 k (andI (wrap64 ((wrap64 ((wrap64 (x3_3 * 131)) + (IntKind.i64.wrap (rdOf 0 l0 x3_4)))) + 7)) 1073741823) (wrap64 (x3_4 + 1)) l0) else none) else (spec_l1New.j0 k x3_3 l0)) else (spec_l1New.j0 k x3_3 l0)
end
def spec_l1New.f (k : Nat) (l0 : List Int) : Option (Int × Int) := spec_l1New.l0 k (wrap64 (10101 + (l0.length : Int))) 0 l0
set_option maxHeartbeats 4000000 in
set_option maxRecDepth 100000 in
theorem spec_l1New.ok (k : Nat) (l0 : List Int) (Al0 : Option Addr) (cl0 : Nat) (r0 : Int) (r1 : Int) (H : spec_l1New.f k l0 = some (r0, r1)) : Fn Try.prog 61 [.slice Al0 l0.length cl0] [] [.sl 0 (.int .u8) Al0 cl0 l0 0 false] (fun v bx en => ∃ rb0, v = .pointer (some ⟨rb0, 0, none⟩) ∧ bx = [⟨rb0, 111, [.slice Al0 l0.length cl0, .int .i64 r0, .int .i64 r1]⟩] ∧ en = []) := by
 refine fn_ 32 Try.func61 rfl rfl rfl (fun base T w0 => ?_)
 rw [spec_l1New.f] at H
 refine gs (rg (sv (EV.as rfl) rfl (re (gs (rg (sv (EV.mv rfl) rfl (sv (EV.ln rfl) rfl (sv (EV.add rfl rfl) rfl (sv (EV.as rfl) rfl (re ?_))))))))))
 refine jo (fun S => ∃ (m : Nat) (x2_3 : Int), spec_l1New.j0 m x2_3 l0 = some (r0, r1) ∧ S = ⟨[(0, .slice Al0 l0.length cl0), (3, .int .i64 x2_3)], [], [.sl 0 (.int .u8) Al0 cl0 l0 0 false]⟩) (fun S hS => ?_) (fun jh0 => ?_)
 ·
  clear H
  obtain ⟨m1, x2_3, H, rfl⟩ := hS
  rcases m1 with _ | m1
  · rw [spec_l1New.j0] at H; cases H
  rw [spec_l1New.j0] at H
  refine gs (rg (sv (EV.mv rfl) rfl (sv (EV.mv rfl) rfl (sv (EV.bd (v := .agg #[.slice Al0 l0.length cl0, .int .i64 0, .int .i64 x2_3]) rfl (by kernel_rfl)) rfl (so rfl (op_box (cs := [.slice Al0 l0.length cl0, .int .i64 0, .int .i64 x2_3]) rfl rfl rfl fun b31 => (sv (EV.as rfl) rfl (re (pr [2] [0] [0] rfl rfl rfl rfl ?_)))))))))
  cases H
  exact rt Try.func61 rfl (.tmp rfl .nil) rfl [0] [] rfl rfl rfl rfl rfl ⟨_, rfl, rfl, rfl⟩
 ·
  refine gs (rg (sv (EV.as rfl) rfl (re (gb ?_))))
  refine lo (fun kk S => ∃ (x3_3 : Int) (x3_4 : Int), spec_l1New.l0 kk x3_3 x3_4 l0 = some (r0, r1) ∧ S = ⟨[(0, .slice Al0 l0.length cl0), (3, .int .i64 x3_3), (4, .int .i64 x3_4)], [], [.sl 0 (.int .u8) Al0 cl0 l0 0 false]⟩) (fun S hS => ?_) (fun n0 ih0 S hS => ?_) ⟨wrap64 (10101 + (l0.length : Int)), 0, H, rfl⟩ (fun h => wk [0, 3, 4] [] [⟨0, 0, 0, false⟩] h)
  · clear H; obtain ⟨_, _, H, _⟩ := hS; rw [spec_l1New.l0] at H; cases H
  clear H
  obtain ⟨x3_3, x3_4, H, rfl⟩ := hS
  rw [spec_l1New.l0] at H
  refine gs (gs (rg (sv (EV.mv rfl) rfl (sv (EV.mv rfl) rfl (sv (EV.ln rfl) rfl (sv (EV.lss rfl rfl) rfl (sv (EV.mv rfl) rfl ?_)))))))
  revert H; refine ifsI ?_ ?_ <;> intro c2 H
  ·
   refine ts 12 rfl (dT c2) (sv (EV.mv rfl) rfl (sv (EV.lss rfl rfl) rfl (sv (EV.pt rfl rfl rfl) rfl (re ?_))))
   revert H; refine ifsI ?_ ?_ <;> intro c3 H
   ·
    refine gt rfl (dT c3) (gk (gs (gb (rg (sv (EV.mv rfl) rfl (sv (EV.mul rfl rfl) rfl (sv (EV.mv rfl) rfl (sv (EV.mv rfl) rfl ?_))))))))
    revert H; refine ggI ?_; intro g4 H
    exact sv (EV.ix 0 rfl rfl rfl g4 c2 rfl) rfl (sv (EV.le (v := .int .u8 (rdOf 0 l0 x3_4)) x3_4 0 none 0 0 rfl rfl rfl g4 c2 rfl rfl rfl) rfl (sv (EV.cv (k' := .i64) rfl) rfl (sv (EV.add rfl rfl) rfl (sv (EV.add rfl rfl) rfl (sv (EV.andI rfl rfl) rfl (sv (EV.as rfl) rfl (re (pr [0, 3, 4, 13, 14] [] [0] rfl rfl rfl rfl (ge (rg (sv (EV.mv rfl) rfl (sv (EV.add rfl rfl) rfl (sv (EV.as rfl) rfl (re (wk [0, 3, 4] [] [⟨0, 0, 0, false⟩] (ih0 _ (by omega) _ ⟨andI (wrap64 ((wrap64 ((wrap64 (x3_3 * 131)) + (IntKind.i64.wrap (rdOf 0 l0 x3_4)))) + 7)) 1073741823, wrap64 (x3_4 + 1), H, rfl⟩))))))))))))))))
   ·
    exact gf rfl (dF c3) (gx rfl (wk [0, 3] [] [⟨0, 0, 0, false⟩] (jh0 _ ⟨_, x3_3, H, rfl⟩)))
  ·
   exact ts 12 rfl (dF c2) (sk rfl (sk rfl (sv (EV.pf rfl rfl rfl) rfl (re (pr [0, 3, 4, 15] [] [0] rfl rfl rfl rfl (gf rfl rfl (gx rfl (wk [0, 3] [] [⟨0, 0, 0, false⟩] (jh0 _ ⟨_, x3_3, H, rfl⟩)))))))))
end Go.Proofs.Ytajjeemkdjfilaa.K
namespace Go.Proofs.Ytajjeemkdjfilaa.K
open Go Go.RowKit
set_option linter.unusedVariables false
set_option linter.unusedSimpArgs false
def spec_l1Byte.f (l0_0 : List Int) (a0_1 : Int) (a0_2 : Int) : Option (Int × Int × Int) := if a0_1 < (l0_0.length : Int) then (if 0 ≤ a0_1 then (some (andI (wrap64 ((andI (xorI (shrI (wrap64 ((wrap64 (a0_2 * 6364136223846793005)) + 1442695040888963407)) 33) (shrI (wrap64 ((wrap64 (a0_2 * 6364136223846793005)) + 1442695040888963407)) 45)) 255) + (IntKind.i64.wrap (rdOf 0 l0_0 a0_1)))) 255, wrap64 (a0_1 + 1), wrap64 ((wrap64 (a0_2 * 6364136223846793005)) + 1442695040888963407))) else none) else (some (andI (xorI (shrI (wrap64 ((wrap64 (a0_2 * 6364136223846793005)) + 1442695040888963407)) 33) (shrI (wrap64 ((wrap64 (a0_2 * 6364136223846793005)) + 1442695040888963407)) 45)) 255, a0_1, wrap64 ((wrap64 (a0_2 * 6364136223846793005)) + 1442695040888963407)))
set_option maxHeartbeats 4000000 in
set_option maxRecDepth 100000 in
theorem spec_l1Byte.ok (b1000 : Nat) (l0_0 : List Int) (Al0_0 : Option Addr) (cl0_0 : Nat) (a0_1 : Int) (a0_2 : Int) (r0 : Int) (r1 : Int) (r2 : Int) (H : spec_l1Byte.f l0_0 a0_1 a0_2 = some (r0, r1, r2)) : Fn Try.prog 114 [.pointer (some ⟨b1000, 0, none⟩)] [⟨b1000, 111, [.slice Al0_0 l0_0.length cl0_0, .int .i64 a0_1, .int .i64 a0_2]⟩] [.sl 0 (.int .u8) Al0_0 cl0_0 l0_0 0 false] (fun v bx en => v = .int .i64 r0 ∧ bx = [⟨b1000, 111, [.slice Al0_0 l0_0.length cl0_0, .int .i64 r1, .int .i64 r2]⟩] ∧ en = []) := by
 refine fn_ 58 Try.func114 rfl rfl rfl (fun base T w0 => ?_)
 rw [spec_l1Byte.f] at H
 refine gs (rg (sv (EV.as rfl) rfl (re (gs (rg (sv (EV.mv rfl) rfl (sv (EV.mv rfl) rfl (sv (EV.nc rfl) rfl (sv (EV.fa 2 rfl) rfl (sv (EV.ld 0 none rfl rfl rfl) rfl (sv (EV.mul rfl rfl) rfl (sv (EV.add rfl rfl) rfl (sv (EV.nc rfl) rfl (sv (EV.fa 2 rfl) rfl (so rfl (op_st (cs' := [.slice Al0_0 l0_0.length cl0_0, .int .i64 a0_1, .int .i64 (wrap64 ((wrap64 (a0_2 * 6364136223846793005)) + 1442695040888963407))]) 0 rfl rfl rfl rfl rfl rfl (re (pr [0] [0] [0] rfl rfl rfl rfl (gs (dr [0] [0] [] 13 rfl rfl rfl rfl (xv 0 [0] [0] rfl (EV.mv rfl) rfl rfl rfl rfl (xv 1 [0] [0] rfl (EV.nc rfl) rfl rfl rfl rfl (xv 2 [0] [0] rfl (EV.fa 2 rfl) rfl rfl rfl rfl (xv 3 [0] [0] rfl (EV.ld 0 none rfl rfl rfl) rfl rfl rfl rfl (xv 4 [0] [0] rfl (EV.shr rfl rfl dq) rfl rfl rfl rfl (xv 5 [0] [0] rfl (EV.mv rfl) rfl rfl rfl rfl (xv 6 [0] [0] rfl (EV.nc rfl) rfl rfl rfl rfl (xv 7 [0] [0] rfl (EV.fa 2 rfl) rfl rfl rfl rfl (xv 8 [0] [0] rfl (EV.ld 0 none rfl rfl rfl) rfl rfl rfl rfl ?_)))))))))))))))))))))))))))))
 refine xv 9 [0] [0] rfl (EV.shr rfl rfl dq) rfl rfl rfl rfl (xv 10 [0] [0] rfl (EV.xorI rfl rfl) rfl rfl rfl rfl (xv 11 [0] [0] rfl (EV.andI rfl rfl) rfl rfl rfl rfl (xv 12 [0] [0] rfl (EV.as rfl) rfl rfl rfl rfl (xd (pr [0, 3] [0] [0] rfl rfl rfl rfl (gs (gs (dr [0] [0] [] 10 rfl rfl rfl rfl (xv 0 [0] [0] rfl (EV.mv rfl) rfl rfl rfl rfl (xv 1 [0] [0] rfl (EV.nc rfl) rfl rfl rfl rfl (xv 2 [0] [0] rfl (EV.fa 1 rfl) rfl rfl rfl rfl (xv 3 [0] [0] rfl (EV.ld 0 none rfl rfl rfl) rfl rfl rfl rfl (xv 4 [0] [0] rfl (EV.mv rfl) rfl rfl rfl rfl (xv 5 [0] [0] rfl (EV.nc rfl) rfl rfl rfl rfl (xv 6 [0] [0] rfl (EV.fa 0 rfl) rfl rfl rfl rfl (xv 7 [0] [0] rfl (EV.ld 0 none rfl rfl rfl) rfl rfl rfl rfl (xv 8 [0] [0] rfl (EV.ln rfl) rfl rfl rfl rfl (xv 9 [0] [0] rfl (EV.lss rfl rfl) rfl rfl rfl rfl (xd (pr [0, 3, 34] [0] [0] rfl rfl rfl rfl ?_))))))))))))))))))))
 revert H; refine ifsI ?_ ?_ <;> intro c1 H
 ·
  refine gt rfl (dT c1) (gs ?_)
  revert H; refine ggI ?_; intro g2 H
  refine dr [0] [0] [] 15 rfl rfl rfl rfl (xv 0 [0] [0] rfl (EV.mv rfl) rfl rfl rfl rfl (xv 1 [0] [0] rfl (EV.mv rfl) rfl rfl rfl rfl (xv 2 [0] [0] rfl (EV.nc rfl) rfl rfl rfl rfl (xv 3 [0] [0] rfl (EV.fa 0 rfl) rfl rfl rfl rfl (xv 4 [0] [0] rfl (EV.ld 0 none rfl rfl rfl) rfl rfl rfl rfl (xv 5 [0] [0] rfl (EV.mv rfl) rfl rfl rfl rfl (xv 6 [0] [0] rfl (EV.nc rfl) rfl rfl rfl rfl (xv 7 [0] [0] rfl (EV.fa 1 rfl) rfl rfl rfl rfl (xv 8 [0] [0] rfl (EV.ld 0 none rfl rfl rfl) rfl rfl rfl rfl (xv 9 [0] [0] rfl (EV.ix 0 rfl rfl rfl g2 c1 rfl) rfl rfl rfl rfl (xv 10 [0] [0] rfl (EV.le (v := .int .u8 (rdOf 0 l0_0 a0_1)) a0_1 0 none 0 0 rfl rfl rfl g2 c1 rfl rfl rfl) rfl rfl rfl rfl (xv 11 [0] [0] rfl (EV.cv (k' := .i64) rfl) rfl rfl rfl rfl (xv 12 [0] [0] rfl (EV.add rfl rfl) rfl rfl rfl rfl (xv 13 [0] [0] rfl (EV.andI rfl rfl) rfl rfl rfl rfl (xv 14 [0] [0] rfl (EV.as rfl) rfl rfl rfl rfl (xd (pr [0, 3] [0] [0] rfl rfl rfl rfl (rg (sv (EV.mv rfl) rfl (sv (EV.mv rfl) rfl (sv (EV.nc rfl) rfl (sv (EV.fa 1 rfl) rfl (sv (EV.ld 0 none rfl rfl rfl) rfl (sv (EV.add rfl rfl) rfl (sv (EV.nc rfl) rfl (sv (EV.fa 1 rfl) rfl (so rfl (op_st (cs' := [.slice Al0_0 l0_0.length cl0_0, .int .i64 (wrap64 (a0_1 + 1)), .int .i64 (wrap64 ((wrap64 (a0_2 * 6364136223846793005)) + 1442695040888963407))]) 0 rfl rfl rfl rfl rfl rfl (re ?_)))))))))))))))))))))))))))))
  refine pr [3] [0] [0] rfl rfl rfl rfl (gs (rg (sv (EV.mv rfl) rfl (sv (EV.as rfl) rfl (re ?_)))))
  cases H
  exact rt Try.func114 rfl (.tmp rfl .nil) rfl [0] [] rfl rfl rfl rfl rfl ⟨rfl, rfl, rfl⟩
 ·
  refine gf rfl (dF c1) (gk (gs (rg (sv (EV.mv rfl) rfl (sv (EV.as rfl) rfl (re ?_))))))
  cases H
  exact rt Try.func114 rfl (.tmp rfl .nil) rfl [0] [] rfl rfl rfl rfl rfl ⟨rfl, rfl, rfl⟩
end Go.Proofs.Ytajjeemkdjfilaa.K
namespace Go.Proofs.Ytajjeemkdjfilaa.K
open Go Go.RowKit
set_option linter.unusedVariables false
set_option linter.unusedSimpArgs false
def spec_l1Below.f (l0_0 : List Int) (a0_1 : Int) (a0_2 : Int) (a1 : Int) : Option (Int × Int × Int) := if a1 ≤ 0 then (some (0, a0_1, a0_2)) else (if a1 ≤ 256 then ((spec_l1Byte.f l0_0 a0_1 a0_2).bind fun bt3 => (if a1 ≠ 0 then (some (Int.tmod bt3.1 a1, bt3.2.1, bt3.2.2)) else none)) else ((spec_l1Byte.f l0_0 a0_1 a0_2).bind fun bt5 => ((spec_l1Byte.f l0_0 bt5.2.1 bt5.2.2).bind fun bt6 => ((spec_l1Byte.f l0_0 bt6.2.1 bt6.2.2).bind fun bt7 => ((spec_l1Byte.f l0_0 bt7.2.1 bt7.2.2).bind fun bt8 => (if a1 ≠ 0 then (some (Int.tmod (wrap64 ((wrap64 ((wrap64 ((wrap64 (bt5.1 * 16777216)) + (wrap64 (bt6.1 * 65536)))) + (wrap64 (bt7.1 * 256)))) + bt8.1)) a1, bt8.2.1, bt8.2.2)) else none))))))
set_option maxHeartbeats 4000000 in
set_option maxRecDepth 100000 in
theorem spec_l1Below.ok (b1000 : Nat) (l0_0 : List Int) (Al0_0 : Option Addr) (cl0_0 : Nat) (a0_1 : Int) (a0_2 : Int) (a1 : Int) (r0 : Int) (r1 : Int) (r2 : Int) (H : spec_l1Below.f l0_0 a0_1 a0_2 a1 = some (r0, r1, r2)) : Fn Try.prog 106 [.pointer (some ⟨b1000, 0, none⟩), .int .i64 a1] [⟨b1000, 111, [.slice Al0_0 l0_0.length cl0_0, .int .i64 a0_1, .int .i64 a0_2]⟩] [.sl 0 (.int .u8) Al0_0 cl0_0 l0_0 0 false] (fun v bx en => v = .int .i64 r0 ∧ bx = [⟨b1000, 111, [.slice Al0_0 l0_0.length cl0_0, .int .i64 r1, .int .i64 r2]⟩] ∧ en = []) := by
 refine fn_ 37 Try.func106 rfl rfl rfl (fun base T w0 => ?_)
 rw [spec_l1Below.f] at H
 refine gs (rg (sv (EV.as rfl) rfl (re (gs (gs (rg (sv (EV.mv rfl) rfl (sv (EV.leq rfl rfl) rfl (re ?_)))))))))
 revert H; refine ifsI ?_ ?_ <;> intro c1 H
 ·
  refine gt rfl (dT c1) (gs (rg (sv (EV.as rfl) rfl (re ?_))))
  cases H
  exact rt Try.func106 rfl (.tmp rfl .nil) rfl [0] [] rfl rfl rfl rfl rfl ⟨rfl, rfl, rfl⟩
 ·
  refine gf rfl (dF c1) (gk (gs (gs (rg (sv (EV.mv rfl) rfl (sv (EV.leq rfl rfl) rfl (re ?_)))))))
  revert H; refine ifsI ?_ ?_ <;> intro c2 H
  ·
   refine gt rfl (dT c2) (gs (rg (sv (EV.mv rfl) rfl ?_)))
   revert H; refine bdI ?_; rintro ⟨t3_0, t3_1, t3_2⟩ A3 H
   refine so rfl (op_callM (spec_l1Byte.ok b1000 l0_0 Al0_0 cl0_0 a0_1 a0_2 _ _ _ A3) [⟨0, 0, 0, false⟩] [0] [] 1 rfl rfl rfl rfl rfl rfl rfl rfl ?_)
   rintro _ _ _ ⟨rfl, rfl, rfl⟩
   refine nmE (en := [.sl 0 (.int .u8) Al0_0 cl0_0 l0_0 0 false]) (by kernel_rfl) (sv (EV.mv rfl) rfl ?_)
   revert H; refine ggI ?_; intro g4 H
   refine sv (EV.rem rfl rfl g4) rfl (sv (EV.as rfl) rfl (re (pr [4] [0] [0] rfl rfl rfl rfl ?_)))
   cases H
   exact rt Try.func106 rfl (.tmp rfl .nil) rfl [0] [] rfl rfl rfl rfl rfl ⟨rfl, rfl, rfl⟩
  ·
   refine gf rfl (dF c2) (gk (gs (rg (sv (EV.mv rfl) rfl ?_))))
   revert H; refine bdI ?_; rintro ⟨t5_0, t5_1, t5_2⟩ A5 H
   refine so rfl (op_callM (spec_l1Byte.ok b1000 l0_0 Al0_0 cl0_0 a0_1 a0_2 _ _ _ A5) [⟨0, 0, 0, false⟩] [0] [] 1 rfl rfl rfl rfl rfl rfl rfl rfl ?_)
   rintro _ _ _ ⟨rfl, rfl, rfl⟩
   refine nmE (en := [.sl 0 (.int .u8) Al0_0 cl0_0 l0_0 0 false]) (by kernel_rfl) (sv (EV.as rfl) rfl (re (pr [0, 1, 5] [0] [0] rfl rfl rfl rfl (gs (rg (sv (EV.mv rfl) rfl ?_))))))
   revert H; refine bdI ?_; rintro ⟨t6_0, t6_1, t6_2⟩ A6 H
   refine so rfl (op_callM (spec_l1Byte.ok b1000 l0_0 Al0_0 cl0_0 t5_1 t5_2 _ _ _ A6) [⟨0, 0, 0, false⟩] [0] [] 1 rfl rfl rfl rfl rfl rfl rfl rfl ?_)
   rintro _ _ _ ⟨rfl, rfl, rfl⟩
   refine nmE (en := [.sl 0 (.int .u8) Al0_0 cl0_0 l0_0 0 false]) (by kernel_rfl) (sv (EV.as rfl) rfl (re (gs (rg (sv (EV.mv rfl) rfl ?_)))))
   revert H; refine bdI ?_; rintro ⟨t7_0, t7_1, t7_2⟩ A7 H
   refine so rfl (op_callM (spec_l1Byte.ok b1000 l0_0 Al0_0 cl0_0 t6_1 t6_2 _ _ _ A7) [⟨0, 0, 0, false⟩] [0] [] 1 rfl rfl rfl rfl rfl rfl rfl rfl ?_)
   rintro _ _ _ ⟨rfl, rfl, rfl⟩
   refine nmE (en := [.sl 0 (.int .u8) Al0_0 cl0_0 l0_0 0 false]) (by kernel_rfl) (sv (EV.as rfl) rfl (re (gs (rg (sv (EV.mv rfl) rfl ?_)))))
   revert H; refine bdI ?_; rintro ⟨t8_0, t8_1, t8_2⟩ A8 H
   refine so rfl (op_callM (spec_l1Byte.ok b1000 l0_0 Al0_0 cl0_0 t7_1 t7_2 _ _ _ A8) [⟨0, 0, 0, false⟩] [0] [] 1 rfl rfl rfl rfl rfl rfl rfl rfl ?_)
   rintro _ _ _ ⟨rfl, rfl, rfl⟩
   refine nmE (en := [.sl 0 (.int .u8) Al0_0 cl0_0 l0_0 0 false]) (by kernel_rfl) (sv (EV.as rfl) rfl (re (pr [1, 5, 6, 7, 8] [0] [0] rfl rfl rfl rfl (gs (rg (sv (EV.mv rfl) rfl (sv (EV.mul rfl rfl) rfl (sv (EV.mv rfl) rfl (sv (EV.mul rfl rfl) rfl (sv (EV.add rfl rfl) rfl (sv (EV.mv rfl) rfl (sv (EV.mul rfl rfl) rfl (sv (EV.add rfl rfl) rfl (sv (EV.mv rfl) rfl (sv (EV.add rfl rfl) rfl (sv (EV.mv rfl) rfl ?_))))))))))))))))
   revert H; refine ggI ?_; intro g9 H
   refine sv (EV.rem rfl rfl g9) rfl (sv (EV.as rfl) rfl (re (pr [4] [0] [0] rfl rfl rfl rfl ?_)))
   cases H
   exact rt Try.func106 rfl (.tmp rfl .nil) rfl [0] [] rfl rfl rfl rfl rfl ⟨rfl, rfl, rfl⟩
end Go.Proofs.Ytajjeemkdjfilaa.K
namespace Go.Proofs.Ytajjeemkdjfilaa.K
open Go Go.RowKit
set_option linter.unusedVariables false
set_option linter.unusedSimpArgs false
def spec_l1Once.f (l0_0 : List Int) (a0_1 : Int) (a0_2 : Int) (a1 : Int) : Option (Bool × Int × Int) := (spec_l1Below.f l0_0 a0_1 a0_2 a1).bind fun bt1 => (some (decide (bt1.1 = 0), bt1.2.1, bt1.2.2))
set_option maxHeartbeats 4000000 in
set_option maxRecDepth 100000 in
theorem spec_l1Once.ok (b1000 : Nat) (l0_0 : List Int) (Al0_0 : Option Addr) (cl0_0 : Nat) (a0_1 : Int) (a0_2 : Int) (a1 : Int) (r0 : Bool) (r1 : Int) (r2 : Int) (H : spec_l1Once.f l0_0 a0_1 a0_2 a1 = some (r0, r1, r2)) : Fn Try.prog 105 [.pointer (some ⟨b1000, 0, none⟩), .int .i64 a1] [⟨b1000, 111, [.slice Al0_0 l0_0.length cl0_0, .int .i64 a0_1, .int .i64 a0_2]⟩] [.sl 0 (.int .u8) Al0_0 cl0_0 l0_0 0 false] (fun v bx en => v = .bool r0 ∧ bx = [⟨b1000, 111, [.slice Al0_0 l0_0.length cl0_0, .int .i64 r1, .int .i64 r2]⟩] ∧ en = []) := by
 refine fn_ 9 Try.func105 rfl rfl rfl (fun base T w0 => ?_)
 rw [spec_l1Once.f] at H
 refine gs (rg (sv (EV.as rfl) rfl (re (gs (rg (sv (EV.mv rfl) rfl (sv (EV.mv rfl) rfl ?_)))))))
 revert H; refine bdI ?_; rintro ⟨t1_0, t1_1, t1_2⟩ A1 H
 refine so rfl (op_callM (spec_l1Below.ok b1000 l0_0 Al0_0 cl0_0 a0_1 a0_2 a1 _ _ _ A1) [⟨0, 0, 0, false⟩] [0] [] 1 rfl rfl rfl rfl rfl rfl rfl rfl ?_)
 rintro _ _ _ ⟨rfl, rfl, rfl⟩
 refine nmE (en := [.sl 0 (.int .u8) Al0_0 cl0_0 l0_0 0 false]) (by kernel_rfl) (sv (EV.eql rfl rfl) rfl (sv (EV.as rfl) rfl (re (pr [4] [0] [0] rfl rfl rfl rfl ?_))))
 cases H
 exact rt Try.func105 rfl (.tmp rfl .nil) rfl [0] [] rfl rfl rfl rfl rfl ⟨rfl, rfl, rfl⟩
end Go.Proofs.Ytajjeemkdjfilaa.K
namespace Go.Proofs.Ytajjeemkdjfilaa.K
open Go Go.RowKit
set_option linter.unusedVariables false
set_option linter.unusedSimpArgs false
def spec_l1PickInt.f (l0_0 : List Int) (a0_1 : Int) (a0_2 : Int) (l1 : List Int) : Option (Int × Int × Int) := (spec_l1Below.f l0_0 a0_1 a0_2 (l1.length : Int)).bind fun bt1 => (if 0 ≤ bt1.1 then (if bt1.1 < (l1.length : Int) then (some (rdOf 0 l1 bt1.1, bt1.2.1, bt1.2.2)) else none) else none)
set_option maxHeartbeats 4000000 in
set_option maxRecDepth 100000 in
theorem spec_l1PickInt.ok (b1000 : Nat) (l0_0 : List Int) (Al0_0 : Option Addr) (cl0_0 : Nat) (a0_1 : Int) (a0_2 : Int) (l1 : List Int) (Al1 : Option Addr) (cl1 : Nat) (r0 : Int) (r1 : Int) (r2 : Int) (H : spec_l1PickInt.f l0_0 a0_1 a0_2 l1 = some (r0, r1, r2)) : Fn Try.prog 84 [.pointer (some ⟨b1000, 0, none⟩), .slice Al1 l1.length cl1] [⟨b1000, 111, [.slice Al0_0 l0_0.length cl0_0, .int .i64 a0_1, .int .i64 a0_2]⟩] [.sl 0 (.int .u8) Al0_0 cl0_0 l0_0 0 false, .sl 0 (.int .i64) Al1 cl1 l1 0 false] (fun v bx en => v = .int .i64 r0 ∧ bx = [⟨b1000, 111, [.slice Al0_0 l0_0.length cl0_0, .int .i64 r1, .int .i64 r2]⟩] ∧ en = []) := by
 refine fn_ 12 Try.func84 rfl rfl rfl (fun base T w0 => ?_)
 rw [spec_l1PickInt.f] at H
 refine gs (rg (sv (EV.as rfl) rfl (re (gs (rg (sv (EV.mv rfl) rfl (sv (EV.mv rfl) rfl (sv (EV.mv rfl) rfl (sv (EV.ln rfl) rfl ?_)))))))))
 revert H; refine bdI ?_; rintro ⟨t1_0, t1_1, t1_2⟩ A1 H
 refine so rfl (op_callM (spec_l1Below.ok b1000 l0_0 Al0_0 cl0_0 a0_1 a0_2 (l1.length : Int) _ _ _ A1) [⟨0, 0, 0, false⟩] [0] [] 1 rfl rfl rfl rfl rfl rfl rfl rfl ?_)
 rintro _ _ _ ⟨rfl, rfl, rfl⟩
 refine nmE (en := [.sl 0 (.int .u8) Al0_0 cl0_0 l0_0 0 false, .sl 0 (.int .i64) Al1 cl1 l1 0 false]) (by kernel_rfl) ?_
 revert H; refine ggI ?_; intro g2 H
 revert H; refine ggI ?_; intro g3 H
 refine sv (EV.ix 1 rfl rfl rfl g2 g3 rfl) rfl (sv (EV.le (v := .int .i64 (rdOf 0 l1 t1_0)) t1_0 0 none 1 0 rfl rfl rfl g2 g3 rfl rfl rfl) rfl (sv (EV.as rfl) rfl (re (pr [4] [0] [0] rfl rfl rfl rfl ?_))))
 cases H
 exact rt Try.func84 rfl (.tmp rfl .nil) rfl [0] [] rfl rfl rfl rfl rfl ⟨rfl, rfl, rfl⟩
end Go.Proofs.Ytajjeemkdjfilaa.K
namespace Go.Proofs.Ytajjeemkdjfilaa.K
open Go Go.RowKit
set_option linter.unusedVariables false
set_option linter.unusedSimpArgs false
def spec_l7Kind.f (l0_0 : List Int) (a0_1 : Int) (a0_2 : Int) : Option (Int × Int × Int) := (spec_l1Once.f l0_0 a0_1 a0_2 14).bind fun bt1 => (if bt1.1 = true then ((spec_l1PickInt.f l0_0 bt1.2.1 bt1.2.2 ([0, 5] : List Int)).bind fun bt4 => (some (bt4.1, bt4.2.1, bt4.2.2))) else ((spec_l1Below.f l0_0 bt1.2.1 bt1.2.2 4).bind fun bt5 => (some (wrap64 (1 + bt5.1), bt5.2.1, bt5.2.2))))
set_option maxHeartbeats 4000000 in
set_option maxRecDepth 100000 in
theorem spec_l7Kind.ok (b1000 : Nat) (l0_0 : List Int) (Al0_0 : Option Addr) (cl0_0 : Nat) (a0_1 : Int) (a0_2 : Int) (r0 : Int) (r1 : Int) (r2 : Int) (H : spec_l7Kind.f l0_0 a0_1 a0_2 = some (r0, r1, r2)) : Fn Try.prog 62 [.pointer (some ⟨b1000, 0, none⟩)] [⟨b1000, 111, [.slice Al0_0 l0_0.length cl0_0, .int .i64 a0_1, .int .i64 a0_2]⟩] [.sl 0 (.int .u8) Al0_0 cl0_0 l0_0 0 false] (fun v bx en => v = .int .i64 r0 ∧ bx = [⟨b1000, 111, [.slice Al0_0 l0_0.length cl0_0, .int .i64 r1, .int .i64 r2]⟩] ∧ en = []) := by
 refine fn_ 11 Try.func62 rfl rfl rfl (fun base T w0 => ?_)
 rw [spec_l7Kind.f] at H
 refine gs (rg (sv (EV.as rfl) rfl (re (gs (gs (rg (sv (EV.mv rfl) rfl ?_)))))))
 revert H; refine bdI ?_; rintro ⟨t1_0, t1_1, t1_2⟩ A1 H
 refine so rfl (op_callM (spec_l1Once.ok b1000 l0_0 Al0_0 cl0_0 a0_1 a0_2 14 _ _ _ A1) [⟨0, 0, 0, false⟩] [0] [] 1 rfl rfl rfl rfl rfl rfl rfl rfl ?_)
 rintro _ _ _ ⟨rfl, rfl, rfl⟩
 refine nmE (en := [.sl 0 (.int .u8) Al0_0 cl0_0 l0_0 0 false]) (by kernel_rfl) (re ?_)
 revert H; refine ifsI ?_ ?_ <;> intro c2 H
 ·
  subst c2
  refine gt rfl rfl (gs (rg (sv (EV.mv rfl) rfl (so rfl (op_lit (s := 1) (by_ := 8) (.int .i64) ([0, 5] : List Int) [[], []] [] 1 [.const (.int .i64 0), .const (.int .i64 5)] rfl rfl rfl rfl rfl rfl rfl rfl rfl rfl rfl rfl rfl dq rfl fun A6_3 c6_3 => ?_)))))
  revert H; refine bdI ?_; rintro ⟨t4_0, t4_1, t4_2⟩ A4 H
  refine so rfl (op_callM (spec_l1PickInt.ok b1000 l0_0 Al0_0 cl0_0 t1_1 t1_2 ([0, 5] : List Int) A6_3 c6_3 _ _ _ A4) [⟨0, 0, 0, false⟩, ⟨1, 0, 0, false⟩] [0] [] 2 rfl rfl rfl rfl rfl rfl rfl rfl ?_)
  rintro _ _ _ ⟨rfl, rfl, rfl⟩
  refine nmE (en := [.sl 0 (.int .u8) Al0_0 cl0_0 l0_0 0 false, .sl 2 (.int .i64) A6_3 c6_3 ([0, 5] : List Int) 1 true]) (by kernel_rfl) (sv (EV.as rfl) rfl (re (pr [2] [0] [0] rfl rfl rfl rfl ?_)))
  cases H
  exact rt Try.func62 rfl (.tmp rfl .nil) rfl [0] [] rfl rfl rfl rfl rfl ⟨rfl, rfl, rfl⟩
 ·
  obtain rfl := bF c2
  refine gf rfl rfl (gk (gs (rg (sv (EV.mv rfl) rfl ?_))))
  revert H; refine bdI ?_; rintro ⟨t5_0, t5_1, t5_2⟩ A5 H
  refine so rfl (op_callM (spec_l1Below.ok b1000 l0_0 Al0_0 cl0_0 t1_1 t1_2 4 _ _ _ A5) [⟨0, 0, 0, false⟩] [0] [] 1 rfl rfl rfl rfl rfl rfl rfl rfl ?_)
  rintro _ _ _ ⟨rfl, rfl, rfl⟩
  refine nmE (en := [.sl 0 (.int .u8) Al0_0 cl0_0 l0_0 0 false]) (by kernel_rfl) (sv (EV.add rfl rfl) rfl (sv (EV.as rfl) rfl (re (pr [2] [0] [0] rfl rfl rfl rfl ?_))))
  cases H
  exact rt Try.func62 rfl (.tmp rfl .nil) rfl [0] [] rfl rfl rfl rfl rfl ⟨rfl, rfl, rfl⟩
end Go.Proofs.Ytajjeemkdjfilaa.K
namespace Go.Proofs.Ytajjeemkdjfilaa.K
open Go Go.RowKit
set_option linter.unusedVariables false
set_option linter.unusedSimpArgs false
def spec_l2Row.f (l0_0 : List Int) (a0_1 : Int) (a0_2 : Int) (a1 : Int) : Option (Int × Int × Int × Int × Int) := (spec_l1Below.f l0_0 a0_1 a0_2 a1).bind fun bt1 => ((spec_l1Below.f l0_0 bt1.2.1 bt1.2.2 100).bind fun bt2 => ((spec_l1PickInt.f l0_0 bt2.2.1 bt2.2.2 ([0, 0, 1, 2, 3] : List Int)).bind fun bt4 => (some (bt1.1, bt2.1, bt4.1, bt4.2.1, bt4.2.2))))
set_option maxHeartbeats 4000000 in
set_option maxRecDepth 100000 in
theorem spec_l2Row.ok (b1000 : Nat) (l0_0 : List Int) (Al0_0 : Option Addr) (cl0_0 : Nat) (a0_1 : Int) (a0_2 : Int) (a1 : Int) (r0 : Int) (r1 : Int) (r2 : Int) (r3 : Int) (r4 : Int) (H : spec_l2Row.f l0_0 a0_1 a0_2 a1 = some (r0, r1, r2, r3, r4)) : Fn Try.prog 111 [.pointer (some ⟨b1000, 0, none⟩), .int .i64 a1] [⟨b1000, 111, [.slice Al0_0 l0_0.length cl0_0, .int .i64 a0_1, .int .i64 a0_2]⟩] [.sl 0 (.int .u8) Al0_0 cl0_0 l0_0 0 false] (fun v bx en => v = .agg #[.int .i64 r0, .int .i64 r1, .int .i64 r2] ∧ bx = [⟨b1000, 111, [.slice Al0_0 l0_0.length cl0_0, .int .i64 r3, .int .i64 r4]⟩] ∧ en = []) := by
 refine fn_ 14 Try.func111 rfl rfl rfl (fun base T w0 => ?_)
 rw [spec_l2Row.f] at H
 refine gs (rg (so rfl (op_alloc (cs := [.int .i64 0, .int .i64 0, .int .i64 0]) (by kernel_rfl) rfl fun b4 => (re (gs (rg (sv (EV.mv rfl) rfl (sv (EV.mv rfl) rfl ?_))))))))
 revert H; refine bdI ?_; rintro ⟨t1_0, t1_1, t1_2⟩ A1 H
 refine so rfl (op_callM (spec_l1Below.ok b1000 l0_0 Al0_0 cl0_0 a0_1 a0_2 a1 _ _ _ A1) [⟨0, 0, 0, false⟩] [0] [1] 1 rfl rfl rfl rfl rfl rfl rfl rfl ?_)
 rintro _ _ _ ⟨rfl, rfl, rfl⟩
 refine nmE (en := [.sl 0 (.int .u8) Al0_0 cl0_0 l0_0 0 false]) (by kernel_rfl) (sv (EV.mv rfl) rfl ?_)
 revert H; refine bdI ?_; rintro ⟨t2_0, t2_1, t2_2⟩ A2 H
 refine so rfl (op_callM (spec_l1Below.ok b1000 l0_0 Al0_0 cl0_0 t1_1 t1_2 100 _ _ _ A2) [⟨0, 0, 0, false⟩] [1] [0] 1 rfl rfl rfl rfl rfl rfl rfl rfl ?_)
 rintro _ _ _ ⟨rfl, rfl, rfl⟩
 refine nmE (en := [.sl 0 (.int .u8) Al0_0 cl0_0 l0_0 0 false]) (by kernel_rfl) (sv (EV.mv rfl) rfl (so rfl (op_lit (s := 1) (by_ := 8) (.int .i64) ([0, 0, 1, 2, 3] : List Int) [[], [], [], [], []] [] 1 [.const (.int .i64 0), .const (.int .i64 0), .const (.int .i64 1), .const (.int .i64 2), .const (.int .i64 3)] rfl rfl rfl rfl rfl rfl rfl rfl rfl rfl rfl rfl rfl dq rfl fun A11_3 c11_3 => ?_)))
 revert H; refine bdI ?_; rintro ⟨t4_0, t4_1, t4_2⟩ A4 H
 refine so rfl (op_callM (spec_l1PickInt.ok b1000 l0_0 Al0_0 cl0_0 t2_1 t2_2 ([0, 0, 1, 2, 3] : List Int) A11_3 c11_3 _ _ _ A4) [⟨0, 0, 0, false⟩, ⟨1, 0, 0, false⟩] [1] [0] 2 rfl rfl rfl rfl rfl rfl rfl rfl ?_)
 rintro _ _ _ ⟨rfl, rfl, rfl⟩
 refine nmE (en := [.sl 0 (.int .u8) Al0_0 cl0_0 l0_0 0 false, .sl 2 (.int .i64) A11_3 c11_3 ([0, 0, 1, 2, 3] : List Int) 1 true]) (by kernel_rfl) (sv (EV.bd (v := .agg #[.int .i64 t1_0, .int .i64 t2_0, .int .i64 t4_0]) rfl (by kernel_rfl)) rfl (so rfl (op_st (cs' := [.int .i64 t1_0, .int .i64 t2_0, .int .i64 t4_0]) 0 rfl rfl rfl rfl rfl rfl (re (pr [4] [0, 1] [0] rfl rfl rfl rfl ?_)))))
 cases H
 exact rt Try.func111 rfl (.cell 0 (some 3) rfl rfl rfl .nil) rfl [1] [] rfl rfl rfl rfl rfl ⟨rfl, rfl, rfl⟩
end Go.Proofs.Ytajjeemkdjfilaa.K
namespace Go.Proofs.Ytajjeemkdjfilaa.K
open Go Go.RowKit
set_option linter.unusedVariables false
set_option linter.unusedSimpArgs false
def spec_l2Any.f (l0_0 : List Int) (a0_1 : Int) (a0_2 : Int) : Option (Int × Int × Int × Int × Int) := (spec_l2Row.f l0_0 a0_1 a0_2 10).bind fun bt1 => ((spec_l1Below.f l0_0 bt1.2.2.2.1 bt1.2.2.2.2 8).bind fun bt2 => (if bt2.1 = 0 then ((spec_l1PickInt.f l0_0 bt2.2.1 bt2.2.2 ([(-1), 10] : List Int)).bind fun bt5 => (some (bt5.1, bt1.2.1, bt1.2.2.1, bt5.2.1, bt5.2.2))) else (if bt2.1 = 1 then ((spec_l1PickInt.f l0_0 bt2.2.1 bt2.2.2 ([(-1), 100, 99] : List Int)).bind fun bt8 => (some (bt1.1, bt8.1, bt1.2.2.1, bt8.2.1, bt8.2.2))) else (if bt2.1 = 2 then ((spec_l1PickInt.f l0_0 bt2.2.1 bt2.2.2 ([(-1), 4] : List Int)).bind fun bt11 => (some (bt1.1, bt1.2.1, bt11.1, bt11.2.1, bt11.2.2))) else (some (bt1.1, bt1.2.1, bt1.2.2.1, bt2.2.1, bt2.2.2))))))
set_option maxHeartbeats 4000000 in
set_option maxRecDepth 100000 in
theorem spec_l2Any.ok (b1000 : Nat) (l0_0 : List Int) (Al0_0 : Option Addr) (cl0_0 : Nat) (a0_1 : Int) (a0_2 : Int) (r0 : Int) (r1 : Int) (r2 : Int) (r3 : Int) (r4 : Int) (H : spec_l2Any.f l0_0 a0_1 a0_2 = some (r0, r1, r2, r3, r4)) : Fn Try.prog 107 [.pointer (some ⟨b1000, 0, none⟩)] [⟨b1000, 111, [.slice Al0_0 l0_0.length cl0_0, .int .i64 a0_1, .int .i64 a0_2]⟩] [.sl 0 (.int .u8) Al0_0 cl0_0 l0_0 0 false] (fun v bx en => v = .agg #[.int .i64 r0, .int .i64 r1, .int .i64 r2] ∧ bx = [⟨b1000, 111, [.slice Al0_0 l0_0.length cl0_0, .int .i64 r3, .int .i64 r4]⟩] ∧ en = []) := by
 refine fn_ 27 Try.func107 rfl rfl rfl (fun base T w0 => ?_)
 rw [spec_l2Any.f] at H
 refine gs (rg (so rfl (op_alloc (cs := [.int .i64 0, .int .i64 0, .int .i64 0]) (by kernel_rfl) rfl fun b2 => (re (gs (rg (sv (EV.mv rfl) rfl ?_)))))))
 revert H; refine bdI ?_; rintro ⟨t1_0, t1_1, t1_2, t1_3, t1_4⟩ A1 H
 refine so rfl (op_callM (spec_l2Row.ok b1000 l0_0 Al0_0 cl0_0 a0_1 a0_2 10 _ _ _ _ _ A1) [⟨0, 0, 0, false⟩] [0] [1] 1 rfl rfl rfl rfl rfl rfl rfl rfl ?_)
 rintro _ _ _ ⟨rfl, rfl, rfl⟩
 refine nmE (en := [.sl 0 (.int .u8) Al0_0 cl0_0 l0_0 0 false]) (by kernel_rfl) (so rfl (op_alloc (cs := [.int .i64 0, .int .i64 0, .int .i64 0]) (by kernel_rfl) rfl fun b3 => (so rfl (op_st (cs' := [.int .i64 t1_0, .int .i64 t1_1, .int .i64 t1_2]) 2 rfl rfl rfl rfl rfl rfl (re (gs (gs (rg (sv (EV.mv rfl) rfl ?_)))))))))
 revert H; refine bdI ?_; rintro ⟨t2_0, t2_1, t2_2⟩ A2 H
 refine so rfl (op_callM (spec_l1Below.ok b1000 l0_0 Al0_0 cl0_0 t1_3 t1_4 8 _ _ _ A2) [⟨0, 0, 0, false⟩] [1] [0, 2] 1 rfl rfl rfl rfl rfl rfl rfl rfl ?_)
 rintro _ _ _ ⟨rfl, rfl, rfl⟩
 refine nmE (en := [.sl 0 (.int .u8) Al0_0 cl0_0 l0_0 0 false]) (by kernel_rfl) (re (gb (gs (rg (sv (EV.eql rfl rfl) rfl (sv (EV.as rfl) rfl (re ?_)))))))
 revert H; refine ifsI ?_ ?_ <;> intro c3 H
 ·
  refine gt rfl (dT c3) (rg (sv (EV.mv rfl) rfl (so rfl (op_lit (s := 1) (by_ := 8) (.int .i64) ([(-1), 10] : List Int) [[], []] [] 1 [.const (.int .i64 (-1)), .const (.int .i64 10)] rfl rfl rfl rfl rfl rfl rfl rfl rfl rfl rfl rfl rfl dq rfl fun A11_4 c11_4 => ?_))))
  revert H; refine bdI ?_; rintro ⟨t5_0, t5_1, t5_2⟩ A5 H
  refine so rfl (op_callM (spec_l1PickInt.ok b1000 l0_0 Al0_0 cl0_0 t2_1 t2_2 ([(-1), 10] : List Int) A11_4 c11_4 _ _ _ A5) [⟨0, 0, 0, false⟩, ⟨1, 0, 0, false⟩] [2] [0, 1] 2 rfl rfl rfl rfl rfl rfl rfl rfl ?_)
  rintro _ _ _ ⟨rfl, rfl, rfl⟩
  refine nmE (en := [.sl 0 (.int .u8) Al0_0 cl0_0 l0_0 0 false, .sl 2 (.int .i64) A11_4 c11_4 ([(-1), 10] : List Int) 1 true]) (by kernel_rfl) (sv (EV.fa 0 rfl) rfl (so rfl (op_st (cs' := [.int .i64 t5_0, .int .i64 t1_1, .int .i64 t1_2]) 1 rfl rfl rfl rfl rfl rfl (re (pr [2, 3] [0, 1, 2] [0] rfl rfl rfl rfl (ge (gs (rg (sv (EV.ld (v := .agg #[.int .i64 t5_0, .int .i64 t1_1, .int .i64 t1_2]) 1 (some 3) rfl rfl rfl) rfl (so rfl (op_st (cs' := [.int .i64 t5_0, .int .i64 t1_1, .int .i64 t1_2]) 0 rfl rfl rfl rfl rfl rfl (re ?_))))))))))))
  cases H
  exact rt Try.func107 rfl (.cell 0 (some 3) rfl rfl rfl .nil) rfl [2] [] rfl rfl rfl rfl rfl ⟨rfl, rfl, rfl⟩
 ·
  refine gf rfl (dF c3) (gs (rg (sv (EV.eql rfl rfl) rfl (sv (EV.as rfl) rfl (re (pr [0, 2, 3, 7, 14] [0, 1, 2] [0] rfl rfl rfl rfl ?_))))))
  revert H; refine ifsI ?_ ?_ <;> intro c6 H
  ·
   refine gt rfl (dT c6) (rg (sv (EV.mv rfl) rfl (so rfl (op_lit (s := 1) (by_ := 8) (.int .i64) ([(-1), 100, 99] : List Int) [[], [], []] [] 1 [.const (.int .i64 (-1)), .const (.int .i64 100), .const (.int .i64 99)] rfl rfl rfl rfl rfl rfl rfl rfl rfl rfl rfl rfl rfl dq rfl fun A17_7 c17_7 => ?_))))
   revert H; refine bdI ?_; rintro ⟨t8_0, t8_1, t8_2⟩ A8 H
   refine so rfl (op_callM (spec_l1PickInt.ok b1000 l0_0 Al0_0 cl0_0 t2_1 t2_2 ([(-1), 100, 99] : List Int) A17_7 c17_7 _ _ _ A8) [⟨0, 0, 0, false⟩, ⟨1, 0, 0, false⟩] [2] [0, 1] 2 rfl rfl rfl rfl rfl rfl rfl rfl ?_)
   rintro _ _ _ ⟨rfl, rfl, rfl⟩
   refine nmE (en := [.sl 0 (.int .u8) Al0_0 cl0_0 l0_0 0 false, .sl 2 (.int .i64) A17_7 c17_7 ([(-1), 100, 99] : List Int) 1 true]) (by kernel_rfl) (sv (EV.fa 1 rfl) rfl (so rfl (op_st (cs' := [.int .i64 t1_0, .int .i64 t8_0, .int .i64 t1_2]) 1 rfl rfl rfl rfl rfl rfl (re (pr [2, 3] [0, 1, 2] [0] rfl rfl rfl rfl (ge (gs (rg (sv (EV.ld (v := .agg #[.int .i64 t1_0, .int .i64 t8_0, .int .i64 t1_2]) 1 (some 3) rfl rfl rfl) rfl (so rfl (op_st (cs' := [.int .i64 t1_0, .int .i64 t8_0, .int .i64 t1_2]) 0 rfl rfl rfl rfl rfl rfl (re ?_))))))))))))
   cases H
   exact rt Try.func107 rfl (.cell 0 (some 3) rfl rfl rfl .nil) rfl [2] [] rfl rfl rfl rfl rfl ⟨rfl, rfl, rfl⟩
  ·
   refine gf rfl (dF c6) (gs (rg (sv (EV.eql rfl rfl) rfl (sv (EV.as rfl) rfl (re ?_)))))
   revert H; refine ifsI ?_ ?_ <;> intro c9 H
   ·
    refine gt rfl (dT c9) (rg (sv (EV.mv rfl) rfl (so rfl (op_lit (s := 1) (by_ := 8) (.int .i64) ([(-1), 4] : List Int) [[], []] [] 1 [.const (.int .i64 (-1)), .const (.int .i64 4)] rfl rfl rfl rfl rfl rfl rfl rfl rfl rfl rfl rfl rfl dq rfl fun A23_10 c23_10 => ?_))))
    revert H; refine bdI ?_; rintro ⟨t11_0, t11_1, t11_2⟩ A11 H
    refine so rfl (op_callM (spec_l1PickInt.ok b1000 l0_0 Al0_0 cl0_0 t2_1 t2_2 ([(-1), 4] : List Int) A23_10 c23_10 _ _ _ A11) [⟨0, 0, 0, false⟩, ⟨1, 0, 0, false⟩] [2] [0, 1] 2 rfl rfl rfl rfl rfl rfl rfl rfl ?_)
    rintro _ _ _ ⟨rfl, rfl, rfl⟩
    refine nmE (en := [.sl 0 (.int .u8) Al0_0 cl0_0 l0_0 0 false, .sl 2 (.int .i64) A23_10 c23_10 ([(-1), 4] : List Int) 1 true]) (by kernel_rfl) (sv (EV.fa 2 rfl) rfl (so rfl (op_st (cs' := [.int .i64 t1_0, .int .i64 t1_1, .int .i64 t11_0]) 1 rfl rfl rfl rfl rfl rfl (re (pr [2, 3] [0, 1, 2] [0] rfl rfl rfl rfl (ge (gs (rg (sv (EV.ld (v := .agg #[.int .i64 t1_0, .int .i64 t1_1, .int .i64 t11_0]) 1 (some 3) rfl rfl rfl) rfl (so rfl (op_st (cs' := [.int .i64 t1_0, .int .i64 t1_1, .int .i64 t11_0]) 0 rfl rfl rfl rfl rfl rfl (re ?_))))))))))))
    cases H
    exact rt Try.func107 rfl (.cell 0 (some 3) rfl rfl rfl .nil) rfl [2] [] rfl rfl rfl rfl rfl ⟨rfl, rfl, rfl⟩
   ·
    refine gf rfl (dF c9) (gk (ge (gs (rg (sv (EV.ld (v := .agg #[.int .i64 t1_0, .int .i64 t1_1, .int .i64 t1_2]) 1 (some 3) rfl rfl rfl) rfl (so rfl (op_st (cs' := [.int .i64 t1_0, .int .i64 t1_1, .int .i64 t1_2]) 0 rfl rfl rfl rfl rfl rfl (re (pr [2] [0, 2] [0] rfl rfl rfl rfl ?_)))))))))
    cases H
    exact rt Try.func107 rfl (.cell 0 (some 3) rfl rfl rfl .nil) rfl [1] [] rfl rfl rfl rfl rfl ⟨rfl, rfl, rfl⟩
end Go.Proofs.Ytajjeemkdjfilaa.K
namespace Go.Proofs.Ytajjeemkdjfilaa.K
open Go Go.RowKit
set_option linter.unusedVariables false
set_option linter.unusedSimpArgs false
def spec_l2Rows.l0 : Nat → (List S70) → Int → Int → Int → Int → (List Int) → Option ((List S70) × Int × Int)
 | 0, _, _, _, _, _, _ => none
 | k + 1, x2_5, x2_6, x2_7, x2_1000_1, x2_1000_2, l0_0 => if x2_7 > 0 then ((spec_l2Row.f l0_0 x2_1000_1 x2_1000_2 x2_6).bind fun bt6 => (if x2_5.length < 5864062014805 then (spec_l2Rows.l0 k (x2_5 ++ ([(⟨bt6.1, bt6.2.1, bt6.2.2.1⟩ : S70)] : List S70)) x2_6 (wrap64 (x2_7 - 1)) bt6.2.2.2.1 bt6.2.2.2.2 l0_0) else none)) else (some (x2_5, x2_1000_1, x2_1000_2))
def spec_l2Rows.f (k : Nat) (l0_0 : List Int) (a0_1 : Int) (a0_2 : Int) (a1 : Int) : Option ((List S70) × Int × Int) := (spec_l1PickInt.f l0_0 a0_1 a0_2 ([1, 2, 4, 10] : List Int)).bind fun bt3 => ((spec_l1Below.f l0_0 bt3.2.1 bt3.2.2 (wrap64 (a1 + 1))).bind fun bt4 => (spec_l2Rows.l0 k [] bt3.1 bt4.1 bt4.2.1 bt4.2.2 l0_0))
set_option maxHeartbeats 4000000 in
set_option maxRecDepth 100000 in
theorem spec_l2Rows.ok (k : Nat) (b1000 : Nat) (l0_0 : List Int) (Al0_0 : Option Addr) (cl0_0 : Nat) (a0_1 : Int) (a0_2 : Int) (a1 : Int) (r0 : List S70) (r1 : Int) (r2 : Int) (H : spec_l2Rows.f k l0_0 a0_1 a0_2 a1 = some (r0, r1, r2)) : Fn Try.prog 77 [.pointer (some ⟨b1000, 0, none⟩), .int .i64 a1] [⟨b1000, 111, [.slice Al0_0 l0_0.length cl0_0, .int .i64 a0_1, .int .i64 a0_2]⟩] [.sl 0 (.int .u8) Al0_0 cl0_0 l0_0 0 false] (fun v bx en => ∃ A0 c0, v = .slice A0 r0.length c0 ∧ bx = [⟨b1000, 111, [.slice Al0_0 l0_0.length cl0_0, .int .i64 r1, .int .i64 r2]⟩] ∧ en = [.sl 2 k70 A0 c0 r0 1 true]) := by
 refine fn_ 27 Try.func77 rfl rfl rfl (fun base T w0 => ?_)
 rw [spec_l2Rows.f] at H
 refine gs (rg (sv (EV.as rfl) rfl (re (gs (rg (so rfl (op_lit (s := 3) (by_ := 24) k70 ([] : List S70) [] [] 1 [] rfl rfl rfl rfl rfl rfl rfl rfl rfl rfl rfl rfl rfl dq rfl fun A8_1 c8_1 => (sv (EV.as rfl) rfl (re (gs (rg (sv (EV.mv rfl) rfl (so rfl (op_lit (s := 1) (by_ := 8) (.int .i64) ([1, 2, 4, 10] : List Int) [[], [], [], []] [] 2 [.const (.int .i64 1), .const (.int .i64 2), .const (.int .i64 4), .const (.int .i64 10)] rfl rfl rfl rfl rfl rfl rfl rfl rfl rfl rfl rfl rfl dq rfl fun A10_2 c10_2 => ?_))))))))))))))
 revert H; refine bdI ?_; rintro ⟨t3_0, t3_1, t3_2⟩ A3 H
 refine so rfl (op_callM (spec_l1PickInt.ok b1000 l0_0 Al0_0 cl0_0 a0_1 a0_2 ([1, 2, 4, 10] : List Int) A10_2 c10_2 _ _ _ A3) [⟨0, 0, 0, false⟩, ⟨2, 0, 0, false⟩] [0] [] 3 rfl rfl rfl rfl rfl rfl rfl rfl ?_)
 rintro _ _ _ ⟨rfl, rfl, rfl⟩
 refine nmE (en := [.sl 0 (.int .u8) Al0_0 cl0_0 l0_0 0 false, .sl 2 k70 A8_1 c8_1 [] 1 true, .sl 2 (.int .i64) A10_2 c10_2 ([1, 2, 4, 10] : List Int) 2 true]) (by kernel_rfl) (sv (EV.as rfl) rfl (re (gs (gs (rg (sv (EV.mv rfl) rfl (sv (EV.mv rfl) rfl (sv (EV.add rfl rfl) rfl ?_))))))))
 revert H; refine bdI ?_; rintro ⟨t4_0, t4_1, t4_2⟩ A4 H
 refine so rfl (op_callM (spec_l1Below.ok b1000 l0_0 Al0_0 cl0_0 t3_1 t3_2 (wrap64 (a1 + 1)) _ _ _ A4) [⟨0, 0, 0, false⟩] [0] [] 3 rfl rfl rfl rfl rfl rfl rfl rfl ?_)
 rintro _ _ _ ⟨rfl, rfl, rfl⟩
 refine nmE (en := [.sl 0 (.int .u8) Al0_0 cl0_0 l0_0 0 false, .sl 2 k70 A8_1 c8_1 [] 1 true, .sl 2 (.int .i64) A10_2 c10_2 ([1, 2, 4, 10] : List Int) 2 true]) (by kernel_rfl) (sv (EV.as rfl) rfl (re (pr [0, 5, 6, 7] [0] [0, 1] rfl rfl rfl rfl (gb ?_))))
 refine lo (fun kk S => ∃ (x2_5 : List S70) (Ax2_5 : Option Addr) (cx2_5 : Nat) (x2_6 : Int) (x2_7 : Int) (x2_1000_1 : Int) (x2_1000_2 : Int), spec_l2Rows.l0 kk x2_5 x2_6 x2_7 x2_1000_1 x2_1000_2 l0_0 = some (r0, r1, r2) ∧ S = ⟨[(0, .pointer (some ⟨b1000, 0, none⟩)), (5, .slice Ax2_5 x2_5.length cx2_5), (6, .int .i64 x2_6), (7, .int .i64 x2_7)], [⟨b1000, 111, [.slice Al0_0 l0_0.length cl0_0, .int .i64 x2_1000_1, .int .i64 x2_1000_2]⟩], [.sl 2 k70 Ax2_5 cx2_5 x2_5 1 true, .sl 0 (.int .u8) Al0_0 cl0_0 l0_0 0 false]⟩) (fun S hS => ?_) (fun n0 ih0 S hS => ?_) ⟨[], A8_1, c8_1, t3_0, t4_0, t4_1, t4_2, H, rfl⟩ (fun h => wk [0, 5, 6, 7] [0] [⟨1, 2, 1, true⟩, ⟨0, 0, 0, false⟩] h)
 · clear H; obtain ⟨_, _, _, _, _, _, _, H, _⟩ := hS; rw [spec_l2Rows.l0] at H; cases H
 clear H
 obtain ⟨x2_5, Ax2_5, cx2_5, x2_6, x2_7, x2_1000_1, x2_1000_2, H, rfl⟩ := hS
 rw [spec_l2Rows.l0] at H
 refine gs (gs (rg (sv (EV.mv rfl) rfl (sv (EV.gtr rfl rfl) rfl (re ?_)))))
 revert H; refine ifsI ?_ ?_ <;> intro c5 H
 ·
  refine gt rfl (dT c5) (gk (gs (gb (rg (sv (EV.mv rfl) rfl (sv (EV.mv rfl) rfl (sv (EV.mv rfl) rfl ?_)))))))
  revert H; refine bdI ?_; rintro ⟨t6_0, t6_1, t6_2, t6_3, t6_4⟩ A6 H
  refine so rfl (op_callM (spec_l2Row.ok b1000 l0_0 Al0_0 cl0_0 x2_1000_1 x2_1000_2 x2_6 _ _ _ _ _ A6) [⟨1, 0, 0, false⟩] [0] [] 2 rfl rfl rfl rfl rfl rfl rfl rfl ?_)
  rintro _ _ _ ⟨rfl, rfl, rfl⟩
  refine nmE (en := [.sl 2 k70 Ax2_5 cx2_5 x2_5 1 true, .sl 0 (.int .u8) Al0_0 cl0_0 l0_0 0 false]) (by kernel_rfl) (so rfl (op_lit (s := 3) (by_ := 24) k70 ([(⟨t6_0, t6_1, t6_2⟩ : S70)] : List S70) [[]] [] 2 [.tmp 23] rfl rfl rfl rfl rfl rfl rfl rfl rfl rfl rfl rfl rfl dq rfl fun A24_7 c24_7 => ?_))
  revert H; refine ggI ?_; intro g8 H
  exact so rfl (op_app (k := k70) (s := 3) (by_ := 24) 0 2 rfl rfl rfl rfl (ap1 g8 dq) (ap1n g8 dq) (.inl rfl) true (fun _ => .inl rfl) rfl rfl fun A25_9 c25_9 => (nmE (en := [.sl 0 (.int .u8) Al0_0 cl0_0 l0_0 0 false, .sl 2 k70 A24_7 c24_7 ([(⟨t6_0, t6_1, t6_2⟩ : S70)] : List S70) 2 true, .sl 2 k70 A25_9 c25_9 (x2_5 ++ ([(⟨t6_0, t6_1, t6_2⟩ : S70)] : List S70)) 1 true]) (by kernel_rfl) (sv (EV.as rfl) rfl (re (pr [0, 5, 6, 7] [0] [0, 2] rfl rfl rfl rfl (ge (rg (sv (EV.mv rfl) rfl (sv (EV.sub rfl rfl) rfl (sv (EV.as rfl) rfl (re (wk [0, 5, 6, 7] [0] [⟨1, 2, 1, true⟩, ⟨0, 0, 0, false⟩] (ih0 _ (by omega) _ ⟨x2_5 ++ ([(⟨t6_0, t6_1, t6_2⟩ : S70)] : List S70), A25_9, c25_9, x2_6, wrap64 (x2_7 - 1), t6_3, t6_4, H, rfl⟩)))))))))))))
 ·
  refine gf rfl (dF c5) (gx rfl (gs (rg (sv (EV.mv rfl) rfl (sv (EV.as rfl) rfl (re (pr [4] [0] [0, 1] rfl rfl rfl rfl ?_)))))))
  cases H
  exact rt Try.func77 rfl (.tmp rfl .nil) rfl [0] [⟨0, 2, 1, true⟩] rfl rfl rfl rfl rfl ⟨_, _, rfl, rfl, rfl⟩
end Go.Proofs.Ytajjeemkdjfilaa.K
namespace Go.Proofs.Ytajjeemkdjfilaa.K
open Go Go.RowKit
set_option linter.unusedVariables false
set_option linter.unusedSimpArgs false
def spec_l2Bent.f (k : Nat) (l0_0 : List Int) (a0_1 : Int) (a0_2 : Int) (a1 : Int) : Option ((List S70) × Int × Int) := (spec_l2Rows.f k l0_0 a0_1 a0_2 a1).bind fun bt1 => ((spec_l1Once.f l0_0 bt1.2.1 bt1.2.2 14).bind fun bt2 => (if bt2.1 = true then ((spec_l2Any.f l0_0 bt2.2.1 bt2.2.2).bind fun bt4 => (if bt1.1.length < 5864062014805 then (some (bt1.1 ++ ([(⟨bt4.1, bt4.2.1, bt4.2.2.1⟩ : S70)] : List S70), bt4.2.2.2.1, bt4.2.2.2.2)) else none)) else (some (bt1.1, bt2.2.1, bt2.2.2))))
set_option maxHeartbeats 4000000 in
set_option maxRecDepth 100000 in
theorem spec_l2Bent.ok (k : Nat) (b1000 : Nat) (l0_0 : List Int) (Al0_0 : Option Addr) (cl0_0 : Nat) (a0_1 : Int) (a0_2 : Int) (a1 : Int) (r0 : List S70) (r1 : Int) (r2 : Int) (H : spec_l2Bent.f k l0_0 a0_1 a0_2 a1 = some (r0, r1, r2)) : Fn Try.prog 63 [.pointer (some ⟨b1000, 0, none⟩), .int .i64 a1] [⟨b1000, 111, [.slice Al0_0 l0_0.length cl0_0, .int .i64 a0_1, .int .i64 a0_2]⟩] [.sl 0 (.int .u8) Al0_0 cl0_0 l0_0 0 false] (fun v bx en => ∃ A0 c0, v = .slice A0 r0.length c0 ∧ bx = [⟨b1000, 111, [.slice Al0_0 l0_0.length cl0_0, .int .i64 r1, .int .i64 r2]⟩] ∧ en = [.sl 2 k70 A0 c0 r0 1 true]) := by
 refine fn_ 17 Try.func63 rfl rfl rfl (fun base T w0 => ?_)
 rw [spec_l2Bent.f] at H
 refine gs (rg (sv (EV.as rfl) rfl (re (gs (rg (sv (EV.mv rfl) rfl (sv (EV.mv rfl) rfl ?_)))))))
 revert H; refine bdI ?_; rintro ⟨t1_0, t1_1, t1_2⟩ A1 H
 refine so rfl (op_callM (spec_l2Rows.ok k b1000 l0_0 Al0_0 cl0_0 a0_1 a0_2 a1 _ _ _ A1) [⟨0, 0, 0, false⟩] [0] [] 1 rfl rfl rfl rfl rfl rfl rfl rfl ?_)
 rintro _ _ _ ⟨At1_0, ct1_0, rfl, rfl, rfl⟩
 refine nmE (en := [.sl 0 (.int .u8) Al0_0 cl0_0 l0_0 0 false, .sl 2 k70 At1_0 ct1_0 t1_0 2 true]) (by kernel_rfl) (sv (EV.as rfl) rfl (re (gs (gs (rg (sv (EV.mv rfl) rfl ?_))))))
 revert H; refine bdI ?_; rintro ⟨t2_0, t2_1, t2_2⟩ A2 H
 refine so rfl (op_callM (spec_l1Once.ok b1000 l0_0 Al0_0 cl0_0 t1_1 t1_2 14 _ _ _ A2) [⟨0, 0, 0, false⟩] [0] [] 3 rfl rfl rfl rfl rfl rfl rfl rfl ?_)
 rintro _ _ _ ⟨rfl, rfl, rfl⟩
 refine nmE (en := [.sl 0 (.int .u8) Al0_0 cl0_0 l0_0 0 false, .sl 2 k70 At1_0 ct1_0 t1_0 2 true]) (by kernel_rfl) (re (pr [0, 5, 10] [0] [0, 1] rfl rfl rfl rfl ?_))
 revert H; refine ifsI ?_ ?_ <;> intro c3 H
 ·
  subst c3
  refine gt rfl rfl (rg (sv (EV.mv rfl) rfl (sv (EV.mv rfl) rfl ?_)))
  revert H; refine bdI ?_; rintro ⟨t4_0, t4_1, t4_2, t4_3, t4_4⟩ A4 H
  refine so rfl (op_callM (spec_l2Any.ok b1000 l0_0 Al0_0 cl0_0 t2_1 t2_2 _ _ _ _ _ A4) [⟨0, 0, 0, false⟩] [0] [] 3 rfl rfl rfl rfl rfl rfl rfl rfl ?_)
  rintro _ _ _ ⟨rfl, rfl, rfl⟩
  refine nmE (en := [.sl 0 (.int .u8) Al0_0 cl0_0 l0_0 0 false, .sl 2 k70 At1_0 ct1_0 t1_0 2 true]) (by kernel_rfl) (so rfl (op_lit (s := 3) (by_ := 24) k70 ([(⟨t4_0, t4_1, t4_2⟩ : S70)] : List S70) [[]] [] 3 [.tmp 13] rfl rfl rfl rfl rfl rfl rfl rfl rfl rfl rfl rfl rfl dq rfl fun A14_5 c14_5 => ?_))
  revert H; refine ggI ?_; intro g6 H
  refine so rfl (op_app (k := k70) (s := 3) (by_ := 24) 1 2 rfl rfl rfl rfl (ap1 g6 dq) (ap1n g6 dq) (.inl rfl) true (fun _ => .inl rfl) rfl rfl fun A15_7 c15_7 => (nmE (en := [.sl 0 (.int .u8) Al0_0 cl0_0 l0_0 0 false, .sl 2 k70 A14_5 c14_5 ([(⟨t4_0, t4_1, t4_2⟩ : S70)] : List S70) 3 true, .sl 2 k70 A15_7 c15_7 (t1_0 ++ ([(⟨t4_0, t4_1, t4_2⟩ : S70)] : List S70)) 2 true]) (by kernel_rfl) (sv (EV.as rfl) rfl (re (pr [5] [0] [0, 2] rfl rfl rfl rfl (gs (rg (sv (EV.mv rfl) rfl (sv (EV.as rfl) rfl (re ?_))))))))))
  cases H
  exact rt Try.func63 rfl (.tmp rfl .nil) rfl [0] [⟨1, 2, 1, true⟩] rfl rfl rfl rfl rfl ⟨_, _, rfl, rfl, rfl⟩
 ·
  obtain rfl := bF c3
  refine gf rfl rfl (gk (gs (rg (sv (EV.mv rfl) rfl (sv (EV.as rfl) rfl (re ?_))))))
  cases H
  exact rt Try.func63 rfl (.tmp rfl .nil) rfl [0] [⟨1, 2, 1, true⟩] rfl rfl rfl rfl rfl ⟨_, _, rfl, rfl, rfl⟩
end Go.Proofs.Ytajjeemkdjfilaa.K
namespace Go.Proofs.Ytajjeemkdjfilaa.K
open Go Go.RowKit
set_option linter.unusedVariables false
set_option linter.unusedSimpArgs false
def spec_l14List.l0 : Nat → (List Int) → Int → Int → Int → (List Int) → Option ((List Int) × Int × Int)
 | 0, _, _, _, _, _ => none
 | k + 1, x2_3, x2_4, x2_1000_1, x2_1000_2, l0_0 => if x2_4 > 0 then ((spec_l1PickInt.f l0_0 x2_1000_1 x2_1000_2 ([0, 0, 1, 4, 12, 40] : List Int)).bind fun bt5 => (if x2_3.length < 17592186044416 then (spec_l14List.l0 k (x2_3 ++ ([wrap64 (8 + bt5.1)] : List Int)) (wrap64 (x2_4 - 1)) bt5.2.1 bt5.2.2 l0_0) else none)) else ((spec_l1Once.f l0_0 x2_1000_1 x2_1000_2 14).bind fun bt9 => (if bt9.1 = true then ((spec_l1PickInt.f l0_0 bt9.2.1 bt9.2.2 ([7, 61] : List Int)).bind fun bt12 => (if 0 < (x2_3.length : Int) then (some (x2_3.set (0 : Int).toNat bt12.1, bt12.2.1, bt12.2.2)) else none)) else (some (x2_3, bt9.2.1, bt9.2.2))))
def spec_l14List.f (k : Nat) (l0_0 : List Int) (a0_1 : Int) (a0_2 : Int) : Option ((List Int) × Int × Int) := (spec_l1Below.f l0_0 a0_1 a0_2 4).bind fun bt2 => (spec_l14List.l0 k [] (wrap64 (1 + bt2.1)) bt2.2.1 bt2.2.2 l0_0)
set_option maxHeartbeats 4000000 in
set_option maxRecDepth 100000 in
theorem spec_l14List.ok (k : Nat) (b1000 : Nat) (l0_0 : List Int) (Al0_0 : Option Addr) (cl0_0 : Nat) (a0_1 : Int) (a0_2 : Int) (r0 : List Int) (r1 : Int) (r2 : Int) (H : spec_l14List.f k l0_0 a0_1 a0_2 = some (r0, r1, r2)) : Fn Try.prog 64 [.pointer (some ⟨b1000, 0, none⟩)] [⟨b1000, 111, [.slice Al0_0 l0_0.length cl0_0, .int .i64 a0_1, .int .i64 a0_2]⟩] [.sl 0 (.int .u8) Al0_0 cl0_0 l0_0 0 false] (fun v bx en => ∃ A0 c0, v = .slice A0 r0.length c0 ∧ bx = [⟨b1000, 111, [.slice Al0_0 l0_0.length cl0_0, .int .i64 r1, .int .i64 r2]⟩] ∧ en = [.sl 2 (.int .i64) A0 c0 r0 1 true]) := by
 refine fn_ 28 Try.func64 rfl rfl rfl (fun base T w0 => ?_)
 rw [spec_l14List.f] at H
 refine gs (rg (sv (EV.as rfl) rfl (re (gs (rg (so rfl (op_lit (s := 1) (by_ := 8) (.int .i64) ([] : List Int) [] [] 1 [] rfl rfl rfl rfl rfl rfl rfl rfl rfl rfl rfl rfl rfl dq rfl fun A5_1 c5_1 => (sv (EV.as rfl) rfl (re (gs (gs (rg (sv (EV.mv rfl) rfl ?_)))))))))))))
 revert H; refine bdI ?_; rintro ⟨t2_0, t2_1, t2_2⟩ A2 H
 refine so rfl (op_callM (spec_l1Below.ok b1000 l0_0 Al0_0 cl0_0 a0_1 a0_2 4 _ _ _ A2) [⟨0, 0, 0, false⟩] [0] [] 2 rfl rfl rfl rfl rfl rfl rfl rfl ?_)
 rintro _ _ _ ⟨rfl, rfl, rfl⟩
 refine nmE (en := [.sl 0 (.int .u8) Al0_0 cl0_0 l0_0 0 false, .sl 2 (.int .i64) A5_1 c5_1 [] 1 true]) (by kernel_rfl) (sv (EV.add rfl rfl) rfl (sv (EV.as rfl) rfl (re (gb ?_))))
 refine lo (fun kk S => ∃ (x2_3 : List Int) (Ax2_3 : Option Addr) (cx2_3 : Nat) (x2_4 : Int) (x2_1000_1 : Int) (x2_1000_2 : Int), spec_l14List.l0 kk x2_3 x2_4 x2_1000_1 x2_1000_2 l0_0 = some (r0, r1, r2) ∧ S = ⟨[(0, .pointer (some ⟨b1000, 0, none⟩)), (3, .slice Ax2_3 x2_3.length cx2_3), (4, .int .i64 x2_4)], [⟨b1000, 111, [.slice Al0_0 l0_0.length cl0_0, .int .i64 x2_1000_1, .int .i64 x2_1000_2]⟩], [.sl 2 (.int .i64) Ax2_3 cx2_3 x2_3 1 true, .sl 0 (.int .u8) Al0_0 cl0_0 l0_0 0 false]⟩) (fun S hS => ?_) (fun n0 ih0 S hS => ?_) ⟨[], A5_1, c5_1, wrap64 (1 + t2_0), t2_1, t2_2, H, rfl⟩ (fun h => wk [0, 3, 4] [0] [⟨1, 2, 1, true⟩, ⟨0, 0, 0, false⟩] h)
 · clear H; obtain ⟨_, _, _, _, _, _, H, _⟩ := hS; rw [spec_l14List.l0] at H; cases H
 clear H
 obtain ⟨x2_3, Ax2_3, cx2_3, x2_4, x2_1000_1, x2_1000_2, H, rfl⟩ := hS
 rw [spec_l14List.l0] at H
 refine gs (gs (rg (sv (EV.mv rfl) rfl (sv (EV.gtr rfl rfl) rfl (re ?_)))))
 revert H; refine ifsI ?_ ?_ <;> intro c3 H
 ·
  refine gt rfl (dT c3) (gk (gs (gb (rg (sv (EV.mv rfl) rfl (sv (EV.mv rfl) rfl (so rfl (op_lit (s := 1) (by_ := 8) (.int .i64) ([0, 0, 1, 4, 12, 40] : List Int) [[], [], [], [], [], []] [] 2 [.const (.int .i64 0), .const (.int .i64 0), .const (.int .i64 1), .const (.int .i64 4), .const (.int .i64 12), .const (.int .i64 40)] rfl rfl rfl rfl rfl rfl rfl rfl rfl rfl rfl rfl rfl dq rfl fun A15_4 c15_4 => ?_))))))))
  revert H; refine bdI ?_; rintro ⟨t5_0, t5_1, t5_2⟩ A5 H
  refine so rfl (op_callM (spec_l1PickInt.ok b1000 l0_0 Al0_0 cl0_0 x2_1000_1 x2_1000_2 ([0, 0, 1, 4, 12, 40] : List Int) A15_4 c15_4 _ _ _ A5) [⟨1, 0, 0, false⟩, ⟨2, 0, 0, false⟩] [0] [] 3 rfl rfl rfl rfl rfl rfl rfl rfl ?_)
  rintro _ _ _ ⟨rfl, rfl, rfl⟩
  refine nmE (en := [.sl 2 (.int .i64) Ax2_3 cx2_3 x2_3 1 true, .sl 0 (.int .u8) Al0_0 cl0_0 l0_0 0 false, .sl 2 (.int .i64) A15_4 c15_4 ([0, 0, 1, 4, 12, 40] : List Int) 2 true]) (by kernel_rfl) (sv (EV.add rfl rfl) rfl (so rfl (op_lit (s := 1) (by_ := 8) (.int .i64) ([wrap64 (8 + t5_0)] : List Int) [[]] [] 3 [.tmp 17] rfl rfl rfl rfl rfl rfl rfl rfl rfl rfl rfl rfl rfl dq rfl fun A18_6 c18_6 => ?_)))
  revert H; refine ggI ?_; intro g7 H
  exact so rfl (op_app (k := (.int .i64)) (s := 1) (by_ := 8) 0 3 rfl rfl rfl rfl (ap1 g7 dq) (ap1n g7 dq) (.inl rfl) true (fun _ => .inl rfl) rfl rfl fun A19_8 c19_8 => (nmE (en := [.sl 0 (.int .u8) Al0_0 cl0_0 l0_0 0 false, .sl 2 (.int .i64) A15_4 c15_4 ([0, 0, 1, 4, 12, 40] : List Int) 2 true, .sl 2 (.int .i64) A18_6 c18_6 ([wrap64 (8 + t5_0)] : List Int) 3 true, .sl 2 (.int .i64) A19_8 c19_8 (x2_3 ++ ([wrap64 (8 + t5_0)] : List Int)) 1 true]) (by kernel_rfl) (sv (EV.as rfl) rfl (re (pr [0, 3, 4] [0] [0, 3] rfl rfl rfl rfl (ge (rg (sv (EV.mv rfl) rfl (sv (EV.sub rfl rfl) rfl (sv (EV.as rfl) rfl (re (wk [0, 3, 4] [0] [⟨1, 2, 1, true⟩, ⟨0, 0, 0, false⟩] (ih0 _ (by omega) _ ⟨x2_3 ++ ([wrap64 (8 + t5_0)] : List Int), A19_8, c19_8, wrap64 (x2_4 - 1), t5_1, t5_2, H, rfl⟩)))))))))))))
 ·
  refine gf rfl (dF c3) (gx rfl (gs (gs (rg (sv (EV.mv rfl) rfl ?_)))))
  revert H; refine bdI ?_; rintro ⟨t9_0, t9_1, t9_2⟩ A9 H
  refine so rfl (op_callM (spec_l1Once.ok b1000 l0_0 Al0_0 cl0_0 x2_1000_1 x2_1000_2 14 _ _ _ A9) [⟨1, 0, 0, false⟩] [0] [] 2 rfl rfl rfl rfl rfl rfl rfl rfl ?_)
  rintro _ _ _ ⟨rfl, rfl, rfl⟩
  refine nmE (en := [.sl 2 (.int .i64) Ax2_3 cx2_3 x2_3 1 true, .sl 0 (.int .u8) Al0_0 cl0_0 l0_0 0 false]) (by kernel_rfl) (re ?_)
  revert H; refine ifsI ?_ ?_ <;> intro c10 H
  ·
   subst c10
   refine gt rfl rfl (rg (sv (EV.mv rfl) rfl (sv (EV.mv rfl) rfl (so rfl (op_lit (s := 1) (by_ := 8) (.int .i64) ([7, 61] : List Int) [[], []] [] 2 [.const (.int .i64 7), .const (.int .i64 61)] rfl rfl rfl rfl rfl rfl rfl rfl rfl rfl rfl rfl rfl dq rfl fun A24_11 c24_11 => ?_)))))
   revert H; refine bdI ?_; rintro ⟨t12_0, t12_1, t12_2⟩ A12 H
   refine so rfl (op_callM (spec_l1PickInt.ok b1000 l0_0 Al0_0 cl0_0 t9_1 t9_2 ([7, 61] : List Int) A24_11 c24_11 _ _ _ A12) [⟨1, 0, 0, false⟩, ⟨2, 0, 0, false⟩] [0] [] 3 rfl rfl rfl rfl rfl rfl rfl rfl ?_)
   rintro _ _ _ ⟨rfl, rfl, rfl⟩
   refine nmE (en := [.sl 2 (.int .i64) Ax2_3 cx2_3 x2_3 1 true, .sl 0 (.int .u8) Al0_0 cl0_0 l0_0 0 false, .sl 2 (.int .i64) A24_11 c24_11 ([7, 61] : List Int) 2 true]) (by kernel_rfl) ?_
   revert H; refine ggI ?_; intro g13 H
   refine sv (EV.ix 0 rfl rfl rfl dq g13 rfl) rfl (so rfl (op_stf 0 0 0 0 t12_0 rfl rfl rfl rfl dq g13 rfl rfl rfl rfl dq rfl (rlT 3 (v' := .slice Ax2_3 (x2_3.set (0 : Int).toNat t12_0).length cx2_3) rfl (sle _ _ _ _ _) (rlT 22 (v' := .slice Ax2_3 (x2_3.set (0 : Int).toNat t12_0).length cx2_3) rfl (sle _ _ _ _ _) (nmE (en := [.sl 0 (.int .u8) Al0_0 cl0_0 l0_0 0 false, .sl 2 (.int .i64) A24_11 c24_11 ([7, 61] : List Int) 2 true, .sl 2 (.int .i64) Ax2_3 cx2_3 (x2_3.set (0 : Int).toNat t12_0) 1 true]) (by kernel_rfl) (re (pr [3] [0] [0, 2] rfl rfl rfl rfl (gs (rg (sv (EV.mv rfl) rfl (sv (EV.as rfl) rfl (re ?_))))))))))))
   cases H
   exact rt Try.func64 rfl (.tmp rfl .nil) rfl [0] [⟨1, 2, 1, true⟩] rfl rfl rfl rfl rfl ⟨_, _, rfl, rfl, rfl⟩
  ·
   obtain rfl := bF c10
   refine gf rfl rfl (gk (gs (rg (sv (EV.mv rfl) rfl (sv (EV.as rfl) rfl (re (pr [2] [0] [0, 1] rfl rfl rfl rfl ?_)))))))
   cases H
   exact rt Try.func64 rfl (.tmp rfl .nil) rfl [0] [⟨0, 2, 1, true⟩] rfl rfl rfl rfl rfl ⟨_, _, rfl, rfl, rfl⟩
end Go.Proofs.Ytajjeemkdjfilaa.K
namespace Go.Proofs.Ytajjeemkdjfilaa.K
open Go Go.RowKit
set_option linter.unusedVariables false
set_option linter.unusedSimpArgs false
def spec_DrawRunJoin.f (k : Nat) (l0 : List Int) : Option (Int × (List S70) × (List S70) × (List Int)) := (spec_l1New.f k l0).bind fun bt1 => ((spec_l7Kind.f l0 bt1.1 bt1.2).bind fun bt2 => ((spec_l2Bent.f k l0 bt2.2.1 bt2.2.2 9).bind fun bt3 => ((spec_l2Bent.f k l0 bt3.2.1 bt3.2.2 14).bind fun bt4 => ((spec_l14List.f k l0 bt4.2.1 bt4.2.2).bind fun bt5 => (some (bt2.1, bt3.1, bt4.1, bt5.1))))))
set_option maxHeartbeats 4000000 in
set_option maxRecDepth 100000 in
theorem spec_DrawRunJoin.ok (k : Nat) (l0 : List Int) (Al0 : Option Addr) (cl0 : Nat) (r0 : Int) (r1 : List S70) (r2 : List S70) (r3 : List Int) (H : spec_DrawRunJoin.f k l0 = some (r0, r1, r2, r3)) : Fn Try.prog 10 [.slice Al0 l0.length cl0] [] [.sl 0 (.int .u8) Al0 cl0 l0 0 false] (fun v bx en => ∃ A1 c1 A2 c2 A3 c3, v = .tuple #[.int .i64 r0, .slice A1 r1.length c1, .slice A2 r2.length c2, .slice A3 r3.length c3] ∧ bx = [] ∧ en = [.sl 2 k70 A1 c1 r1 1 true, .sl 2 k70 A2 c2 r2 2 true, .sl 2 (.int .i64) A3 c3 r3 3 true]) := by
 refine fn_ 23 Try.func10 rfl rfl rfl (fun base T w0 => ?_)
 rw [spec_DrawRunJoin.f] at H
 refine gs (rg (sv (EV.as rfl) rfl (sv (EV.as rfl) rfl (sv (EV.as rfl) rfl (sv (EV.as rfl) rfl (re (gs (rg (sv (EV.mv rfl) rfl ?_)))))))))
 revert H; refine bdI ?_; rintro ⟨t1_0, t1_1⟩ A1 H
 refine so rfl (op_callM (spec_l1New.ok k l0 Al0 cl0 _ _ A1) [⟨0, 0, 0, false⟩] [] [] 1 rfl rfl rfl rfl rfl rfl rfl rfl ?_)
 rintro _ _ _ ⟨b2001, rfl, rfl, rfl⟩
 refine nmE (en := [.sl 0 (.int .u8) Al0 cl0 l0 0 false]) (by kernel_rfl) (sv (EV.as rfl) rfl (re (pr [6] [0] [0] rfl rfl rfl rfl (gs (rg (sv (EV.mv rfl) rfl ?_))))))
 revert H; refine bdI ?_; rintro ⟨t2_0, t2_1, t2_2⟩ A2 H
 refine so rfl (op_callM (spec_l7Kind.ok b2001 l0 Al0 cl0 t1_0 t1_1 _ _ _ A2) [⟨0, 0, 0, false⟩] [0] [] 1 rfl rfl rfl rfl rfl rfl rfl rfl ?_)
 rintro _ _ _ ⟨rfl, rfl, rfl⟩
 refine nmE (en := [.sl 0 (.int .u8) Al0 cl0 l0 0 false]) (by kernel_rfl) (sv (EV.as rfl) rfl (re (gs (rg (sv (EV.mv rfl) rfl ?_)))))
 revert H; refine bdI ?_; rintro ⟨t3_0, t3_1, t3_2⟩ A3 H
 refine so rfl (op_callM (spec_l2Bent.ok k b2001 l0 Al0 cl0 t2_1 t2_2 9 _ _ _ A3) [⟨0, 0, 0, false⟩] [0] [] 1 rfl rfl rfl rfl rfl rfl rfl rfl ?_)
 rintro _ _ _ ⟨At3_0, ct3_0, rfl, rfl, rfl⟩
 refine nmE (en := [.sl 0 (.int .u8) Al0 cl0 l0 0 false, .sl 2 k70 At3_0 ct3_0 t3_0 2 true]) (by kernel_rfl) (sv (EV.as rfl) rfl (re (gs (rg (sv (EV.mv rfl) rfl ?_)))))
 revert H; refine bdI ?_; rintro ⟨t4_0, t4_1, t4_2⟩ A4 H
 refine so rfl (op_callM (spec_l2Bent.ok k b2001 l0 Al0 cl0 t3_1 t3_2 14 _ _ _ A4) [⟨0, 0, 0, false⟩] [0] [] 3 rfl rfl rfl rfl rfl rfl rfl rfl ?_)
 rintro _ _ _ ⟨At4_0, ct4_0, rfl, rfl, rfl⟩
 refine nmE (en := [.sl 0 (.int .u8) Al0 cl0 l0 0 false, .sl 2 k70 At3_0 ct3_0 t3_0 2 true, .sl 2 k70 At4_0 ct4_0 t4_0 4 true]) (by kernel_rfl) (sv (EV.as rfl) rfl (re (pr [6, 7, 8, 9] [0] [0, 1, 2] rfl rfl rfl rfl (gs (rg (sv (EV.mv rfl) rfl (sv (EV.mv rfl) rfl (sv (EV.mv rfl) rfl (sv (EV.mv rfl) rfl ?_)))))))))
 revert H; refine bdI ?_; rintro ⟨t5_0, t5_1, t5_2⟩ A5 H
 refine so rfl (op_callM (spec_l14List.ok k b2001 l0 Al0 cl0 t4_1 t4_2 _ _ _ A5) [⟨0, 0, 0, false⟩] [0] [] 5 rfl rfl rfl rfl rfl rfl rfl rfl ?_)
 rintro _ _ _ ⟨At5_0, ct5_0, rfl, rfl, rfl⟩
 refine nmE (en := [.sl 0 (.int .u8) Al0 cl0 l0 0 false, .sl 2 k70 At3_0 ct3_0 t3_0 2 true, .sl 2 k70 At4_0 ct4_0 t4_0 4 true, .sl 2 (.int .i64) At5_0 ct5_0 t5_0 6 true]) (by kernel_rfl) (sv (EV.as rfl) rfl (sv (EV.as rfl) rfl (sv (EV.as rfl) rfl (sv (EV.as rfl) rfl (re (pr [2, 3, 4, 5] [] [1, 2, 3] rfl rfl rfl rfl ?_))))))
 cases H
 exact rt Try.func10 rfl (.tmp rfl (.tmp rfl (.tmp rfl (.tmp rfl .nil)))) rfl [] [⟨0, 2, 1, true⟩, ⟨1, 2, 2, true⟩, ⟨2, 2, 3, true⟩] rfl rfl rfl rfl rfl ⟨_, _, _, _, _, _, rfl, rfl, rfl⟩
end Go.Proofs.Ytajjeemkdjfilaa.K
namespace Go.Proofs.Ytajjeemkdjfilaa.K
open Go Go.RowKit
set_option linter.unusedVariables false
set_option linter.unusedSimpArgs false
def impl_within.f (a0 : Int) (a1 : Int) (a2 : Int) : Option (Bool) := if a0 ≥ a1 then (some (decide (a0 ≤ a2))) else (some false)
set_option maxHeartbeats 4000000 in
set_option maxRecDepth 100000 in
theorem impl_within.ok (a0 : Int) (a1 : Int) (a2 : Int) (r0 : Bool) (H : impl_within.f a0 a1 a2 = some r0) : Fn Try.prog 101 [.int .i64 a0, .int .i64 a1, .int .i64 a2] [] [] (fun v bx en => v = .bool r0 ∧ bx = [] ∧ en = []) := by
 refine fn_ 15 Try.func101 rfl rfl rfl (fun base T w0 => ?_)
 rw [impl_within.f] at H
 refine gs (rg (sv (EV.as rfl) rfl (re (gs (rg (sv (EV.mv rfl) rfl (sv (EV.mv rfl) rfl (sv (EV.geq rfl rfl) rfl (sv (EV.mv rfl) rfl ?_)))))))))
 revert H; refine ifsI ?_ ?_ <;> intro c1 H
 ·
  refine ts 10 rfl (dT c1) (sv (EV.mv rfl) rfl (sv (EV.mv rfl) rfl (sv (EV.leq rfl rfl) rfl (sv (EV.pt rfl rfl rfl) rfl (sv (EV.as rfl) rfl (re (pr [6] [] [] rfl rfl rfl rfl ?_)))))))
  cases H
  exact rt Try.func101 rfl (.tmp rfl .nil) rfl [] [] rfl rfl rfl rfl rfl ⟨rfl, rfl, rfl⟩
 ·
  refine ts 10 rfl (dF c1) (sk rfl (sk rfl (sk rfl (sv (EV.pf rfl rfl rfl) rfl (sv (EV.as rfl) rfl (re (pr [6] [] [] rfl rfl rfl rfl ?_)))))))
  cases H
  exact rt Try.func101 rfl (.tmp rfl .nil) rfl [] [] rfl rfl rfl rfl rfl ⟨rfl, rfl, rfl⟩
end Go.Proofs.Ytajjeemkdjfilaa.K
namespace Go.Proofs.Ytajjeemkdjfilaa.K
open Go Go.RowKit
set_option linter.unusedVariables false
set_option linter.unusedSimpArgs false
def impl_IsValidRow.f (a0_0 : Int) (a0_1 : Int) (a0_2 : Int) : Option (Bool) := (impl_within.f a0_0 0 9).bind fun t1 => (if t1 = true then ((impl_within.f a0_1 0 99).bind fun t3 => (if t3 = true then ((impl_within.f a0_2 0 3).bind fun t5 => (some t5)) else (some false))) else (some false))
set_option maxHeartbeats 4000000 in
set_option maxRecDepth 100000 in
theorem impl_IsValidRow.ok (a0_0 : Int) (a0_1 : Int) (a0_2 : Int) (r0 : Bool) (H : impl_IsValidRow.f a0_0 a0_1 a0_2 = some r0) : Fn Try.prog 116 [.agg #[.int .i64 a0_0, .int .i64 a0_1, .int .i64 a0_2]] [] [] (fun v bx en => v = .bool r0 ∧ bx = [] ∧ en = []) := by
 refine fn_ 16 Try.func116 rfl rfl rfl (fun base T w0 => ?_)
 rw [impl_IsValidRow.f] at H
 refine gs (rg (so rfl (op_box (cs := [.int .i64 a0_0, .int .i64 a0_1, .int .i64 a0_2]) rfl rfl rfl fun b1 => (sv (EV.as rfl) rfl (re (gs (rg (sv (EV.fa 0 rfl) rfl (sv (EV.ld 0 none rfl rfl rfl) rfl ?_)))))))))
 revert H; refine bdI ?_; rintro t1 A1 H
 refine so rfl (op_call (impl_within.ok a0_0 0 9 _ A1) [] 1 rfl rfl rfl rfl rfl ?_)
 rintro _ _ _ ⟨rfl, rfl, rfl⟩
 refine sv (EV.mv rfl) rfl ?_
 revert H; refine ifsI ?_ ?_ <;> intro c2 H
 ·
  subst c2
  refine ts 6 rfl rfl (sv (EV.fa 1 rfl) rfl (sv (EV.ld 0 none rfl rfl rfl) rfl ?_))
  revert H; refine bdI ?_; rintro t3 A3 H
  refine so rfl (op_call (impl_within.ok a0_1 0 99 _ A3) [] 1 rfl rfl rfl rfl rfl ?_)
  rintro _ _ _ ⟨rfl, rfl, rfl⟩
  refine sv (EV.pt rfl rfl rfl) rfl (sv (EV.mv rfl) rfl ?_)
  revert H; refine ifsI ?_ ?_ <;> intro c4 H
  ·
   subst c4
   refine ts 11 rfl rfl (sv (EV.fa 2 rfl) rfl (sv (EV.ld 0 none rfl rfl rfl) rfl ?_))
   revert H; refine bdI ?_; rintro t5 A5 H
   refine so rfl (op_call (impl_within.ok a0_2 0 3 _ A5) [] 1 rfl rfl rfl rfl rfl ?_)
   rintro _ _ _ ⟨rfl, rfl, rfl⟩
   refine sv (EV.pt rfl rfl rfl) rfl (sv (EV.as rfl) rfl (re (pr [2] [] [] rfl rfl rfl rfl ?_)))
   cases H
   exact rt Try.func116 rfl (.tmp rfl .nil) rfl [] [] rfl rfl rfl rfl rfl ⟨rfl, rfl, rfl⟩
  ·
   obtain rfl := bF c4
   refine ts 11 rfl rfl (sk rfl (sk rfl (sk rfl (sv (EV.pf rfl rfl rfl) rfl (sv (EV.as rfl) rfl (re (pr [2] [] [] rfl rfl rfl rfl ?_)))))))
   cases H
   exact rt Try.func116 rfl (.tmp rfl .nil) rfl [] [] rfl rfl rfl rfl rfl ⟨rfl, rfl, rfl⟩
 ·
  obtain rfl := bF c2
  refine ts 6 rfl rfl (sk rfl (sk rfl (sk rfl (sv (EV.pf rfl rfl rfl) rfl (sv (EV.mv rfl) rfl (sk rfl (sk rfl (sk rfl (sv (EV.pf rfl rfl rfl) rfl (sv (EV.as rfl) rfl (re (pr [2] [] [] rfl rfl rfl rfl ?_))))))))))))
  cases H
  exact rt Try.func116 rfl (.tmp rfl .nil) rfl [] [] rfl rfl rfl rfl rfl ⟨rfl, rfl, rfl⟩
end Go.Proofs.Ytajjeemkdjfilaa.K
namespace Go.Proofs.Ytajjeemkdjfilaa.K
open Go Go.RowKit
set_option linter.unusedVariables false
set_option linter.unusedSimpArgs false
def impl_allValid.l0 : Nat → Int → Int → (List S70) → Option (Bool)
 | 0, _, _, _ => none
 | k + 1, x2_6, x2_7, l0 => if x2_7 < x2_6 then (if 0 ≤ x2_7 then (if x2_7 < (l0.length : Int) then ((impl_IsValidRow.f ((rd_T70 l0 x2_7).f0) ((rd_T70 l0 x2_7).f1) ((rd_T70 l0 x2_7).f2)).bind fun t4 => (if t4 = true then (impl_allValid.l0 k x2_6 (wrap64 (x2_7 + 1)) l0) else (some false))) else none) else none) else (some true)
def impl_allValid.f (k : Nat) (l0 : List S70) : Option (Bool) := impl_allValid.l0 k (l0.length : Int) 0 l0
set_option maxHeartbeats 4000000 in
set_option maxRecDepth 100000 in
theorem impl_allValid.ok (k : Nat) (l0 : List S70) (Al0 : Option Addr) (cl0 : Nat) (r0 : Bool) (H : impl_allValid.f k l0 = some r0) : Fn Try.prog 112 [.slice Al0 l0.length cl0] [] [.sl 0 k70 Al0 cl0 l0 0 false] (fun v bx en => v = .bool r0 ∧ bx = [] ∧ en = []) := by
 refine fn_ 15 Try.func112 rfl rfl rfl (fun base T w0 => ?_)
 rw [impl_allValid.f] at H
 refine gs (rg (sv (EV.as rfl) rfl (re (gs (gs (rg (sv (EV.mv rfl) rfl (sv (EV.ln rfl) rfl (sv (EV.mv rfl) rfl (re (gb ?_)))))))))))
 refine lo (fun kk S => ∃ (x2_6 : Int) (x2_7 : Int), impl_allValid.l0 kk x2_6 x2_7 l0 = some r0 ∧ S = ⟨[(5, .slice Al0 l0.length cl0), (6, .int .i64 x2_6), (7, .int .i64 x2_7)], [], [.sl 0 k70 Al0 cl0 l0 0 false]⟩) (fun S hS => ?_) (fun n0 ih0 S hS => ?_) ⟨(l0.length : Int), 0, H, rfl⟩ (fun h => wk [5, 6, 7] [] [⟨0, 0, 0, false⟩] h)
 · clear H; obtain ⟨_, _, H, _⟩ := hS; rw [impl_allValid.l0] at H; cases H
 clear H
 obtain ⟨x2_6, x2_7, H, rfl⟩ := hS
 rw [impl_allValid.l0] at H
 refine gs (rg (sv (EV.lss rfl rfl) rfl (re (gs ?_))))
 revert H; refine ifsI ?_ ?_ <;> intro c1 H
 ·
  refine gt rfl (dT c1) (gk (gs (gb (gs (rg ?_)))))
  revert H; refine ggI ?_; intro g2 H
  revert H; refine ggI ?_; intro g3 H
  refine sv (EV.ix 0 rfl rfl rfl g2 g3 rfl) rfl (sv (EV.le (v := .agg #[.int .i64 ((rd_T70 l0 x2_7).f0), .int .i64 ((rd_T70 l0 x2_7).f1), .int .i64 ((rd_T70 l0 x2_7).f2)]) x2_7 0 (some 3) 0 z70 rfl rfl rfl g2 g3 rfl rfl rfl) rfl (so rfl (op_alloc (cs := [.int .i64 0, .int .i64 0, .int .i64 0]) (by kernel_rfl) rfl fun b4 => (so rfl (op_st (cs' := [.int .i64 ((rd_T70 l0 x2_7).f0), .int .i64 ((rd_T70 l0 x2_7).f1), .int .i64 ((rd_T70 l0 x2_7).f2)]) 0 rfl rfl rfl rfl rfl rfl (re (gs (rg (sv (EV.ld (v := .agg #[.int .i64 ((rd_T70 l0 x2_7).f0), .int .i64 ((rd_T70 l0 x2_7).f1), .int .i64 ((rd_T70 l0 x2_7).f2)]) 0 (some 3) rfl rfl rfl) rfl ?_)))))))))
  revert H; refine bdI ?_; rintro t4 A4 H
  refine so rfl (op_call (impl_IsValidRow.ok ((rd_T70 l0 x2_7).f0) ((rd_T70 l0 x2_7).f1) ((rd_T70 l0 x2_7).f2) _ A4) [] 1 rfl rfl rfl rfl rfl ?_)
  rintro _ _ _ ⟨rfl, rfl, rfl⟩
  refine sv (EV.nt rfl) rfl (re (pr [5, 6, 7, 13] [] [0] rfl rfl rfl rfl ?_))
  revert H; refine ifsI ?_ ?_ <;> intro c5 H
  ·
   subst c5
   exact gf rfl rfl (gk (ge (rg (sv (EV.add rfl rfl) rfl (sv (EV.mv rfl) rfl (re (wk [5, 6, 7] [] [⟨0, 0, 0, false⟩] (ih0 _ (by omega) _ ⟨x2_6, wrap64 (x2_7 + 1), H, rfl⟩))))))))
  ·
   obtain rfl := bF c5
   refine gt rfl rfl (gs (rg (sv (EV.as rfl) rfl (re ?_))))
   cases H
   exact rt Try.func112 rfl (.tmp rfl .nil) rfl [] [] rfl rfl rfl rfl rfl ⟨rfl, rfl, rfl⟩
 ·
  refine gf rfl (dF c1) (gx rfl (gs (rg (sv (EV.as rfl) rfl (re ?_)))))
  cases H
  exact rt Try.func112 rfl (.tmp rfl .nil) rfl [] [] rfl rfl rfl rfl rfl ⟨rfl, rfl, rfl⟩
end Go.Proofs.Ytajjeemkdjfilaa.K
namespace Go.Proofs.Ytajjeemkdjfilaa.K
open Go Go.RowKit
set_option linter.unusedVariables false
set_option linter.unusedSimpArgs false
def impl_AreValidRows.f (k : Nat) (l0 : List S70) : Option (Bool) := if (l0.length : Int) ≤ 24 then ((impl_allValid.f k l0).bind fun t2 => (some t2)) else (some false)
set_option maxHeartbeats 4000000 in
set_option maxRecDepth 100000 in
theorem impl_AreValidRows.ok (k : Nat) (l0 : List S70) (Al0 : Option Addr) (cl0 : Nat) (r0 : Bool) (H : impl_AreValidRows.f k l0 = some r0) : Fn Try.prog 100 [.slice Al0 l0.length cl0] [] [.sl 0 k70 Al0 cl0 l0 0 false] (fun v bx en => v = .bool r0 ∧ bx = [] ∧ en = []) := by
 refine fn_ 10 Try.func100 rfl rfl rfl (fun base T w0 => ?_)
 rw [impl_AreValidRows.f] at H
 refine gs (rg (sv (EV.as rfl) rfl (re (gs (rg (sv (EV.mv rfl) rfl (sv (EV.ln rfl) rfl (sv (EV.leq rfl rfl) rfl (sv (EV.mv rfl) rfl ?_)))))))))
 revert H; refine ifsI ?_ ?_ <;> intro c1 H
 ·
  refine ts 6 rfl (dT c1) (sv (EV.mv rfl) rfl ?_)
  revert H; refine bdI ?_; rintro t2 A2 H
  refine so rfl (op_call (impl_allValid.ok k l0 Al0 cl0 _ A2) [⟨0, 0, 0, false⟩] 1 rfl rfl rfl rfl rfl ?_)
  rintro _ _ _ ⟨rfl, rfl, rfl⟩
  refine sv (EV.pt rfl rfl rfl) rfl (sv (EV.as rfl) rfl (re (pr [2] [] [] rfl rfl rfl rfl ?_)))
  cases H
  exact rt Try.func100 rfl (.tmp rfl .nil) rfl [] [] rfl rfl rfl rfl rfl ⟨rfl, rfl, rfl⟩
 ·
  refine ts 6 rfl (dF c1) (sk rfl (sk rfl (sv (EV.pf rfl rfl rfl) rfl (sv (EV.as rfl) rfl (re (pr [2] [] [] rfl rfl rfl rfl ?_))))))
  cases H
  exact rt Try.func100 rfl (.tmp rfl .nil) rfl [] [] rfl rfl rfl rfl rfl ⟨rfl, rfl, rfl⟩
end Go.Proofs.Ytajjeemkdjfilaa.K
namespace Go.Proofs.Ytajjeemkdjfilaa.K
open Go Go.RowKit
set_option linter.unusedVariables false
set_option linter.unusedSimpArgs false
def impl_clone.f (l0 : List S70) : Option ((List S70)) := if l0.length ≤ 5864062014805 then (some l0) else none
set_option maxHeartbeats 4000000 in
set_option maxRecDepth 100000 in
theorem impl_clone.ok (l0 : List S70) (Al0 : Option Addr) (cl0 : Nat) (r0 : List S70) (H : impl_clone.f l0 = some r0) : Fn Try.prog 85 [.slice Al0 l0.length cl0] [] [.sl 0 k70 Al0 cl0 l0 0 false] (fun v bx en => ∃ A0 c0, v = .slice A0 r0.length c0 ∧ bx = [] ∧ en = [.sl 2 k70 A0 c0 r0 1 true]) := by
 refine fn_ 5 Try.func85 rfl rfl rfl (fun base T w0 => ?_)
 rw [impl_clone.f] at H
 refine gs (rg (sv (EV.as rfl) rfl (re (gs (rg (sv (EV.mv rfl) rfl (nil_ k70 1 dq ?_)))))))
 revert H; refine ggI ?_; intro g1 H
 refine so rfl (op_app (k := k70) (s := 3) (by_ := 24) 1 0 rfl rfl rfl rfl (ap0 g1 dq) (ap0n g1 dq) (.inl rfl) true (fun _ => .inl rfl) rfl rfl fun A4_2 c4_2 => (nmE (en := [.sl 0 k70 Al0 cl0 l0 0 false, .sl 2 k70 A4_2 c4_2 l0 1 true]) (by kernel_rfl) (sv (EV.as rfl) rfl (re ?_))))
 cases H
 exact rt Try.func85 rfl (.tmp rfl .nil) rfl [] [⟨1, 2, 1, true⟩] rfl rfl rfl rfl rfl ⟨_, _, rfl, rfl, rfl⟩
end Go.Proofs.Ytajjeemkdjfilaa.K
namespace Go.Proofs.Ytajjeemkdjfilaa.K
open Go Go.RowKit
set_option linter.unusedVariables false
set_option linter.unusedSimpArgs false
def impl_IsValidJoinKind.f (a0 : Int) : Option (Bool) := (impl_within.f a0 1 4).bind fun t1 => (some t1)
set_option maxHeartbeats 4000000 in
set_option maxRecDepth 100000 in
theorem impl_IsValidJoinKind.ok (a0 : Int) (r0 : Bool) (H : impl_IsValidJoinKind.f a0 = some r0) : Fn Try.prog 99 [.int .i64 a0] [] [] (fun v bx en => v = .bool r0 ∧ bx = [] ∧ en = []) := by
 refine fn_ 5 Try.func99 rfl rfl rfl (fun base T w0 => ?_)
 rw [impl_IsValidJoinKind.f] at H
 refine gs (rg (sv (EV.as rfl) rfl (re (gs (rg (sv (EV.mv rfl) rfl ?_))))))
 revert H; refine bdI ?_; rintro t1 A1 H
 refine so rfl (op_call (impl_within.ok a0 1 4 _ A1) [] 1 rfl rfl rfl rfl rfl ?_)
 rintro _ _ _ ⟨rfl, rfl, rfl⟩
 refine sv (EV.as rfl) rfl (re ?_)
 cases H
 exact rt Try.func99 rfl (.tmp rfl .nil) rfl [] [] rfl rfl rfl rfl rfl ⟨rfl, rfl, rfl⟩
end Go.Proofs.Ytajjeemkdjfilaa.K
namespace Go.Proofs.Ytajjeemkdjfilaa.K
open Go Go.RowKit
set_option linter.unusedVariables false
set_option linter.unusedSimpArgs false
def impl_NewTask.f (k : Nat) (a0 : Int) (l1 : List S70) (l2 : List S70) : Option (Int × (List S70) × (List S70) × (List Bool) × Int × Bool) := (impl_IsValidJoinKind.f a0).bind fun t1 => (if t1 = true then ((impl_AreValidRows.f k l1).bind fun t3 => (if t3 = true then ((impl_AreValidRows.f k l2).bind fun t5 => (if t5 = true then (if 0 ≤ (l1.length : Int) then (if (l1.length : Int).toNat ≤ 140737488355328 then ((impl_clone.f l1).bind fun t9 => ((impl_clone.f l2).bind fun t10 => (some (a0, t9, t10, List.replicate (l1.length : Int).toNat false, 0, true)))) else none) else none) else (some (0, [], [], [], 0, false)))) else (some (0, [], [], [], 0, false)))) else (some (0, [], [], [], 0, false)))
set_option maxHeartbeats 4000000 in
set_option maxRecDepth 100000 in
theorem impl_NewTask.ok (k : Nat) (a0 : Int) (l1 : List S70) (Al1 : Option Addr) (cl1 : Nat) (l2 : List S70) (Al2 : Option Addr) (cl2 : Nat) (r0 : Int) (r1 : List S70) (r2 : List S70) (r3 : List Bool) (r4 : Int) (r5 : Bool) (H : impl_NewTask.f k a0 l1 l2 = some (r0, r1, r2, r3, r4, r5)) : Fn Try.prog 88 [.int .i64 a0, .slice Al1 l1.length cl1, .slice Al2 l2.length cl2] [] [.sl 0 k70 Al1 cl1 l1 0 false, .sl 0 k70 Al2 cl2 l2 0 false] (fun v bx en => ∃ A1 c1 A2 c2 A3 c3, v = .tuple #[.agg #[.int .i64 r0, .slice A1 r1.length c1, .slice A2 r2.length c2, .slice A3 r3.length c3, .int .i64 r4], .bool r5] ∧ bx = [] ∧ en = [.sl 2 k70 A1 c1 r1 1 true, .sl 2 k70 A2 c2 r2 2 true, .sl 2 .bool A3 c3 r3 3 true]) := by
 refine fn_ 31 Try.func88 rfl rfl rfl (fun base T w0 => ?_)
 rw [impl_NewTask.f] at H
 refine gs (rg (so rfl (op_alloc (cs := [.int .i64 0, .slice none 0 0, .slice none 0 0, .slice none 0 0, .int .i64 0]) (by kernel_rfl) rfl fun b6 => (sv (EV.as rfl) rfl (re (gs (gs (rg (sv (EV.mv rfl) rfl ?_)))))))))
 revert H; refine bdI ?_; rintro t1 A1 H
 refine so rfl (op_call (impl_IsValidJoinKind.ok a0 _ A1) [] 1 rfl rfl rfl rfl rfl ?_)
 rintro _ _ _ ⟨rfl, rfl, rfl⟩
 refine sv (EV.nt rfl) rfl (sv (EV.mv rfl) rfl ?_)
 revert H; refine ifsI ?_ ?_ <;> intro c2 H
 ·
  subst c2
  refine ts 11 rfl rfl (sv (EV.mv rfl) rfl ?_)
  revert H; refine bdI ?_; rintro t3 A3 H
  refine so rfl (op_call (impl_AreValidRows.ok k l1 Al1 cl1 _ A3) [⟨0, 0, 0, false⟩] 1 rfl rfl rfl rfl rfl ?_)
  rintro _ _ _ ⟨rfl, rfl, rfl⟩
  refine sv (EV.nt rfl) rfl (sv (EV.pf rfl rfl rfl) rfl (sv (EV.mv rfl) rfl ?_))
  revert H; refine ifsI ?_ ?_ <;> intro c4 H
  ·
   subst c4
   refine ts 16 rfl rfl (sv (EV.mv rfl) rfl ?_)
   revert H; refine bdI ?_; rintro t5 A5 H
   refine so rfl (op_call (impl_AreValidRows.ok k l2 Al2 cl2 _ A5) [⟨1, 0, 0, false⟩] 1 rfl rfl rfl rfl rfl ?_)
   rintro _ _ _ ⟨rfl, rfl, rfl⟩
   refine sv (EV.nt rfl) rfl (sv (EV.pf rfl rfl rfl) rfl (re (pr [0, 1, 2, 6, 20] [0] [0, 1] rfl rfl rfl rfl ?_)))
   revert H; refine ifsI ?_ ?_ <;> intro c6 H
   ·
    subst c6
    refine gf rfl rfl (gk (gs ?_))
    revert H; refine ggI ?_; intro g7 H
    revert H; refine ggI ?_; intro g8 H
    refine dr [0] [0, 1] [9, 10] 11 rfl rfl rfl rfl (xv 0 [0] [0, 1] rfl (EV.mv rfl) rfl rfl rfl rfl (xv 1 [0] [0, 1] rfl (EV.mv rfl) rfl rfl rfl rfl (xv 3 [0] [0, 1] rfl (EV.mv rfl) rfl rfl rfl rfl (xv 5 [0] [0, 1] rfl (EV.mv rfl) rfl rfl rfl rfl (xv 6 [0] [0, 1] rfl (EV.ln rfl) rfl rfl rfl rfl ?_)))))
    refine one2 2 7 rfl rfl rfl rfl ?_ ?_
    ·
     revert H; refine bdI ?_; rintro t9 A9 H
     refine op_call (impl_clone.ok l1 Al1 cl1 _ A9) [⟨0, 0, 0, false⟩] 1 rfl rfl rfl rfl rfl ?_
     rintro _ _ _ ⟨At9, ct9, rfl, rfl, rfl⟩
     refine xs [0] [0, 1] rfl rfl rfl ?_
     refine one2 4 7 rfl rfl rfl rfl ?_ ?_
     ·
      revert H; refine bdI ?_; rintro t10 A10 H
      refine op_call (impl_clone.ok l2 Al2 cl2 _ A10) [⟨1, 0, 0, false⟩] 3 rfl rfl rfl rfl rfl ?_
      rintro _ _ _ ⟨At10, ct10, rfl, rfl, rfl⟩
      refine xs [0] [0, 1] rfl rfl rfl (one1 7 rfl rfl (op_mk (s := 1) (by_ := 1) .bool false 5 rfl rfl g7 (mk1 g8 dq) (mk2 g8 dq) mk42 rfl rfl dq rfl fun A29_11 c29_11 => (xs [0] [0, 1] rfl rfl rfl (xv 8 [0] [0, 1] rfl (EV.bd (v := .agg #[.int .i64 a0, .slice At9 t9.length ct9, .slice At10 t10.length ct10, .slice A29_11 (List.replicate (l1.length : Int).toNat false).length c29_11, .int .i64 0]) rfl (by kernel_rfl)) rfl rfl rfl rfl (one1 9 rfl rfl (op_st (cs' := [.int .i64 a0, .slice At9 t9.length ct9, .slice At10 t10.length ct10, .slice A29_11 (List.replicate (l1.length : Int).toNat false).length c29_11, .int .i64 0]) 0 rfl rfl rfl rfl rfl rfl (xn rfl (one1 10 rfl rfl (ov (EV.as rfl) rfl (xn rfl (xd (pr [6, 7] [0] [2, 3, 4] rfl rfl rfl rfl ?_))))))))))))
      cases H
      exact rt Try.func88 rfl (.cell 0 (some 5) rfl rfl rfl (.tmp rfl .nil)) rfl [] [⟨0, 2, 1, true⟩, ⟨1, 2, 2, true⟩, ⟨2, 2, 3, true⟩] rfl rfl rfl rfl rfl ⟨_, _, _, _, _, _, rfl, rfl, rfl⟩
     ·
      refine op_mk (s := 1) (by_ := 1) .bool false 3 rfl rfl g7 (mk1 g8 dq) (mk2 g8 dq) mk42 rfl rfl dq rfl fun A29_12 c29_12 => (xs [0] [0, 1] rfl rfl rfl (one1 4 rfl rfl ?_))
      revert H; refine bdI ?_; rintro t13 A13 H
      refine op_call (impl_clone.ok l2 Al2 cl2 _ A13) [⟨1, 0, 0, false⟩] 4 rfl rfl rfl rfl rfl ?_
      rintro _ _ _ ⟨At13, ct13, rfl, rfl, rfl⟩
      refine xs [0] [0, 1] rfl rfl rfl (xv 8 [0] [0, 1] rfl (EV.bd (v := .agg #[.int .i64 a0, .slice At9 t9.length ct9, .slice At13 t13.length ct13, .slice A29_12 (List.replicate (l1.length : Int).toNat false).length c29_12, .int .i64 0]) rfl (by kernel_rfl)) rfl rfl rfl rfl (one1 9 rfl rfl (op_st (cs' := [.int .i64 a0, .slice At9 t9.length ct9, .slice At13 t13.length ct13, .slice A29_12 (List.replicate (l1.length : Int).toNat false).length c29_12, .int .i64 0]) 0 rfl rfl rfl rfl rfl rfl (xn rfl (one1 10 rfl rfl (ov (EV.as rfl) rfl (xn rfl (xd (pr [6, 7] [0] [2, 3, 4] rfl rfl rfl rfl ?_)))))))))
      cases H
      exact rt Try.func88 rfl (.cell 0 (some 5) rfl rfl rfl (.tmp rfl .nil)) rfl [] [⟨0, 2, 1, true⟩, ⟨2, 2, 2, true⟩, ⟨1, 2, 3, true⟩] rfl rfl rfl rfl rfl ⟨_, _, _, _, _, _, rfl, rfl, rfl⟩
    ·
     refine op_mk (s := 1) (by_ := 1) .bool false 1 rfl rfl g7 (mk1 g8 dq) (mk2 g8 dq) mk42 rfl rfl dq rfl fun A29_14 c29_14 => (xs [0] [0, 1] rfl rfl rfl (one1 2 rfl rfl ?_))
     revert H; refine bdI ?_; rintro t15 A15 H
     refine op_call (impl_clone.ok l1 Al1 cl1 _ A15) [⟨0, 0, 0, false⟩] 2 rfl rfl rfl rfl rfl ?_
     rintro _ _ _ ⟨At15, ct15, rfl, rfl, rfl⟩
     refine xs [0] [0, 1] rfl rfl rfl (one1 4 rfl rfl ?_)
     revert H; refine bdI ?_; rintro t16 A16 H
     refine op_call (impl_clone.ok l2 Al2 cl2 _ A16) [⟨1, 0, 0, false⟩] 4 rfl rfl rfl rfl rfl ?_
     rintro _ _ _ ⟨At16, ct16, rfl, rfl, rfl⟩
     refine xs [0] [0, 1] rfl rfl rfl (xv 8 [0] [0, 1] rfl (EV.bd (v := .agg #[.int .i64 a0, .slice At15 t15.length ct15, .slice At16 t16.length ct16, .slice A29_14 (List.replicate (l1.length : Int).toNat false).length c29_14, .int .i64 0]) rfl (by kernel_rfl)) rfl rfl rfl rfl (one1 9 rfl rfl (op_st (cs' := [.int .i64 a0, .slice At15 t15.length ct15, .slice At16 t16.length ct16, .slice A29_14 (List.replicate (l1.length : Int).toNat false).length c29_14, .int .i64 0]) 0 rfl rfl rfl rfl rfl rfl (xn rfl (one1 10 rfl rfl (ov (EV.as rfl) rfl (xn rfl (xd (pr [6, 7] [0] [2, 3, 4] rfl rfl rfl rfl ?_)))))))))
     cases H
     exact rt Try.func88 rfl (.cell 0 (some 5) rfl rfl rfl (.tmp rfl .nil)) rfl [] [⟨1, 2, 1, true⟩, ⟨2, 2, 2, true⟩, ⟨0, 2, 3, true⟩] rfl rfl rfl rfl rfl ⟨_, _, _, _, _, _, rfl, rfl, rfl⟩
   ·
    obtain rfl := bF c6
    refine gt rfl rfl (gs (rg (sv (EV.bd (v := .agg #[.int .i64 0, .slice none 0 0, .slice none 0 0, .slice none 0 0, .int .i64 0]) rfl (by kernel_rfl)) rfl (so rfl (op_st (cs' := [.int .i64 0, .slice none 0 0, .slice none 0 0, .slice none 0 0, .int .i64 0]) 0 rfl rfl rfl rfl rfl rfl (sv (EV.as rfl) rfl (re (nil_ k70 1 dq (nil_ k70 2 dq (nil_ .bool 3 dq ?_))))))))))
    cases H
    exact rt Try.func88 rfl (.cell 0 (some 5) rfl rfl rfl (.tmp rfl .nil)) rfl [] [⟨2, 2, 1, true⟩, ⟨3, 2, 2, true⟩, ⟨4, 2, 3, true⟩] rfl rfl rfl rfl rfl ⟨_, _, _, _, _, _, rfl, rfl, rfl⟩
  ·
   obtain rfl := bF c4
   refine ts 16 rfl rfl (sk rfl (sk rfl (sk rfl (sv (EV.pt rfl rfl rfl) rfl (re (pr [0, 1, 2, 6, 20] [0] [0, 1] rfl rfl rfl rfl (gt rfl rfl (gs (rg (sv (EV.bd (v := .agg #[.int .i64 0, .slice none 0 0, .slice none 0 0, .slice none 0 0, .int .i64 0]) rfl (by kernel_rfl)) rfl (so rfl (op_st (cs' := [.int .i64 0, .slice none 0 0, .slice none 0 0, .slice none 0 0, .int .i64 0]) 0 rfl rfl rfl rfl rfl rfl (sv (EV.as rfl) rfl (re (nil_ k70 1 dq (nil_ k70 2 dq (nil_ .bool 3 dq ?_)))))))))))))))))
   cases H
   exact rt Try.func88 rfl (.cell 0 (some 5) rfl rfl rfl (.tmp rfl .nil)) rfl [] [⟨2, 2, 1, true⟩, ⟨3, 2, 2, true⟩, ⟨4, 2, 3, true⟩] rfl rfl rfl rfl rfl ⟨_, _, _, _, _, _, rfl, rfl, rfl⟩
 ·
  obtain rfl := bF c2
  refine ts 11 rfl rfl (sk rfl (sk rfl (sk rfl (sv (EV.pt rfl rfl rfl) rfl (sv (EV.mv rfl) rfl (sk rfl (sk rfl (sk rfl (sv (EV.pt rfl rfl rfl) rfl (re (pr [0, 1, 2, 6, 20] [0] [0, 1] rfl rfl rfl rfl (gt rfl rfl (gs (rg (sv (EV.bd (v := .agg #[.int .i64 0, .slice none 0 0, .slice none 0 0, .slice none 0 0, .int .i64 0]) rfl (by kernel_rfl)) rfl (so rfl (op_st (cs' := [.int .i64 0, .slice none 0 0, .slice none 0 0, .slice none 0 0, .int .i64 0]) 0 rfl rfl rfl rfl rfl rfl (sv (EV.as rfl) rfl (re (nil_ k70 1 dq (nil_ k70 2 dq (nil_ .bool 3 dq ?_))))))))))))))))))))))
  cases H
  exact rt Try.func88 rfl (.cell 0 (some 5) rfl rfl rfl (.tmp rfl .nil)) rfl [] [⟨2, 2, 1, true⟩, ⟨3, 2, 2, true⟩, ⟨4, 2, 3, true⟩] rfl rfl rfl rfl rfl ⟨_, _, _, _, _, _, rfl, rfl, rfl⟩
end Go.Proofs.Ytajjeemkdjfilaa.K
namespace Go.Proofs.Ytajjeemkdjfilaa.K
open Go Go.RowKit
set_option linter.unusedVariables false
set_option linter.unusedSimpArgs false
def impl_NewJoiner.f (k : Nat) (a0 : Int) (l1 : List S70) (l2 : List S70) : Option ((List S44) × Int × Int × Bool) := (impl_NewTask.f k a0 l1 l2).bind fun bt1 => (if bt1.2.2.2.2.2 = true then (some (([(⟨bt1.1, bt1.2.1, bt1.2.2.1, bt1.2.2.2.1, bt1.2.2.2.2.1⟩ : S44)] : List S44), 0, 0, true)) else (some ([], 0, 0, false)))
set_option maxHeartbeats 4000000 in
set_option maxRecDepth 100000 in
theorem impl_NewJoiner.ok (k : Nat) (a0 : Int) (l1 : List S70) (Al1 : Option Addr) (cl1 : Nat) (l2 : List S70) (Al2 : Option Addr) (cl2 : Nat) (r0 : List S44) (r1 : Int) (r2 : Int) (r3 : Bool) (H : impl_NewJoiner.f k a0 l1 l2 = some (r0, r1, r2, r3)) : Fn Try.prog 65 [.int .i64 a0, .slice Al1 l1.length cl1, .slice Al2 l2.length cl2] [] [.sl 0 k70 Al1 cl1 l1 0 false, .sl 0 k70 Al2 cl2 l2 0 false] (fun v bx en => ∃ A0 c0, v = .tuple #[.agg #[.slice A0 r0.length c0, .int .i64 r1, .int .i64 r2], .bool r3] ∧ bx = [] ∧ en = [.sl 2 k44 A0 c0 r0 1 true]) := by
 refine fn_ 23 Try.func65 rfl rfl rfl (fun base T w0 => ?_)
 rw [impl_NewJoiner.f] at H
 refine gs (rg (so rfl (op_alloc (cs := [.slice none 0 0, .int .i64 0, .int .i64 0]) (by kernel_rfl) rfl fun b6 => (sv (EV.as rfl) rfl (re (gs (rg (sv (EV.mv rfl) rfl (sv (EV.mv rfl) rfl (sv (EV.mv rfl) rfl ?_))))))))))
 revert H; refine bdI ?_; rintro ⟨t1_0, t1_1, t1_2, t1_3, t1_4, t1_5⟩ A1 H
 refine so rfl (op_call (impl_NewTask.ok k a0 l1 Al1 cl1 l2 Al2 cl2 _ _ _ _ _ _ A1) [⟨0, 0, 0, false⟩, ⟨1, 0, 0, false⟩] 1 rfl rfl rfl rfl rfl ?_)
 rintro _ _ _ ⟨At1_1, ct1_1, At1_2, ct1_2, At1_3, ct1_3, rfl, rfl, rfl⟩
 refine sv (EV.mv rfl) rfl (sv (EV.ex rfl rfl) rfl (sv (EV.ex rfl rfl) rfl (so rfl (op_alloc (cs := [.int .i64 0, .slice none 0 0, .slice none 0 0, .slice none 0 0, .int .i64 0]) (by kernel_rfl) rfl fun b8 => (so rfl (op_st (cs' := [.int .i64 t1_0, .slice At1_1 t1_1.length ct1_1, .slice At1_2 t1_2.length ct1_2, .slice At1_3 t1_3.length ct1_3, .int .i64 t1_4]) 1 rfl rfl rfl rfl rfl rfl (sv (EV.as rfl) rfl (re (pr [6, 8, 9] [0, 1] [2, 3, 4] rfl rfl rfl rfl (gs (gs (rg (sv (EV.mv rfl) rfl (sv (EV.nt rfl) rfl (re ?_)))))))))))))))
 revert H; refine ifsI ?_ ?_ <;> intro c2 H
 ·
  subst c2
  refine gf rfl rfl (gk (gs (rg (sv (EV.ld (v := .agg #[.int .i64 t1_0, .slice At1_1 t1_1.length ct1_1, .slice At1_2 t1_2.length ct1_2, .slice At1_3 t1_3.length ct1_3, .int .i64 t1_4]) 1 (some 5) rfl rfl rfl) rfl (so rfl (op_lit (s := 5) (by_ := 88) k44 ([(⟨t1_0, t1_1, t1_2, t1_3, t1_4⟩ : S44)] : List S44) [[(At1_1, ct1_1), (At1_2, ct1_2), (At1_3, ct1_3)]] [0, 1, 2] 5 [.tmp 20] rfl rfl rfl rfl rfl rfl rfl rfl rfl rfl rfl rfl rfl dq rfl fun A21_3 c21_3 => (nmE (en := [.sl 2 k70 At1_1 ct1_1 t1_1 5 true, .sl 2 k70 At1_2 ct1_2 t1_2 5 true, .sl 2 .bool At1_3 ct1_3 t1_3 5 true, .sl 2 k44 A21_3 c21_3 ([(⟨t1_0, t1_1, t1_2, t1_3, t1_4⟩ : S44)] : List S44) 5 true]) (by kernel_rfl) (sv (EV.bd (v := .agg #[.slice A21_3 ([(⟨t1_0, t1_1, t1_2, t1_3, t1_4⟩ : S44)] : List S44).length c21_3, .int .i64 0, .int .i64 0]) rfl (by kernel_rfl)) rfl (so rfl (op_st (cs' := [.slice A21_3 ([(⟨t1_0, t1_1, t1_2, t1_3, t1_4⟩ : S44)] : List S44).length c21_3, .int .i64 0, .int .i64 0]) 0 rfl rfl rfl rfl rfl rfl (sv (EV.as rfl) rfl (re (pr [6, 7] [0] [3] rfl rfl rfl rfl ?_)))))))))))))
  cases H
  exact rt Try.func65 rfl (.cell 0 (some 3) rfl rfl rfl (.tmp rfl .nil)) rfl [] [⟨0, 2, 1, true⟩] rfl rfl rfl rfl rfl ⟨_, _, rfl, rfl, rfl⟩
 ·
  obtain rfl := bF c2
  refine gt rfl rfl (gs (rg (sv (EV.bd (v := .agg #[.slice none 0 0, .int .i64 0, .int .i64 0]) rfl (by kernel_rfl)) rfl (so rfl (op_st (cs' := [.slice none 0 0, .int .i64 0, .int .i64 0]) 0 rfl rfl rfl rfl rfl rfl (sv (EV.as rfl) rfl (re (nil_ k44 5 dq ?_))))))))
  cases H
  exact rt Try.func65 rfl (.cell 0 (some 3) rfl rfl rfl (.tmp rfl .nil)) rfl [] [⟨3, 2, 1, true⟩] rfl rfl rfl rfl rfl ⟨_, _, rfl, rfl, rfl⟩
end Go.Proofs.Ytajjeemkdjfilaa.K
namespace Go.Proofs.Ytajjeemkdjfilaa.K
open Go Go.RowKit
set_option linter.unusedVariables false
set_option linter.unusedSimpArgs false
def impl_isGrant.f (a0 : Int) : Option (Bool) := (impl_within.f a0 8 60).bind fun t1 => (some t1)
set_option maxHeartbeats 4000000 in
set_option maxRecDepth 100000 in
theorem impl_isGrant.ok (a0 : Int) (r0 : Bool) (H : impl_isGrant.f a0 = some r0) : Fn Try.prog 89 [.int .i64 a0] [] [] (fun v bx en => v = .bool r0 ∧ bx = [] ∧ en = []) := by
 refine fn_ 5 Try.func89 rfl rfl rfl (fun base T w0 => ?_)
 rw [impl_isGrant.f] at H
 refine gs (rg (sv (EV.as rfl) rfl (re (gs (rg (sv (EV.mv rfl) rfl ?_))))))
 revert H; refine bdI ?_; rintro t1 A1 H
 refine so rfl (op_call (impl_within.ok a0 8 60 _ A1) [] 1 rfl rfl rfl rfl rfl ?_)
 rintro _ _ _ ⟨rfl, rfl, rfl⟩
 refine sv (EV.as rfl) rfl (re ?_)
 cases H
 exact rt Try.func89 rfl (.tmp rfl .nil) rfl [] [] rfl rfl rfl rfl rfl ⟨rfl, rfl, rfl⟩
end Go.Proofs.Ytajjeemkdjfilaa.K
namespace Go.Proofs.Ytajjeemkdjfilaa.K
open Go Go.RowKit
set_option linter.unusedVariables false
set_option linter.unusedSimpArgs false
def impl_areGrants.l0 : Nat → Int → Int → (List Int) → Option (Bool)
 | 0, _, _, _ => none
 | k + 1, x2_6, x2_7, l0 => if x2_7 < x2_6 then (if 0 ≤ x2_7 then (if x2_7 < (l0.length : Int) then ((impl_isGrant.f (rdOf 0 l0 x2_7)).bind fun t4 => (if t4 = true then (impl_areGrants.l0 k x2_6 (wrap64 (x2_7 + 1)) l0) else (some false))) else none) else none) else (some (decide ((l0.length : Int) > 0)))
def impl_areGrants.f (k : Nat) (l0 : List Int) : Option (Bool) := impl_areGrants.l0 k (l0.length : Int) 0 l0
set_option maxHeartbeats 4000000 in
set_option maxRecDepth 100000 in
theorem impl_areGrants.ok (k : Nat) (l0 : List Int) (Al0 : Option Addr) (cl0 : Nat) (r0 : Bool) (H : impl_areGrants.f k l0 = some r0) : Fn Try.prog 66 [.slice Al0 l0.length cl0] [] [.sl 0 (.int .i64) Al0 cl0 l0 0 false] (fun v bx en => v = .bool r0 ∧ bx = [] ∧ en = []) := by
 refine fn_ 18 Try.func66 rfl rfl rfl (fun base T w0 => ?_)
 rw [impl_areGrants.f] at H
 refine gs (rg (sv (EV.as rfl) rfl (re (gs (gs (rg (sv (EV.mv rfl) rfl (sv (EV.ln rfl) rfl (sv (EV.mv rfl) rfl (re (gb ?_)))))))))))
 refine lo (fun kk S => ∃ (x2_6 : Int) (x2_7 : Int), impl_areGrants.l0 kk x2_6 x2_7 l0 = some r0 ∧ S = ⟨[(0, .slice Al0 l0.length cl0), (5, .slice Al0 l0.length cl0), (6, .int .i64 x2_6), (7, .int .i64 x2_7)], [], [.sl 0 (.int .i64) Al0 cl0 l0 0 false]⟩) (fun S hS => ?_) (fun n0 ih0 S hS => ?_) ⟨(l0.length : Int), 0, H, rfl⟩ (fun h => wk [0, 5, 6, 7] [] [⟨0, 0, 0, false⟩] h)
 · clear H; obtain ⟨_, _, H, _⟩ := hS; rw [impl_areGrants.l0] at H; cases H
 clear H
 obtain ⟨x2_6, x2_7, H, rfl⟩ := hS
 rw [impl_areGrants.l0] at H
 refine gs (rg (sv (EV.lss rfl rfl) rfl (re (gs ?_))))
 revert H; refine ifsI ?_ ?_ <;> intro c1 H
 ·
  refine gt rfl (dT c1) (gk (gs (gb (gs (rg ?_)))))
  revert H; refine ggI ?_; intro g2 H
  revert H; refine ggI ?_; intro g3 H
  refine sv (EV.ix 0 rfl rfl rfl g2 g3 rfl) rfl (sv (EV.le (v := .int .i64 (rdOf 0 l0 x2_7)) x2_7 0 none 0 0 rfl rfl rfl g2 g3 rfl rfl rfl) rfl (sv (EV.as rfl) rfl (re (gs (rg (sv (EV.mv rfl) rfl ?_))))))
  revert H; refine bdI ?_; rintro t4 A4 H
  refine so rfl (op_call (impl_isGrant.ok (rdOf 0 l0 x2_7) _ A4) [] 1 rfl rfl rfl rfl rfl ?_)
  rintro _ _ _ ⟨rfl, rfl, rfl⟩
  refine sv (EV.nt rfl) rfl (re (pr [0, 5, 6, 7, 13] [] [0] rfl rfl rfl rfl ?_))
  revert H; refine ifsI ?_ ?_ <;> intro c5 H
  ·
   subst c5
   exact gf rfl rfl (gk (ge (rg (sv (EV.add rfl rfl) rfl (sv (EV.mv rfl) rfl (re (wk [0, 5, 6, 7] [] [⟨0, 0, 0, false⟩] (ih0 _ (by omega) _ ⟨x2_6, wrap64 (x2_7 + 1), H, rfl⟩))))))))
  ·
   obtain rfl := bF c5
   refine gt rfl rfl (gs (rg (sv (EV.as rfl) rfl (re ?_))))
   cases H
   exact rt Try.func66 rfl (.tmp rfl .nil) rfl [] [] rfl rfl rfl rfl rfl ⟨rfl, rfl, rfl⟩
 ·
  refine gf rfl (dF c1) (gx rfl (gs (rg (sv (EV.mv rfl) rfl (sv (EV.ln rfl) rfl (sv (EV.gtr rfl rfl) rfl (sv (EV.as rfl) rfl (re (pr [2] [] [] rfl rfl rfl rfl ?_)))))))))
  cases H
  exact rt Try.func66 rfl (.tmp rfl .nil) rfl [] [] rfl rfl rfl rfl rfl ⟨rfl, rfl, rfl⟩
end Go.Proofs.Ytajjeemkdjfilaa.K
namespace Go.Proofs.Ytajjeemkdjfilaa.K
open Go Go.RowKit
set_option linter.unusedVariables false
set_option linter.unusedSimpArgs false
def impl_cloneTask.f (a0_0 : Int) (l0_1 : List S70) (l0_2 : List S70) (l0_3 : List Bool) (a0_4 : Int) : Option (Int × (List S70) × (List S70) × (List Bool) × Int) := if l0_3.length ≤ 140737488355328 then ((impl_clone.f l0_1).bind fun t2 => ((impl_clone.f l0_2).bind fun t3 => (some (a0_0, t2, t3, l0_3, a0_4)))) else none
set_option maxHeartbeats 4000000 in
set_option maxRecDepth 100000 in
theorem impl_cloneTask.ok (a0_0 : Int) (l0_1 : List S70) (Al0_1 : Option Addr) (cl0_1 : Nat) (l0_2 : List S70) (Al0_2 : Option Addr) (cl0_2 : Nat) (l0_3 : List Bool) (Al0_3 : Option Addr) (cl0_3 : Nat) (a0_4 : Int) (r0 : Int) (r1 : List S70) (r2 : List S70) (r3 : List Bool) (r4 : Int) (H : impl_cloneTask.f a0_0 l0_1 l0_2 l0_3 a0_4 = some (r0, r1, r2, r3, r4)) : Fn Try.prog 78 [.agg #[.int .i64 a0_0, .slice Al0_1 l0_1.length cl0_1, .slice Al0_2 l0_2.length cl0_2, .slice Al0_3 l0_3.length cl0_3, .int .i64 a0_4]] [] [.sl 0 k70 Al0_1 cl0_1 l0_1 0 false, .sl 0 k70 Al0_2 cl0_2 l0_2 0 false, .sl 0 .bool Al0_3 cl0_3 l0_3 0 false] (fun v bx en => ∃ A1 c1 A2 c2 A3 c3, v = .agg #[.int .i64 r0, .slice A1 r1.length c1, .slice A2 r2.length c2, .slice A3 r3.length c3, .int .i64 r4] ∧ bx = [] ∧ en = [.sl 2 k70 A1 c1 r1 1 true, .sl 2 k70 A2 c2 r2 2 true, .sl 2 .bool A3 c3 r3 3 true]) := by
 refine fn_ 16 Try.func78 rfl rfl rfl (fun base T w0 => ?_)
 rw [impl_cloneTask.f] at H
 refine gs (rg (so rfl (op_box (cs := [.int .i64 a0_0, .slice Al0_1 l0_1.length cl0_1, .slice Al0_2 l0_2.length cl0_2, .slice Al0_3 l0_3.length cl0_3, .int .i64 a0_4]) rfl rfl rfl fun b1 => (so rfl (op_alloc (cs := [.int .i64 0, .slice none 0 0, .slice none 0 0, .slice none 0 0, .int .i64 0]) (by kernel_rfl) rfl fun b2 => (re (gs ?_)))))))
 revert H; refine ggI ?_; intro g1 H
 refine nil_ .bool 1 dq (dr [0, 1] [0, 1, 2] [10, 11, 12, 13, 14] 15 rfl rfl rfl rfl (xv 0 [0, 1] [0, 1, 2] rfl (EV.fa 1 rfl) rfl rfl rfl rfl (xv 1 [0, 1] [0, 1, 2] rfl (EV.ld 0 none rfl rfl rfl) rfl rfl rfl rfl (xv 3 [0, 1] [0, 1, 2] rfl (EV.fa 2 rfl) rfl rfl rfl rfl (xv 4 [0, 1] [0, 1, 2] rfl (EV.ld 0 none rfl rfl rfl) rfl rfl rfl rfl (xv 6 [0, 1] [0, 1, 2] rfl (EV.fa 3 rfl) rfl rfl rfl rfl (xv 7 [0, 1] [0, 1, 2] rfl (EV.ld 0 none rfl rfl rfl) rfl rfl rfl rfl (one1 2 rfl rfl ?_))))))))
 revert H; refine bdI ?_; rintro t2 A2 H
 refine op_call (impl_clone.ok l0_1 Al0_1 cl0_1 _ A2) [⟨0, 0, 0, false⟩] 2 rfl rfl rfl rfl rfl ?_
 rintro _ _ _ ⟨At2, ct2, rfl, rfl, rfl⟩
 refine xs [0, 1] [0, 1, 2] rfl rfl rfl (xv 9 [0, 1] [0, 1, 2] rfl (EV.fa 1 rfl) rfl rfl rfl rfl (one1 5 rfl rfl ?_))
 revert H; refine bdI ?_; rintro t3 A3 H
 refine op_call (impl_clone.ok l0_2 Al0_2 cl0_2 _ A3) [⟨1, 0, 0, false⟩] 4 rfl rfl rfl rfl rfl ?_
 rintro _ _ _ ⟨At3, ct3, rfl, rfl, rfl⟩
 refine xs [0, 1] [0, 1, 2] rfl rfl rfl (one1 8 rfl rfl (op_app (k := .bool) (s := 1) (by_ := 1) 3 2 rfl rfl rfl rfl (ap0 g1 dq) (ap0n g1 dq) (.inl rfl) true (fun _ => .inl rfl) rfl rfl fun A11_4 c11_4 => (nmE (en := [.sl 0 k70 Al0_1 cl0_1 l0_1 0 false, .sl 0 k70 Al0_2 cl0_2 l0_2 0 false, .sl 0 .bool Al0_3 cl0_3 l0_3 0 false, .sl 2 k70 At2 ct2 t2 3 true, .sl 2 k70 At3 ct3 t3 5 true, .sl 2 .bool A11_4 c11_4 l0_3 1 true]) (by kernel_rfl) (xs [0, 1] [0, 1, 2] rfl rfl rfl (one1 10 rfl rfl (op_st (cs' := [.int .i64 a0_0, .slice At2 t2.length ct2, .slice Al0_2 l0_2.length cl0_2, .slice Al0_3 l0_3.length cl0_3, .int .i64 a0_4]) 0 rfl rfl rfl rfl rfl rfl (xn rfl (one1 11 rfl rfl (ov (EV.fa 2 rfl) rfl (xn rfl (one1 12 rfl rfl (op_st (cs' := [.int .i64 a0_0, .slice At2 t2.length ct2, .slice At3 t3.length ct3, .slice Al0_3 l0_3.length cl0_3, .int .i64 a0_4]) 0 rfl rfl rfl rfl rfl rfl (xn rfl (one1 13 rfl rfl (ov (EV.fa 3 rfl) rfl (xn rfl (one1 14 rfl rfl (op_st (cs' := [.int .i64 a0_0, .slice At2 t2.length ct2, .slice At3 t3.length ct3, .slice A11_4 l0_3.length c11_4, .int .i64 a0_4]) 0 rfl rfl rfl rfl rfl rfl (xn rfl (xd (pr [1, 2] [0, 1] [3, 4, 5] rfl rfl rfl rfl (gs (rg (sv (EV.ld (v := .agg #[.int .i64 a0_0, .slice At2 t2.length ct2, .slice At3 t3.length ct3, .slice A11_4 l0_3.length c11_4, .int .i64 a0_4]) 0 (some 5) rfl rfl rfl) rfl (so rfl (op_st (cs' := [.int .i64 a0_0, .slice At2 t2.length ct2, .slice At3 t3.length ct3, .slice A11_4 l0_3.length c11_4, .int .i64 a0_4]) 1 rfl rfl rfl rfl rfl rfl (re ?_)))))))))))))))))))))))))))
 cases H
 exact rt Try.func78 rfl (.cell 1 (some 5) rfl rfl rfl .nil) rfl [] [⟨0, 2, 1, true⟩, ⟨1, 2, 2, true⟩, ⟨2, 2, 3, true⟩] rfl rfl rfl rfl rfl ⟨_, _, _, _, _, _, rfl, rfl, rfl⟩
end Go.Proofs.Ytajjeemkdjfilaa.K
namespace Go.Proofs.Ytajjeemkdjfilaa.K
open Go Go.RowKit
set_option linter.unusedVariables false
set_option linter.unusedSimpArgs false
def impl_cloneTasks.l0 : Nat → (List S44) → Int → Int → (List S44) → Option ((List S44))
 | 0, _, _, _, _ => none
 | k + 1, x2_3, x2_7, x2_8, l0 => if x2_8 < x2_7 then (if 0 ≤ x2_8 then (if x2_8 < (l0.length : Int) then ((impl_cloneTask.f ((rd_T44 l0 x2_8).f0) ((rd_T44 l0 x2_8).f1) ((rd_T44 l0 x2_8).f2) ((rd_T44 l0 x2_8).f3) ((rd_T44 l0 x2_8).f4)).bind fun bt7 => (if x2_3.length < 1599289640401 then (impl_cloneTasks.l0 k (x2_3 ++ ([(⟨bt7.1, bt7.2.1, bt7.2.2.1, bt7.2.2.2.1, bt7.2.2.2.2⟩ : S44)] : List S44)) x2_7 (wrap64 (x2_8 + 1)) l0) else none)) else none) else none) else (some x2_3)
def impl_cloneTasks.f (k : Nat) (l0 : List S44) : Option ((List S44)) := impl_cloneTasks.l0 k [] (l0.length : Int) 0 l0
set_option maxHeartbeats 4000000 in
set_option maxRecDepth 100000 in
theorem impl_cloneTasks.ok (k : Nat) (l0 : List S44) (Al0 : Option Addr) (cl0 : Nat) (r0 : List S44) (H : impl_cloneTasks.f k l0 = some r0) : Fn Try.prog 113 [.slice Al0 l0.length cl0] [] [.sl 0 k44 Al0 cl0 l0 0 false] (fun v bx en => ∃ A0 c0, v = .slice A0 r0.length c0 ∧ bx = [] ∧ en = [.sl 2 k44 A0 c0 r0 1 true]) := by
 refine fn_ 19 Try.func113 rfl rfl rfl (fun base T w0 => ?_)
 rw [impl_cloneTasks.f] at H
 refine gs (rg (sv (EV.as rfl) rfl (re (gs (rg (sv (EV.as rfl) rfl (re (gs (gs (rg (sv (EV.mv rfl) rfl (sv (EV.ln rfl) rfl (sv (EV.mv rfl) rfl (re (gb (nil_ k44 1 dq ?_))))))))))))))))
 refine lo (fun kk S => ∃ (x2_3 : List S44) (Ax2_3 : Option Addr) (cx2_3 : Nat) (x2_7 : Int) (x2_8 : Int), impl_cloneTasks.l0 kk x2_3 x2_7 x2_8 l0 = some r0 ∧ S = ⟨[(3, .slice Ax2_3 x2_3.length cx2_3), (6, .slice Al0 l0.length cl0), (7, .int .i64 x2_7), (8, .int .i64 x2_8)], [], [.sl 2 k44 Ax2_3 cx2_3 x2_3 1 true, .sl 0 k44 Al0 cl0 l0 0 false]⟩) (fun S hS => ?_) (fun n0 ih0 S hS => ?_) ⟨[], none, 0, (l0.length : Int), 0, H, rfl⟩ (fun h => wk [3, 6, 7, 8] [] [⟨1, 2, 1, true⟩, ⟨0, 0, 0, false⟩] h)
 · clear H; obtain ⟨_, _, _, _, _, H, _⟩ := hS; rw [impl_cloneTasks.l0] at H; cases H
 clear H
 obtain ⟨x2_3, Ax2_3, cx2_3, x2_7, x2_8, H, rfl⟩ := hS
 rw [impl_cloneTasks.l0] at H
 refine gs (rg (sv (EV.lss rfl rfl) rfl (re (gs ?_))))
 revert H; refine ifsI ?_ ?_ <;> intro c1 H
 ·
  refine gt rfl (dT c1) (gk (gs (gb (gs (rg ?_)))))
  revert H; refine ggI ?_; intro g2 H
  revert H; refine ggI ?_; intro g3 H
  refine sv (EV.ix 1 rfl rfl rfl g2 g3 rfl) rfl (opn (i := x2_8) 1 z44 rfl g2 g3 fun A_4 c_4 A_5 c_5 A_6 c_6 => (sv (EV.lc (v := .agg #[.int .i64 ((rd_T44 l0 x2_8).f0), .slice A_4 ((rd_T44 l0 x2_8).f1).length c_4, .slice A_5 ((rd_T44 l0 x2_8).f2).length c_5, .slice A_6 ((rd_T44 l0 x2_8).f3).length c_6, .int .i64 ((rd_T44 l0 x2_8).f4)]) 0 (some 5) 2 rfl rfl rfl rfl) rfl (so rfl (op_alloc (cs := [.int .i64 0, .slice none 0 0, .slice none 0 0, .slice none 0 0, .int .i64 0]) (by kernel_rfl) rfl fun b5 => (so rfl (op_st (cs' := [.int .i64 ((rd_T44 l0 x2_8).f0), .slice A_4 ((rd_T44 l0 x2_8).f1).length c_4, .slice A_5 ((rd_T44 l0 x2_8).f2).length c_5, .slice A_6 ((rd_T44 l0 x2_8).f3).length c_6, .int .i64 ((rd_T44 l0 x2_8).f4)]) 0 rfl rfl rfl rfl rfl rfl (re (rg (sv (EV.mv rfl) rfl (sv (EV.ld (v := .agg #[.int .i64 ((rd_T44 l0 x2_8).f0), .slice A_4 ((rd_T44 l0 x2_8).f1).length c_4, .slice A_5 ((rd_T44 l0 x2_8).f2).length c_5, .slice A_6 ((rd_T44 l0 x2_8).f3).length c_6, .int .i64 ((rd_T44 l0 x2_8).f4)]) 0 (some 5) rfl rfl rfl) rfl ?_))))))))))
  revert H; refine bdI ?_; rintro ⟨t7_0, t7_1, t7_2, t7_3, t7_4⟩ A7 H
  refine so rfl (op_call (impl_cloneTask.ok ((rd_T44 l0 x2_8).f0) ((rd_T44 l0 x2_8).f1) A_4 c_4 ((rd_T44 l0 x2_8).f2) A_5 c_5 ((rd_T44 l0 x2_8).f3) A_6 c_6 ((rd_T44 l0 x2_8).f4) _ _ _ _ _ A7) [⟨3, 0, 0, false⟩, ⟨4, 0, 0, false⟩, ⟨5, 0, 0, false⟩] 2 rfl rfl rfl rfl rfl ?_)
  rintro _ _ _ ⟨At7_1, ct7_1, At7_2, ct7_2, At7_3, ct7_3, rfl, rfl, rfl⟩
  refine so rfl (op_lit (s := 5) (by_ := 88) k44 ([(⟨t7_0, t7_1, t7_2, t7_3, t7_4⟩ : S44)] : List S44) [[(At7_1, ct7_1), (At7_2, ct7_2), (At7_3, ct7_3)]] [6, 7, 8] 6 [.tmp 14] rfl rfl rfl rfl rfl rfl rfl rfl rfl rfl rfl rfl rfl dq rfl fun A15_8 c15_8 => (nmE (en := [.sl 2 k44 Ax2_3 cx2_3 x2_3 1 true, .sl 0 k44 Al0 cl0 l0 0 false, celE Al0 (x2_8.toNat * 5) [.int .i64 ((rd_T44 l0 x2_8).f0), .slice A_4 ((rd_T44 l0 x2_8).f1).length c_4, .slice A_5 ((rd_T44 l0 x2_8).f2).length c_5, .slice A_6 ((rd_T44 l0 x2_8).f3).length c_6, .int .i64 ((rd_T44 l0 x2_8).f4)] 0, .sl 0 k70 A_4 c_4 ((rd_T44 l0 x2_8).f1) 0 false, .sl 0 k70 A_5 c_5 ((rd_T44 l0 x2_8).f2) 0 false, .sl 0 .bool A_6 c_6 ((rd_T44 l0 x2_8).f3) 0 false, .sl 2 k70 At7_1 ct7_1 t7_1 6 true, .sl 2 k70 At7_2 ct7_2 t7_2 6 true, .sl 2 .bool At7_3 ct7_3 t7_3 6 true, .sl 2 k44 A15_8 c15_8 ([(⟨t7_0, t7_1, t7_2, t7_3, t7_4⟩ : S44)] : List S44) 6 true]) (by kernel_rfl) ?_))
  revert H; refine ggI ?_; intro g9 H
  exact so rfl (op_app (k := k44) (s := 5) (by_ := 88) 0 9 rfl rfl rfl rfl (ap1 g9 dq) (ap1n g9 dq) (.inr ⟨dq, dq, rfl, dq⟩) true (fun _ => .inr ⟨rfl, rfl, dq⟩) rfl rfl fun A16_10 c16_10 => (nmE (en := [.sl 0 k44 Al0 cl0 l0 0 false, celE Al0 (x2_8.toNat * 5) [.int .i64 ((rd_T44 l0 x2_8).f0), .slice A_4 ((rd_T44 l0 x2_8).f1).length c_4, .slice A_5 ((rd_T44 l0 x2_8).f2).length c_5, .slice A_6 ((rd_T44 l0 x2_8).f3).length c_6, .int .i64 ((rd_T44 l0 x2_8).f4)] 0, .sl 0 k70 A_4 c_4 ((rd_T44 l0 x2_8).f1) 0 false, .sl 0 k70 A_5 c_5 ((rd_T44 l0 x2_8).f2) 0 false, .sl 0 .bool A_6 c_6 ((rd_T44 l0 x2_8).f3) 0 false, .sl 2 k70 At7_1 ct7_1 t7_1 1 true, .sl 2 k70 At7_2 ct7_2 t7_2 1 true, .sl 2 .bool At7_3 ct7_3 t7_3 1 true, .sl 2 k44 A15_8 c15_8 ([(⟨t7_0, t7_1, t7_2, t7_3, t7_4⟩ : S44)] : List S44) 1 true, .sl 2 k44 A16_10 c16_10 (x2_3 ++ ([(⟨t7_0, t7_1, t7_2, t7_3, t7_4⟩ : S44)] : List S44)) 1 true]) (by kernel_rfl) (sv (EV.as rfl) rfl (re (pr [3, 6, 7, 8] [] [0, 9] rfl rfl rfl rfl (ge (rg (sv (EV.add rfl rfl) rfl (sv (EV.mv rfl) rfl (re (wk [3, 6, 7, 8] [] [⟨1, 2, 1, true⟩, ⟨0, 0, 0, false⟩] (ih0 _ (by omega) _ ⟨x2_3 ++ ([(⟨t7_0, t7_1, t7_2, t7_3, t7_4⟩ : S44)] : List S44), A16_10, c16_10, x2_7, wrap64 (x2_8 + 1), H, rfl⟩))))))))))))
 ·
  refine gf rfl (dF c1) (gx rfl (gs (rg (sv (EV.mv rfl) rfl (sv (EV.as rfl) rfl (re (pr [2] [] [0] rfl rfl rfl rfl ?_)))))))
  cases H
  exact rt Try.func113 rfl (.tmp rfl .nil) rfl [] [⟨0, 2, 1, true⟩] rfl rfl rfl rfl rfl ⟨_, _, rfl, rfl, rfl⟩
end Go.Proofs.Ytajjeemkdjfilaa.K
namespace Go.Proofs.Ytajjeemkdjfilaa.K
open Go Go.RowKit
set_option linter.unusedVariables false
set_option linter.unusedSimpArgs false
def impl_cloneJoiner.f (k : Nat) (l0_0 : List S44) (a0_1 : Int) (a0_2 : Int) : Option ((List S44) × Int × Int) := (impl_cloneTasks.f k l0_0).bind fun t1 => (some (t1, a0_1, a0_2))
set_option maxHeartbeats 4000000 in
set_option maxRecDepth 100000 in
theorem impl_cloneJoiner.ok (k : Nat) (l0_0 : List S44) (Al0_0 : Option Addr) (cl0_0 : Nat) (a0_1 : Int) (a0_2 : Int) (r0 : List S44) (r1 : Int) (r2 : Int) (H : impl_cloneJoiner.f k l0_0 a0_1 a0_2 = some (r0, r1, r2)) : Fn Try.prog 103 [.agg #[.slice Al0_0 l0_0.length cl0_0, .int .i64 a0_1, .int .i64 a0_2]] [] [.sl 0 k44 Al0_0 cl0_0 l0_0 0 false] (fun v bx en => ∃ A0 c0, v = .agg #[.slice A0 r0.length c0, .int .i64 r1, .int .i64 r2] ∧ bx = [] ∧ en = [.sl 2 k44 A0 c0 r0 1 true]) := by
 refine fn_ 8 Try.func103 rfl rfl rfl (fun base T w0 => ?_)
 rw [impl_cloneJoiner.f] at H
 refine gs (rg (so rfl (op_box (cs := [.slice Al0_0 l0_0.length cl0_0, .int .i64 a0_1, .int .i64 a0_2]) rfl rfl rfl fun b1 => (so rfl (op_alloc (cs := [.slice none 0 0, .int .i64 0, .int .i64 0]) (by kernel_rfl) rfl fun b2 => (re (gs (rg (sv (EV.fa 0 rfl) rfl (sv (EV.ld 0 none rfl rfl rfl) rfl ?_))))))))))
 revert H; refine bdI ?_; rintro t1 A1 H
 refine so rfl (op_call (impl_cloneTasks.ok k l0_0 Al0_0 cl0_0 _ A1) [⟨0, 0, 0, false⟩] 1 rfl rfl rfl rfl rfl ?_)
 rintro _ _ _ ⟨At1, ct1, rfl, rfl, rfl⟩
 refine sv (EV.fa 0 rfl) rfl (so rfl (op_st (cs' := [.slice At1 t1.length ct1, .int .i64 a0_1, .int .i64 a0_2]) 0 rfl rfl rfl rfl rfl rfl (re (gs (rg (sv (EV.ld (v := .agg #[.slice At1 t1.length ct1, .int .i64 a0_1, .int .i64 a0_2]) 0 (some 3) rfl rfl rfl) rfl (so rfl (op_st (cs' := [.slice At1 t1.length ct1, .int .i64 a0_1, .int .i64 a0_2]) 1 rfl rfl rfl rfl rfl rfl (re (pr [2] [1] [1] rfl rfl rfl rfl ?_))))))))))
 cases H
 exact rt Try.func103 rfl (.cell 0 (some 3) rfl rfl rfl .nil) rfl [] [⟨0, 2, 1, true⟩] rfl rfl rfl rfl rfl ⟨_, _, rfl, rfl, rfl⟩
end Go.Proofs.Ytajjeemkdjfilaa.K
namespace Go.Proofs.Ytajjeemkdjfilaa.K
open Go Go.RowKit
set_option linter.unusedVariables false
set_option linter.unusedSimpArgs false
def impl_IsValidTask.f (k : Nat) (a0_0 : Int) (l0_1 : List S70) (l0_2 : List S70) (l0_3 : List Bool) (a0_4 : Int) : Option (Bool) := (impl_IsValidJoinKind.f a0_0).bind fun t1 => (if t1 = true then ((impl_AreValidRows.f k l0_1).bind fun t3 => (if t3 = true then ((impl_AreValidRows.f k l0_2).bind fun t5 => (if t5 = true then (if (l0_3.length : Int) = (l0_1.length : Int) then ((impl_within.f a0_4 0 4).bind fun t8 => (some t8)) else (some false)) else (some false))) else (some false))) else (some false))
set_option maxHeartbeats 4000000 in
set_option maxRecDepth 100000 in
theorem impl_IsValidTask.ok (k : Nat) (a0_0 : Int) (l0_1 : List S70) (Al0_1 : Option Addr) (cl0_1 : Nat) (l0_2 : List S70) (Al0_2 : Option Addr) (cl0_2 : Nat) (l0_3 : List Bool) (Al0_3 : Option Addr) (cl0_3 : Nat) (a0_4 : Int) (r0 : Bool) (H : impl_IsValidTask.f k a0_0 l0_1 l0_2 l0_3 a0_4 = some r0) : Fn Try.prog 52 [.agg #[.int .i64 a0_0, .slice Al0_1 l0_1.length cl0_1, .slice Al0_2 l0_2.length cl0_2, .slice Al0_3 l0_3.length cl0_3, .int .i64 a0_4]] [] [.sl 0 k70 Al0_1 cl0_1 l0_1 0 false, .sl 0 k70 Al0_2 cl0_2 l0_2 0 false, .sl 0 .bool Al0_3 cl0_3 l0_3 0 false] (fun v bx en => v = .bool r0 ∧ bx = [] ∧ en = []) := by
 refine fn_ 30 Try.func52 rfl rfl rfl (fun base T w0 => ?_)
 rw [impl_IsValidTask.f] at H
 refine gs (rg (so rfl (op_box (cs := [.int .i64 a0_0, .slice Al0_1 l0_1.length cl0_1, .slice Al0_2 l0_2.length cl0_2, .slice Al0_3 l0_3.length cl0_3, .int .i64 a0_4]) rfl rfl rfl fun b1 => (sv (EV.as rfl) rfl (re (gs (rg (sv (EV.fa 0 rfl) rfl (sv (EV.ld 0 none rfl rfl rfl) rfl ?_)))))))))
 revert H; refine bdI ?_; rintro t1 A1 H
 refine so rfl (op_call (impl_IsValidJoinKind.ok a0_0 _ A1) [] 1 rfl rfl rfl rfl rfl ?_)
 rintro _ _ _ ⟨rfl, rfl, rfl⟩
 refine sv (EV.mv rfl) rfl ?_
 revert H; refine ifsI ?_ ?_ <;> intro c2 H
 ·
  subst c2
  refine ts 6 rfl rfl (sv (EV.fa 1 rfl) rfl (sv (EV.ld 0 none rfl rfl rfl) rfl ?_))
  revert H; refine bdI ?_; rintro t3 A3 H
  refine so rfl (op_call (impl_AreValidRows.ok k l0_1 Al0_1 cl0_1 _ A3) [⟨0, 0, 0, false⟩] 1 rfl rfl rfl rfl rfl ?_)
  rintro _ _ _ ⟨rfl, rfl, rfl⟩
  refine sv (EV.pt rfl rfl rfl) rfl (sv (EV.mv rfl) rfl ?_)
  revert H; refine ifsI ?_ ?_ <;> intro c4 H
  ·
   subst c4
   refine ts 11 rfl rfl (sv (EV.fa 2 rfl) rfl (sv (EV.ld 0 none rfl rfl rfl) rfl ?_))
   revert H; refine bdI ?_; rintro t5 A5 H
   refine so rfl (op_call (impl_AreValidRows.ok k l0_2 Al0_2 cl0_2 _ A5) [⟨1, 0, 0, false⟩] 1 rfl rfl rfl rfl rfl ?_)
   rintro _ _ _ ⟨rfl, rfl, rfl⟩
   refine sv (EV.pt rfl rfl rfl) rfl (sv (EV.mv rfl) rfl ?_)
   revert H; refine ifsI ?_ ?_ <;> intro c6 H
   ·
    subst c6
    refine ts 16 rfl rfl (sv (EV.fa 3 rfl) rfl (sv (EV.ld 0 none rfl rfl rfl) rfl (sv (EV.ln rfl) rfl (sv (EV.fa 1 rfl) rfl (sv (EV.ld 0 none rfl rfl rfl) rfl (sv (EV.ln rfl) rfl (sv (EV.eql rfl rfl) rfl (sv (EV.pt rfl rfl rfl) rfl (sv (EV.mv rfl) rfl ?_)))))))))
    revert H; refine ifsI ?_ ?_ <;> intro c7 H
    ·
     refine ts 25 rfl (dT c7) (sv (EV.fa 4 rfl) rfl (sv (EV.ld 0 none rfl rfl rfl) rfl ?_))
     revert H; refine bdI ?_; rintro t8 A8 H
     refine so rfl (op_call (impl_within.ok a0_4 0 4 _ A8) [] 1 rfl rfl rfl rfl rfl ?_)
     rintro _ _ _ ⟨rfl, rfl, rfl⟩
     refine sv (EV.pt rfl rfl rfl) rfl (sv (EV.as rfl) rfl (re (pr [2] [] [] rfl rfl rfl rfl ?_)))
     cases H
     exact rt Try.func52 rfl (.tmp rfl .nil) rfl [] [] rfl rfl rfl rfl rfl ⟨rfl, rfl, rfl⟩
    ·
     refine ts 25 rfl (dF c7) (sk rfl (sk rfl (sk rfl (sv (EV.pf rfl rfl rfl) rfl (sv (EV.as rfl) rfl (re (pr [2] [] [] rfl rfl rfl rfl ?_)))))))
     cases H
     exact rt Try.func52 rfl (.tmp rfl .nil) rfl [] [] rfl rfl rfl rfl rfl ⟨rfl, rfl, rfl⟩
   ·
    obtain rfl := bF c6
    refine ts 16 rfl rfl (sk rfl (sk rfl (sk rfl (sk rfl (sk rfl (sk rfl (sk rfl (sv (EV.pf rfl rfl rfl) rfl (sv (EV.mv rfl) rfl (sk rfl (sk rfl (sk rfl (sv (EV.pf rfl rfl rfl) rfl (sv (EV.as rfl) rfl (re (pr [2] [] [] rfl rfl rfl rfl ?_))))))))))))))))
    cases H
    exact rt Try.func52 rfl (.tmp rfl .nil) rfl [] [] rfl rfl rfl rfl rfl ⟨rfl, rfl, rfl⟩
  ·
   obtain rfl := bF c4
   refine ts 11 rfl rfl (sk rfl (sk rfl (sk rfl (sv (EV.pf rfl rfl rfl) rfl (sv (EV.mv rfl) rfl (sk rfl (sk rfl (sk rfl (sk rfl (sk rfl (sk rfl (sk rfl (sv (EV.pf rfl rfl rfl) rfl (sv (EV.mv rfl) rfl (sk rfl (sk rfl (sk rfl (sv (EV.pf rfl rfl rfl) rfl (sv (EV.as rfl) rfl (re (pr [2] [] [] rfl rfl rfl rfl ?_)))))))))))))))))))))
   cases H
   exact rt Try.func52 rfl (.tmp rfl .nil) rfl [] [] rfl rfl rfl rfl rfl ⟨rfl, rfl, rfl⟩
 ·
  obtain rfl := bF c2
  refine ts 6 rfl rfl (sk rfl (sk rfl (sk rfl (sv (EV.pf rfl rfl rfl) rfl (sv (EV.mv rfl) rfl (sk rfl (sk rfl (sk rfl (sv (EV.pf rfl rfl rfl) rfl (sv (EV.mv rfl) rfl (sk rfl (sk rfl (sk rfl (sk rfl (sk rfl (sk rfl (sk rfl (sv (EV.pf rfl rfl rfl) rfl (sv (EV.mv rfl) rfl (sk rfl (sk rfl (sk rfl (sv (EV.pf rfl rfl rfl) rfl (sv (EV.as rfl) rfl (re (pr [2] [] [] rfl rfl rfl rfl ?_))))))))))))))))))))))))))
  cases H
  exact rt Try.func52 rfl (.tmp rfl .nil) rfl [] [] rfl rfl rfl rfl rfl ⟨rfl, rfl, rfl⟩
end Go.Proofs.Ytajjeemkdjfilaa.K
namespace Go.Proofs.Ytajjeemkdjfilaa.K
open Go Go.RowKit
set_option linter.unusedVariables false
set_option linter.unusedSimpArgs false
def impl_CountMatches.l0 : Nat → Int → Int → Int → Int → Int → Int → (List S70) → Option (Int)
 | 0, _, _, _, _, _, _, _ => none
 | k + 1, x2_5, x2_9, x2_10, x2_2_0, x2_2_1, x2_2_2, l1 => if x2_10 < x2_9 then (if 0 ≤ x2_10 then (if x2_10 < (l1.length : Int) then (if ((rd_T70 l1 x2_10).f0) = x2_2_0 then (impl_CountMatches.l0 k (wrap64 (x2_5 + 1)) x2_9 (wrap64 (x2_10 + 1)) x2_2_0 x2_2_1 x2_2_2 l1) else (impl_CountMatches.l0 k x2_5 x2_9 (wrap64 (x2_10 + 1)) x2_2_0 x2_2_1 x2_2_2 l1)) else none) else none) else (some x2_5)
def impl_CountMatches.f (k : Nat) (a0_0 : Int) (a0_1 : Int) (a0_2 : Int) (l1 : List S70) : Option (Int) := impl_CountMatches.l0 k 0 (l1.length : Int) 0 a0_0 a0_1 a0_2 l1
set_option maxHeartbeats 4000000 in
set_option maxRecDepth 100000 in
theorem impl_CountMatches.ok (k : Nat) (a0_0 : Int) (a0_1 : Int) (a0_2 : Int) (l1 : List S70) (Al1 : Option Addr) (cl1 : Nat) (r0 : Int) (H : impl_CountMatches.f k a0_0 a0_1 a0_2 l1 = some r0) : Fn Try.prog 79 [.agg #[.int .i64 a0_0, .int .i64 a0_1, .int .i64 a0_2], .slice Al1 l1.length cl1] [] [.sl 0 k70 Al1 cl1 l1 0 false] (fun v bx en => v = .int .i64 r0 ∧ bx = [] ∧ en = []) := by
 refine fn_ 23 Try.func79 rfl rfl rfl (fun base T w0 => ?_)
 rw [impl_CountMatches.f] at H
 refine gs (rg (so rfl (op_box (cs := [.int .i64 a0_0, .int .i64 a0_1, .int .i64 a0_2]) rfl rfl rfl fun b2 => (sv (EV.as rfl) rfl (re (gs (rg (sv (EV.as rfl) rfl (re (gs (gs (rg (sv (EV.mv rfl) rfl (sv (EV.ln rfl) rfl (sv (EV.mv rfl) rfl (re (gb ?_)))))))))))))))))
 refine lo (fun kk S => ∃ (x2_5 : Int) (x2_9 : Int) (x2_10 : Int) (x2_2_0 : Int) (x2_2_1 : Int) (x2_2_2 : Int), impl_CountMatches.l0 kk x2_5 x2_9 x2_10 x2_2_0 x2_2_1 x2_2_2 l1 = some r0 ∧ S = ⟨[(2, .pointer (some ⟨b2, 0, none⟩)), (5, .int .i64 x2_5), (8, .slice Al1 l1.length cl1), (9, .int .i64 x2_9), (10, .int .i64 x2_10)], [⟨b2, 70, [.int .i64 x2_2_0, .int .i64 x2_2_1, .int .i64 x2_2_2]⟩], [.sl 0 k70 Al1 cl1 l1 0 false]⟩) (fun S hS => ?_) (fun n0 ih0 S hS => ?_) ⟨0, (l1.length : Int), 0, a0_0, a0_1, a0_2, H, rfl⟩ (fun h => wk [2, 5, 8, 9, 10] [0] [⟨0, 0, 0, false⟩] h)
 · clear H; obtain ⟨_, _, _, _, _, _, H, _⟩ := hS; rw [impl_CountMatches.l0] at H; cases H
 clear H
 obtain ⟨x2_5, x2_9, x2_10, x2_2_0, x2_2_1, x2_2_2, H, rfl⟩ := hS
 rw [impl_CountMatches.l0] at H
 refine gs (rg (sv (EV.lss rfl rfl) rfl (re (gs ?_))))
 revert H; refine ifsI ?_ ?_ <;> intro c1 H
 ·
  refine gt rfl (dT c1) (gk (gs (gb (gs (rg ?_)))))
  revert H; refine ggI ?_; intro g2 H
  revert H; refine ggI ?_; intro g3 H
  refine sv (EV.ix 0 rfl rfl rfl g2 g3 rfl) rfl (sv (EV.le (v := .agg #[.int .i64 ((rd_T70 l1 x2_10).f0), .int .i64 ((rd_T70 l1 x2_10).f1), .int .i64 ((rd_T70 l1 x2_10).f2)]) x2_10 0 (some 3) 0 z70 rfl rfl rfl g2 g3 rfl rfl rfl) rfl (so rfl (op_alloc (cs := [.int .i64 0, .int .i64 0, .int .i64 0]) (by kernel_rfl) rfl fun b7 => (so rfl (op_st (cs' := [.int .i64 ((rd_T70 l1 x2_10).f0), .int .i64 ((rd_T70 l1 x2_10).f1), .int .i64 ((rd_T70 l1 x2_10).f2)]) 1 rfl rfl rfl rfl rfl rfl (re (gs (rg (sv (EV.fa 0 rfl) rfl (sv (EV.ld 1 none rfl rfl rfl) rfl (sv (EV.fa 0 rfl) rfl (sv (EV.ld 0 none rfl rfl rfl) rfl (sv (EV.eql rfl rfl) rfl (re (pr [2, 5, 8, 9, 10, 18] [0] [0] rfl rfl rfl rfl ?_)))))))))))))))
  revert H; refine ifsI ?_ ?_ <;> intro c4 H
  ·
   exact gt rfl (dT c4) (rg (sv (EV.mv rfl) rfl (sv (EV.add rfl rfl) rfl (sv (EV.as rfl) rfl (re (ge (rg (sv (EV.add rfl rfl) rfl (sv (EV.mv rfl) rfl (re (wk [2, 5, 8, 9, 10] [0] [⟨0, 0, 0, false⟩] (ih0 _ (by omega) _ ⟨wrap64 (x2_5 + 1), x2_9, wrap64 (x2_10 + 1), x2_2_0, x2_2_1, x2_2_2, H, rfl⟩))))))))))))
  ·
   exact gf rfl (dF c4) (gk (ge (rg (sv (EV.add rfl rfl) rfl (sv (EV.mv rfl) rfl (re (wk [2, 5, 8, 9, 10] [0] [⟨0, 0, 0, false⟩] (ih0 _ (by omega) _ ⟨x2_5, x2_9, wrap64 (x2_10 + 1), x2_2_0, x2_2_1, x2_2_2, H, rfl⟩))))))))
 ·
  refine gf rfl (dF c1) (gx rfl (gs (rg (sv (EV.mv rfl) rfl (sv (EV.as rfl) rfl (re (pr [4] [] [] rfl rfl rfl rfl ?_)))))))
  cases H
  exact rt Try.func79 rfl (.tmp rfl .nil) rfl [] [] rfl rfl rfl rfl rfl ⟨rfl, rfl, rfl⟩
end Go.Proofs.Ytajjeemkdjfilaa.K
namespace Go.Proofs.Ytajjeemkdjfilaa.K
open Go Go.RowKit
set_option linter.unusedVariables false
set_option linter.unusedSimpArgs false
mutual
def impl_JoinChunk.j0 : Nat → (List S92) → Int → (List S70) → Int → Int → Int → (List S70) → (List S70) → (List Bool) → Int → Int → (List S70) → (List S70) → (List Bool) → Int → (List S70) → Option ((List S92) × Int × (List S70) × (List S70) × (List Bool) × Int)
 | 0, _, _, _, _, _, _, _, _, _, _, _, _, _, _, _, _ => none
 | k + 1, x40_7, x40_8, x40_20, x40_21, x40_22, x40_5_0, x40_5_1, x40_5_2, x40_5_3, x40_5_4, x40_6_0, x40_6_1, x40_6_2, x40_6_3, x40_6_4, l1 => if 0 ≤ x40_8 then (if x40_8 < (x40_6_3.length : Int) then (impl_JoinChunk.l0 k x40_7 x40_20 x40_21 (wrap64 (x40_22 + 1)) x40_5_0 x40_5_1 x40_5_2 x40_5_3 x40_5_4 x40_6_0 x40_6_1 x40_6_2 (x40_6_3.set x40_8.toNat true) x40_6_4 l1) else none) else none
def impl_JoinChunk.l1 : Nat → (List S92) → Int → (List S70) → Int → Int → Int → Int → Int → (List S70) → (List S70) → (List Bool) → Int → Int → (List S70) → (List S70) → (List Bool) → Int → Int → Int → Int → (List S70) → Option ((List S92) × Int × (List S70) × (List S70) × (List Bool) × Int)
 | 0, _, _, _, _, _, _, _, _, _, _, _, _, _, _, _, _, _, _, _, _, _ => none
 | k + 1, x42_7, x42_8, x42_20, x42_21, x42_22, x42_50, x42_51, x42_5_0, x42_5_1, x42_5_2, x42_5_3, x42_5_4, x42_6_0, x42_6_1, x42_6_2, x42_6_3, x42_6_4, x42_9_0, x42_9_1, x42_9_2, l1 => if x42_51 < x42_50 then (if 0 ≤ x42_51 then (if x42_51 < (l1.length : Int) then (if ((rd_T70 l1 x42_51).f0) = x42_9_0 then (if x42_7.length < 2513169434916 then (impl_JoinChunk.l1 k (x42_7 ++ ([(⟨(⟨x42_9_0, x42_9_1, x42_9_2⟩ : S70), (⟨(rd_T70 l1 x42_51).f0, (rd_T70 l1 x42_51).f1, (rd_T70 l1 x42_51).f2⟩ : S70), true⟩ : S92)] : List S92)) x42_8 x42_20 x42_21 x42_22 x42_50 (wrap64 (x42_51 + 1)) x42_5_0 x42_5_1 x42_5_2 x42_5_3 x42_5_4 x42_6_0 x42_6_1 x42_6_2 x42_6_3 x42_6_4 x42_9_0 x42_9_1 x42_9_2 l1) else none) else (impl_JoinChunk.l1 k x42_7 x42_8 x42_20 x42_21 x42_22 x42_50 (wrap64 (x42_51 + 1)) x42_5_0 x42_5_1 x42_5_2 x42_5_3 x42_5_4 x42_6_0 x42_6_1 x42_6_2 x42_6_3 x42_6_4 x42_9_0 x42_9_1 x42_9_2 l1)) else none) else none) else (impl_JoinChunk.j0 k x42_7 x42_8 x42_20 x42_21 x42_22 x42_5_0 x42_5_1 x42_5_2 x42_5_3 x42_5_4 x42_6_0 x42_6_1 x42_6_2 x42_6_3 x42_6_4 l1)
def impl_JoinChunk.j1 : Nat → (List S92) → Int → (List S70) → Int → Int → Bool → Int → (List S70) → (List S70) → (List Bool) → Int → Int → (List S70) → (List S70) → (List Bool) → Int → Int → Int → Int → (List S70) → Option ((List S92) × Int × (List S70) × (List S70) × (List Bool) × Int)
 | 0, _, _, _, _, _, _, _, _, _, _, _, _, _, _, _, _, _, _, _, _ => none
 | k + 1, x41_7, x41_8, x41_20, x41_21, x41_22, x41_46, x41_5_0, x41_5_1, x41_5_2, x41_5_3, x41_5_4, x41_6_0, x41_6_1, x41_6_2, x41_6_3, x41_6_4, x41_9_0, x41_9_1, x41_9_2, l1 => if x41_46 = true then (impl_JoinChunk.l1 k x41_7 x41_8 x41_20 x41_21 x41_22 (l1.length : Int) 0 x41_5_0 x41_5_1 x41_5_2 x41_5_3 x41_5_4 x41_6_0 x41_6_1 x41_6_2 x41_6_3 x41_6_4 x41_9_0 x41_9_1 x41_9_2 l1) else (impl_JoinChunk.j0 k x41_7 x41_8 x41_20 x41_21 x41_22 x41_5_0 x41_5_1 x41_5_2 x41_5_3 x41_5_4 x41_6_0 x41_6_1 x41_6_2 x41_6_3 x41_6_4 l1)
def impl_JoinChunk.l0 : Nat → (List S92) → (List S70) → Int → Int → Int → (List S70) → (List S70) → (List Bool) → Int → Int → (List S70) → (List S70) → (List Bool) → Int → (List S70) → Option ((List S92) × Int × (List S70) × (List S70) × (List Bool) × Int)
 | 0, _, _, _, _, _, _, _, _, _, _, _, _, _, _, _ => none
 | k + 1, x22_7, x22_20, x22_21, x22_22, x22_5_0, x22_5_1, x22_5_2, x22_5_3, x22_5_4, x22_6_0, x22_6_1, x22_6_2, x22_6_3, x22_6_4, l1 => if x22_22 < x22_21 then (if 0 ≤ x22_22 then (if x22_22 < (x22_20.length : Int) then ((impl_CountMatches.f k ((rd_T70 x22_20 x22_22).f0) ((rd_T70 x22_20 x22_22).f1) ((rd_T70 x22_20 x22_22).f2) l1).bind fun t8 => (if t8 = 0 then (impl_JoinChunk.l0 k x22_7 x22_20 x22_21 (wrap64 (x22_22 + 1)) x22_5_0 x22_5_1 x22_5_2 x22_5_3 x22_5_4 x22_6_0 x22_6_1 x22_6_2 x22_6_3 x22_6_4 l1) else (if x22_6_0 = 2 then (if x22_22 < (x22_6_3.length : Int) then (if (rdOf false x22_6_3 x22_22) = true then (impl_JoinChunk.j0 k x22_7 x22_22 x22_20 x22_21 x22_22 x22_5_0 x22_5_1 x22_5_2 x22_5_3 x22_5_4 x22_6_0 x22_6_1 x22_6_2 x22_6_3 x22_6_4 l1) else (if x22_7.length < 2513169434916 then (impl_JoinChunk.j0 k (x22_7 ++ ([(⟨(⟨(rd_T70 x22_20 x22_22).f0, (rd_T70 x22_20 x22_22).f1, (rd_T70 x22_20 x22_22).f2⟩ : S70), (⟨0, 0, 0⟩ : S70), false⟩ : S92)] : List S92)) x22_22 x22_20 x22_21 x22_22 x22_5_0 x22_5_1 x22_5_2 x22_5_3 x22_5_4 x22_6_0 x22_6_1 x22_6_2 x22_6_3 x22_6_4 l1) else none)) else none) else (if x22_6_0 = 1 then (impl_JoinChunk.j1 k x22_7 x22_22 x22_20 x22_21 x22_22 (decide (x22_6_0 = 1)) x22_5_0 x22_5_1 x22_5_2 x22_5_3 x22_5_4 x22_6_0 x22_6_1 x22_6_2 x22_6_3 x22_6_4 ((rd_T70 x22_20 x22_22).f0) ((rd_T70 x22_20 x22_22).f1) ((rd_T70 x22_20 x22_22).f2) l1) else (impl_JoinChunk.j1 k x22_7 x22_22 x22_20 x22_21 x22_22 (decide (x22_6_0 = 4)) x22_5_0 x22_5_1 x22_5_2 x22_5_3 x22_5_4 x22_6_0 x22_6_1 x22_6_2 x22_6_3 x22_6_4 ((rd_T70 x22_20 x22_22).f0) ((rd_T70 x22_20 x22_22).f1) ((rd_T70 x22_20 x22_22).f2) l1))))) else none) else none) else (some (x22_7, x22_6_0, x22_6_1, x22_6_2, x22_6_3, x22_6_4))
end
def impl_JoinChunk.f (k : Nat) (a0_0 : Int) (l0_1 : List S70) (l0_2 : List S70) (l0_3 : List Bool) (a0_4 : Int) (l1 : List S70) : Option ((List S92) × Int × (List S70) × (List S70) × (List Bool) × Int) := (impl_cloneTask.f a0_0 l0_1 l0_2 l0_3 a0_4).bind fun bt1 => ((impl_IsValidTask.f k a0_0 l0_1 l0_2 l0_3 a0_4).bind fun t2 => (if t2 = true then (impl_JoinChunk.l0 k [] bt1.2.1 (bt1.2.1.length : Int) 0 0 [] [] [] 0 bt1.1 bt1.2.1 bt1.2.2.1 bt1.2.2.2.1 bt1.2.2.2.2 l1) else (some ([], bt1.1, bt1.2.1, bt1.2.2.1, bt1.2.2.2.1, bt1.2.2.2.2))))
set_option maxHeartbeats 4000000 in
set_option maxRecDepth 100000 in
theorem impl_JoinChunk.ok (k : Nat) (a0_0 : Int) (l0_1 : List S70) (Al0_1 : Option Addr) (cl0_1 : Nat) (l0_2 : List S70) (Al0_2 : Option Addr) (cl0_2 : Nat) (l0_3 : List Bool) (Al0_3 : Option Addr) (cl0_3 : Nat) (a0_4 : Int) (l1 : List S70) (Al1 : Option Addr) (cl1 : Nat) (r0 : List S92) (r1 : Int) (r2 : List S70) (r3 : List S70) (r4 : List Bool) (r5 : Int) (H : impl_JoinChunk.f k a0_0 l0_1 l0_2 l0_3 a0_4 l1 = some (r0, r1, r2, r3, r4, r5)) : Fn Try.prog 25 [.agg #[.int .i64 a0_0, .slice Al0_1 l0_1.length cl0_1, .slice Al0_2 l0_2.length cl0_2, .slice Al0_3 l0_3.length cl0_3, .int .i64 a0_4], .slice Al1 l1.length cl1] [] [.sl 0 k70 Al0_1 cl0_1 l0_1 0 false, .sl 0 k70 Al0_2 cl0_2 l0_2 0 false, .sl 0 .bool Al0_3 cl0_3 l0_3 0 false, .sl 0 k70 Al1 cl1 l1 0 false] (fun v bx en => ∃ A0 c0 A2 c2 A3 c3 A4 c4, v = .tuple #[.slice A0 r0.length c0, .agg #[.int .i64 r1, .slice A2 r2.length c2, .slice A3 r3.length c3, .slice A4 r4.length c4, .int .i64 r5]] ∧ bx = [] ∧ en = [.sl 2 k92 A0 c0 r0 1 true, .sl 2 k70 A2 c2 r2 2 true, .sl 2 k70 A3 c3 r3 3 true, .sl 2 .bool A4 c4 r4 4 true]) := by
 refine fn_ 74 Try.func25 rfl rfl rfl (fun base T w0 => ?_)
 rw [impl_JoinChunk.f] at H
 refine gs (rg (so rfl (op_box (cs := [.int .i64 a0_0, .slice Al0_1 l0_1.length cl0_1, .slice Al0_2 l0_2.length cl0_2, .slice Al0_3 l0_3.length cl0_3, .int .i64 a0_4]) rfl rfl rfl fun b2 => (sv (EV.as rfl) rfl (so rfl (op_alloc (cs := [.int .i64 0, .slice none 0 0, .slice none 0 0, .slice none 0 0, .int .i64 0]) (by kernel_rfl) rfl fun b5 => (re (gs (rg (sv (EV.ld (v := .agg #[.int .i64 a0_0, .slice Al0_1 l0_1.length cl0_1, .slice Al0_2 l0_2.length cl0_2, .slice Al0_3 l0_3.length cl0_3, .int .i64 a0_4]) 0 (some 5) rfl rfl rfl) rfl ?_))))))))))
 revert H; refine bdI ?_; rintro ⟨t1_0, t1_1, t1_2, t1_3, t1_4⟩ A1 H
 refine so rfl (op_call (impl_cloneTask.ok a0_0 l0_1 Al0_1 cl0_1 l0_2 Al0_2 cl0_2 l0_3 Al0_3 cl0_3 a0_4 _ _ _ _ _ A1) [⟨0, 0, 0, false⟩, ⟨1, 0, 0, false⟩, ⟨2, 0, 0, false⟩] 1 rfl rfl rfl rfl rfl ?_)
 rintro _ _ _ ⟨At1_1, ct1_1, At1_2, ct1_2, At1_3, ct1_3, rfl, rfl, rfl⟩
 refine so rfl (op_alloc (cs := [.int .i64 0, .slice none 0 0, .slice none 0 0, .slice none 0 0, .int .i64 0]) (by kernel_rfl) rfl fun b6 => (so rfl (op_st (cs' := [.int .i64 t1_0, .slice At1_1 t1_1.length ct1_1, .slice At1_2 t1_2.length ct1_2, .slice At1_3 t1_3.length ct1_3, .int .i64 t1_4]) 2 rfl rfl rfl rfl rfl rfl (re (gs (gs (rg (sv (EV.ld (v := .agg #[.int .i64 a0_0, .slice Al0_1 l0_1.length cl0_1, .slice Al0_2 l0_2.length cl0_2, .slice Al0_3 l0_3.length cl0_3, .int .i64 a0_4]) 0 (some 5) rfl rfl rfl) rfl ?_))))))))
 revert H; refine bdI ?_; rintro t2 A2 H
 refine so rfl (op_call (impl_IsValidTask.ok k a0_0 l0_1 Al0_1 cl0_1 l0_2 Al0_2 cl0_2 l0_3 Al0_3 cl0_3 a0_4 _ A2) [⟨0, 0, 0, false⟩, ⟨1, 0, 0, false⟩, ⟨2, 0, 0, false⟩] 5 rfl rfl rfl rfl rfl ?_)
 rintro _ _ _ ⟨rfl, rfl, rfl⟩
 refine sv (EV.nt rfl) rfl (re (pr [1, 5, 6, 16] [1, 2] [3, 4, 5, 6] rfl rfl rfl rfl ?_))
 revert H; refine ifsI ?_ ?_ <;> intro c3 H
 ·
  subst c3
  refine gf rfl rfl (gk (gs (rg (so rfl (op_lit (s := 7) (by_ := 56) k92 ([] : List S92) [] [] 5 [] rfl rfl rfl rfl rfl rfl rfl rfl rfl rfl rfl rfl rfl dq rfl fun A18_4 c18_4 => (sv (EV.as rfl) rfl (re (gs (gs (rg (sv (EV.fa 1 rfl) rfl (sv (EV.ld 1 none rfl rfl rfl) rfl (sv (EV.ln rfl) rfl (sv (EV.mv rfl) rfl (re (gb (nil_ k70 6 dq (nil_ k70 7 dq (nil_ .bool 8 dq ?_)))))))))))))))))))
  refine lo (fun kk S => ∃ (x22_7 : List S92) (Ax22_7 : Option Addr) (cx22_7 : Nat) (x22_20 : List S70) (Ax22_20 : Option Addr) (cx22_20 : Nat) (x22_21 : Int) (x22_22 : Int) (x22_5_0 : Int) (x22_5_1 : List S70) (Ax22_5_1 : Option Addr) (cx22_5_1 : Nat) (x22_5_2 : List S70) (Ax22_5_2 : Option Addr) (cx22_5_2 : Nat) (x22_5_3 : List Bool) (Ax22_5_3 : Option Addr) (cx22_5_3 : Nat) (x22_5_4 : Int) (x22_6_0 : Int) (x22_6_1 : List S70) (Ax22_6_1 : Option Addr) (cx22_6_1 : Nat) (x22_6_2 : List S70) (Ax22_6_2 : Option Addr) (cx22_6_2 : Nat) (x22_6_3 : List Bool) (Ax22_6_3 : Option Addr) (cx22_6_3 : Nat) (x22_6_4 : Int), impl_JoinChunk.l0 kk x22_7 x22_20 x22_21 x22_22 x22_5_0 x22_5_1 x22_5_2 x22_5_3 x22_5_4 x22_6_0 x22_6_1 x22_6_2 x22_6_3 x22_6_4 l1 = some (r0, r1, r2, r3, r4, r5) ∧ S = ⟨[(1, .slice Al1 l1.length cl1), (5, .pointer (some ⟨b5, 0, none⟩)), (6, .pointer (some ⟨b6, 0, none⟩)), (7, .slice Ax22_7 x22_7.length cx22_7), (20, .slice Ax22_20 x22_20.length cx22_20), (21, .int .i64 x22_21), (22, .int .i64 x22_22)], [⟨b5, 44, [.int .i64 x22_5_0, .slice Ax22_5_1 x22_5_1.length cx22_5_1, .slice Ax22_5_2 x22_5_2.length cx22_5_2, .slice Ax22_5_3 x22_5_3.length cx22_5_3, .int .i64 x22_5_4]⟩, ⟨b6, 44, [.int .i64 x22_6_0, .slice Ax22_6_1 x22_6_1.length cx22_6_1, .slice Ax22_6_2 x22_6_2.length cx22_6_2, .slice Ax22_6_3 x22_6_3.length cx22_6_3, .int .i64 x22_6_4]⟩], [.sl 2 k92 Ax22_7 cx22_7 x22_7 1 true, .sl 2 k70 Ax22_20 cx22_20 x22_20 2 true, .sl 2 k70 Ax22_5_1 cx22_5_1 x22_5_1 3 true, .sl 2 k70 Ax22_5_2 cx22_5_2 x22_5_2 4 true, .sl 2 .bool Ax22_5_3 cx22_5_3 x22_5_3 5 true, .sl 2 k70 Ax22_6_1 cx22_6_1 x22_6_1 2 true, .sl 2 k70 Ax22_6_2 cx22_6_2 x22_6_2 6 true, .sl 2 .bool Ax22_6_3 cx22_6_3 x22_6_3 7 true, .sl 0 k70 Al1 cl1 l1 0 false]⟩) (fun S hS => ?_) (fun n0 ih0 S hS => ?_) ⟨[], A18_4, c18_4, t1_1, At1_1, ct1_1, (t1_1.length : Int), 0, 0, [], none, 0, [], none, 0, [], none, 0, 0, t1_0, t1_1, At1_1, ct1_1, t1_2, At1_2, ct1_2, t1_3, At1_3, ct1_3, t1_4, H, rfl⟩ (fun h => wk [1, 5, 6, 7, 20, 21, 22] [0, 1] [⟨4, 2, 1, true⟩, ⟨1, 2, 2, true⟩, ⟨5, 2, 3, true⟩, ⟨6, 2, 4, true⟩, ⟨7, 2, 5, true⟩, ⟨1, 2, 2, true⟩, ⟨2, 2, 6, true⟩, ⟨3, 2, 7, true⟩, ⟨0, 0, 0, false⟩] h)
  · clear H; obtain ⟨_, _, _, _, _, _, _, _, _, _, _, _, _, _, _, _, _, _, _, _, _, _, _, _, _, _, _, _, _, _, H, _⟩ := hS; rw [impl_JoinChunk.l0] at H; cases H
  clear H
  obtain ⟨x22_7, Ax22_7, cx22_7, x22_20, Ax22_20, cx22_20, x22_21, x22_22, x22_5_0, x22_5_1, Ax22_5_1, cx22_5_1, x22_5_2, Ax22_5_2, cx22_5_2, x22_5_3, Ax22_5_3, cx22_5_3, x22_5_4, x22_6_0, x22_6_1, Ax22_6_1, cx22_6_1, x22_6_2, Ax22_6_2, cx22_6_2, x22_6_3, Ax22_6_3, cx22_6_3, x22_6_4, H, rfl⟩ := hS
  rw [impl_JoinChunk.l0] at H
  refine gs (rg (sv (EV.lss rfl rfl) rfl (re (gs ?_))))
  revert H; refine ifsI ?_ ?_ <;> intro c5 H
  ·
   refine gt rfl (dT c5) (gk (gs (gb (gs (rg (sv (EV.mv rfl) rfl ?_))))))
   revert H; refine ggI ?_; intro g6 H
   revert H; refine ggI ?_; intro g7 H
   refine sv (EV.ix 1 rfl rfl rfl g6 g7 rfl) rfl (sv (EV.le (v := .agg #[.int .i64 ((rd_T70 x22_20 x22_22).f0), .int .i64 ((rd_T70 x22_20 x22_22).f1), .int .i64 ((rd_T70 x22_20 x22_22).f2)]) x22_22 0 (some 3) 1 z70 rfl rfl rfl g6 g7 rfl rfl rfl) rfl (so rfl (op_alloc (cs := [.int .i64 0, .int .i64 0, .int .i64 0]) (by kernel_rfl) rfl fun b9 => (sv (EV.as rfl) rfl (so rfl (op_st (cs' := [.int .i64 ((rd_T70 x22_20 x22_22).f0), .int .i64 ((rd_T70 x22_20 x22_22).f1), .int .i64 ((rd_T70 x22_20 x22_22).f2)]) 2 rfl rfl rfl rfl rfl rfl (re (gs (gs (rg (sv (EV.ld (v := .agg #[.int .i64 ((rd_T70 x22_20 x22_22).f0), .int .i64 ((rd_T70 x22_20 x22_22).f1), .int .i64 ((rd_T70 x22_20 x22_22).f2)]) 2 (some 3) rfl rfl rfl) rfl (sv (EV.mv rfl) rfl ?_))))))))))))
   revert H; refine bdI ?_; rintro t8 A8 H
   refine so rfl (op_call (impl_CountMatches.ok n0 ((rd_T70 x22_20 x22_22).f0) ((rd_T70 x22_20 x22_22).f1) ((rd_T70 x22_20 x22_22).f2) l1 Al1 cl1 _ A8) [⟨8, 0, 0, false⟩] 8 rfl rfl rfl rfl rfl ?_)
   rintro _ _ _ ⟨rfl, rfl, rfl⟩
   refine sv (EV.eql rfl rfl) rfl (re (pr [1, 5, 6, 7, 8, 9, 20, 21, 22, 30] [0, 1, 2] [0, 1, 2, 3, 4, 5, 6, 7, 8] rfl rfl rfl rfl ?_))
   revert H; refine ifsI ?_ ?_ <;> intro c9 H
   ·
    exact gt rfl (dT c9) (gx rfl (rg (sv (EV.add rfl rfl) rfl (sv (EV.mv rfl) rfl (re (wk [1, 5, 6, 7, 20, 21, 22] [0, 1] [⟨0, 2, 1, true⟩, ⟨1, 2, 2, true⟩, ⟨2, 2, 3, true⟩, ⟨3, 2, 4, true⟩, ⟨4, 2, 5, true⟩, ⟨5, 2, 2, true⟩, ⟨6, 2, 6, true⟩, ⟨7, 2, 7, true⟩, ⟨8, 0, 0, false⟩] (ih0 _ (by omega) _ ⟨x22_7, Ax22_7, cx22_7, x22_20, Ax22_20, cx22_20, x22_21, wrap64 (x22_22 + 1), x22_5_0, x22_5_1, Ax22_5_1, cx22_5_1, x22_5_2, Ax22_5_2, cx22_5_2, x22_5_3, Ax22_5_3, cx22_5_3, x22_5_4, x22_6_0, x22_6_1, Ax22_6_1, cx22_6_1, x22_6_2, Ax22_6_2, cx22_6_2, x22_6_3, Ax22_6_3, cx22_6_3, x22_6_4, H, rfl⟩)))))))
   ·
    refine gf rfl (dF c9) (gk ?_)
    refine jo (fun S => ∃ (m : Nat) (x40_7 : List S92) (Ax40_7 : Option Addr) (cx40_7 : Nat) (x40_8 : Int) (x40_20 : List S70) (Ax40_20 : Option Addr) (cx40_20 : Nat) (x40_21 : Int) (x40_22 : Int) (x40_5_0 : Int) (x40_5_1 : List S70) (Ax40_5_1 : Option Addr) (cx40_5_1 : Nat) (x40_5_2 : List S70) (Ax40_5_2 : Option Addr) (cx40_5_2 : Nat) (x40_5_3 : List Bool) (Ax40_5_3 : Option Addr) (cx40_5_3 : Nat) (x40_5_4 : Int) (x40_6_0 : Int) (x40_6_1 : List S70) (Ax40_6_1 : Option Addr) (cx40_6_1 : Nat) (x40_6_2 : List S70) (Ax40_6_2 : Option Addr) (cx40_6_2 : Nat) (x40_6_3 : List Bool) (Ax40_6_3 : Option Addr) (cx40_6_3 : Nat) (x40_6_4 : Int), m ≤ n0 ∧ impl_JoinChunk.j0 m x40_7 x40_8 x40_20 x40_21 x40_22 x40_5_0 x40_5_1 x40_5_2 x40_5_3 x40_5_4 x40_6_0 x40_6_1 x40_6_2 x40_6_3 x40_6_4 l1 = some (r0, r1, r2, r3, r4, r5) ∧ S = ⟨[(1, .slice Al1 l1.length cl1), (5, .pointer (some ⟨b5, 0, none⟩)), (6, .pointer (some ⟨b6, 0, none⟩)), (7, .slice Ax40_7 x40_7.length cx40_7), (8, .int .i64 x40_8), (20, .slice Ax40_20 x40_20.length cx40_20), (21, .int .i64 x40_21), (22, .int .i64 x40_22)], [⟨b5, 44, [.int .i64 x40_5_0, .slice Ax40_5_1 x40_5_1.length cx40_5_1, .slice Ax40_5_2 x40_5_2.length cx40_5_2, .slice Ax40_5_3 x40_5_3.length cx40_5_3, .int .i64 x40_5_4]⟩, ⟨b6, 44, [.int .i64 x40_6_0, .slice Ax40_6_1 x40_6_1.length cx40_6_1, .slice Ax40_6_2 x40_6_2.length cx40_6_2, .slice Ax40_6_3 x40_6_3.length cx40_6_3, .int .i64 x40_6_4]⟩], [.sl 2 k92 Ax40_7 cx40_7 x40_7 1 true, .sl 2 k70 Ax40_20 cx40_20 x40_20 2 true, .sl 2 k70 Ax40_5_1 cx40_5_1 x40_5_1 3 true, .sl 2 k70 Ax40_5_2 cx40_5_2 x40_5_2 4 true, .sl 2 .bool Ax40_5_3 cx40_5_3 x40_5_3 5 true, .sl 2 k70 Ax40_6_1 cx40_6_1 x40_6_1 2 true, .sl 2 k70 Ax40_6_2 cx40_6_2 x40_6_2 6 true, .sl 2 .bool Ax40_6_3 cx40_6_3 x40_6_3 7 true, .sl 0 k70 Al1 cl1 l1 0 false]⟩) (fun S hS => ?_) (fun jh0 => ?_)
    ·
     clear H
     obtain ⟨m10, x40_7, Ax40_7, cx40_7, x40_8, x40_20, Ax40_20, cx40_20, x40_21, x40_22, x40_5_0, x40_5_1, Ax40_5_1, cx40_5_1, x40_5_2, Ax40_5_2, cx40_5_2, x40_5_3, Ax40_5_3, cx40_5_3, x40_5_4, x40_6_0, x40_6_1, Ax40_6_1, cx40_6_1, x40_6_2, Ax40_6_2, cx40_6_2, x40_6_3, Ax40_6_3, cx40_6_3, x40_6_4, lm10, H, rfl⟩ := hS
     rcases m10 with _ | m10
     · rw [impl_JoinChunk.j0] at H; cases H
     rw [impl_JoinChunk.j0] at H
     refine rg (sv (EV.fa 3 rfl) rfl (sv (EV.ld 1 none rfl rfl rfl) rfl (sv (EV.mv rfl) rfl ?_)))
     revert H; refine ggI ?_; intro g11 H
     revert H; refine ggI ?_; intro g12 H
     exact sv (EV.ix 7 rfl rfl rfl g11 g12 rfl) rfl (so rfl (op_stf x40_8 0 7 false true rfl rfl rfl rfl g11 g12 rfl rfl rfl rfl dq rfl (rlT 68 (v' := .slice Ax40_6_3 (x40_6_3.set x40_8.toNat true).length cx40_6_3) rfl (sle _ _ _ _ _) (rlB 1 (cs' := [.int .i64 x40_6_0, .slice Ax40_6_1 x40_6_1.length cx40_6_1, .slice Ax40_6_2 x40_6_2.length cx40_6_2, .slice Ax40_6_3 (x40_6_3.set x40_8.toNat true).length cx40_6_3, .int .i64 x40_6_4]) rfl (by simp only [List.length_set]) (nmE (en := [.sl 2 k92 Ax40_7 cx40_7 x40_7 1 true, .sl 2 k70 Ax40_20 cx40_20 x40_20 2 true, .sl 2 k70 Ax40_5_1 cx40_5_1 x40_5_1 3 true, .sl 2 k70 Ax40_5_2 cx40_5_2 x40_5_2 4 true, .sl 2 .bool Ax40_5_3 cx40_5_3 x40_5_3 5 true, .sl 2 k70 Ax40_6_1 cx40_6_1 x40_6_1 2 true, .sl 2 k70 Ax40_6_2 cx40_6_2 x40_6_2 6 true, .sl 0 k70 Al1 cl1 l1 0 false, .sl 2 .bool Ax40_6_3 cx40_6_3 (x40_6_3.set x40_8.toNat true) 7 true]) (by kernel_rfl) (re (ge (rg (sv (EV.add rfl rfl) rfl (sv (EV.mv rfl) rfl (re (wk [1, 5, 6, 7, 20, 21, 22] [0, 1] [⟨0, 2, 1, true⟩, ⟨1, 2, 2, true⟩, ⟨2, 2, 3, true⟩, ⟨3, 2, 4, true⟩, ⟨4, 2, 5, true⟩, ⟨5, 2, 2, true⟩, ⟨6, 2, 6, true⟩, ⟨8, 2, 7, true⟩, ⟨7, 0, 0, false⟩] (ih0 _ (by omega) _ ⟨x40_7, Ax40_7, cx40_7, x40_20, Ax40_20, cx40_20, x40_21, wrap64 (x40_22 + 1), x40_5_0, x40_5_1, Ax40_5_1, cx40_5_1, x40_5_2, Ax40_5_2, cx40_5_2, x40_5_3, Ax40_5_3, cx40_5_3, x40_5_4, x40_6_0, x40_6_1, Ax40_6_1, cx40_6_1, x40_6_2, Ax40_6_2, cx40_6_2, x40_6_3.set x40_8.toNat true, Ax40_6_3, cx40_6_3, x40_6_4, H, rfl⟩)))))))))))))
    ·
     refine gs (rg (sv (EV.fa 0 rfl) rfl (sv (EV.ld 1 none rfl rfl rfl) rfl (re (gb (gs (rg (sv (EV.eql rfl rfl) rfl (sv (EV.as rfl) rfl (re ?_))))))))))
     revert H; refine ifsI ?_ ?_ <;> intro c13 H
     ·
      refine gt rfl (dT c13) (gs (rg (sv (EV.fa 3 rfl) rfl (sv (EV.ld 1 none rfl rfl rfl) rfl (sv (EV.mv rfl) rfl ?_)))))
      revert H; refine ggI ?_; intro g14 H
      refine sv (EV.ix 7 rfl rfl rfl g6 g14 rfl) rfl (sv (EV.le (v := .bool (rdOf false x22_6_3 x22_22)) x22_22 0 none 7 false rfl rfl rfl g6 g14 rfl rfl rfl) rfl (sv (EV.nt rfl) rfl (re (pr [1, 5, 6, 7, 8, 9, 20, 21, 22, 40] [0, 1, 2] [0, 1, 2, 3, 4, 5, 6, 7, 8] rfl rfl rfl rfl ?_))))
      revert H; refine ifsI ?_ ?_ <;> intro c15 H
      ·
       exact gf rfl (bN c15) (gk (ge (wk [1, 5, 6, 7, 8, 20, 21, 22] [0, 1] [⟨0, 2, 1, true⟩, ⟨1, 2, 2, true⟩, ⟨2, 2, 3, true⟩, ⟨3, 2, 4, true⟩, ⟨4, 2, 5, true⟩, ⟨5, 2, 2, true⟩, ⟨6, 2, 6, true⟩, ⟨7, 2, 7, true⟩, ⟨8, 0, 0, false⟩] (jh0 _ ⟨_, x22_7, Ax22_7, cx22_7, x22_22, x22_20, Ax22_20, cx22_20, x22_21, x22_22, x22_5_0, x22_5_1, Ax22_5_1, cx22_5_1, x22_5_2, Ax22_5_2, cx22_5_2, x22_5_3, Ax22_5_3, cx22_5_3, x22_5_4, x22_6_0, x22_6_1, Ax22_6_1, cx22_6_1, x22_6_2, Ax22_6_2, cx22_6_2, x22_6_3, Ax22_6_3, cx22_6_3, x22_6_4, by omega, H, rfl⟩))))
      ·
       refine gt rfl (bM c15) (rg (sv (EV.mv rfl) rfl (sv (EV.ld (v := .agg #[.int .i64 ((rd_T70 x22_20 x22_22).f0), .int .i64 ((rd_T70 x22_20 x22_22).f1), .int .i64 ((rd_T70 x22_20 x22_22).f2)]) 2 (some 3) rfl rfl rfl) rfl (sv (EV.bd (v := .agg #[.int .i64 ((rd_T70 x22_20 x22_22).f0), .int .i64 ((rd_T70 x22_20 x22_22).f1), .int .i64 ((rd_T70 x22_20 x22_22).f2), .int .i64 0, .int .i64 0, .int .i64 0, .bool false]) rfl (by kernel_rfl)) rfl (so rfl (op_lit (s := 7) (by_ := 56) k92 ([(⟨(⟨(rd_T70 x22_20 x22_22).f0, (rd_T70 x22_20 x22_22).f1, (rd_T70 x22_20 x22_22).f2⟩ : S70), (⟨0, 0, 0⟩ : S70), false⟩ : S92)] : List S92) [[]] [] 8 [.tmp 43] rfl rfl rfl rfl rfl rfl rfl rfl rfl rfl rfl rfl rfl dq rfl fun A44_16 c44_16 => ?_))))))
       revert H; refine ggI ?_; intro g17 H
       exact so rfl (op_app (k := k92) (s := 7) (by_ := 56) 0 9 rfl rfl rfl rfl (ap1 g17 dq) (ap1n g17 dq) (.inl rfl) true (fun _ => .inl rfl) rfl rfl fun A45_18 c45_18 => (nmE (en := [.sl 2 k70 Ax22_20 cx22_20 x22_20 2 true, .sl 2 k70 Ax22_5_1 cx22_5_1 x22_5_1 3 true, .sl 2 k70 Ax22_5_2 cx22_5_2 x22_5_2 4 true, .sl 2 .bool Ax22_5_3 cx22_5_3 x22_5_3 5 true, .sl 2 k70 Ax22_6_1 cx22_6_1 x22_6_1 2 true, .sl 2 k70 Ax22_6_2 cx22_6_2 x22_6_2 6 true, .sl 2 .bool Ax22_6_3 cx22_6_3 x22_6_3 7 true, .sl 0 k70 Al1 cl1 l1 0 false, .sl 2 k92 A44_16 c44_16 ([(⟨(⟨(rd_T70 x22_20 x22_22).f0, (rd_T70 x22_20 x22_22).f1, (rd_T70 x22_20 x22_22).f2⟩ : S70), (⟨0, 0, 0⟩ : S70), false⟩ : S92)] : List S92) 8 true, .sl 2 k92 A45_18 c45_18 (x22_7 ++ ([(⟨(⟨(rd_T70 x22_20 x22_22).f0, (rd_T70 x22_20 x22_22).f1, (rd_T70 x22_20 x22_22).f2⟩ : S70), (⟨0, 0, 0⟩ : S70), false⟩ : S92)] : List S92)) 1 true]) (by kernel_rfl) (sv (EV.as rfl) rfl (re (pr [1, 5, 6, 7, 8, 20, 21, 22] [0, 1] [0, 1, 2, 3, 4, 5, 6, 7, 9] rfl rfl rfl rfl (ge (wk [1, 5, 6, 7, 8, 20, 21, 22] [0, 1] [⟨8, 2, 1, true⟩, ⟨0, 2, 2, true⟩, ⟨1, 2, 3, true⟩, ⟨2, 2, 4, true⟩, ⟨3, 2, 5, true⟩, ⟨4, 2, 2, true⟩, ⟨5, 2, 6, true⟩, ⟨6, 2, 7, true⟩, ⟨7, 0, 0, false⟩] (jh0 _ ⟨_, x22_7 ++ ([(⟨(⟨(rd_T70 x22_20 x22_22).f0, (rd_T70 x22_20 x22_22).f1, (rd_T70 x22_20 x22_22).f2⟩ : S70), (⟨0, 0, 0⟩ : S70), false⟩ : S92)] : List S92), A45_18, c45_18, x22_22, x22_20, Ax22_20, cx22_20, x22_21, x22_22, x22_5_0, x22_5_1, Ax22_5_1, cx22_5_1, x22_5_2, Ax22_5_2, cx22_5_2, x22_5_3, Ax22_5_3, cx22_5_3, x22_5_4, x22_6_0, x22_6_1, Ax22_6_1, cx22_6_1, x22_6_2, Ax22_6_2, cx22_6_2, x22_6_3, Ax22_6_3, cx22_6_3, x22_6_4, by omega, H, rfl⟩))))))))
     ·
      refine gf rfl (dF c13) ?_
      refine jo (fun S => ∃ (m : Nat) (x41_7 : List S92) (Ax41_7 : Option Addr) (cx41_7 : Nat) (x41_8 : Int) (x41_20 : List S70) (Ax41_20 : Option Addr) (cx41_20 : Nat) (x41_21 : Int) (x41_22 : Int) (x41_46 : Bool) (x41_5_0 : Int) (x41_5_1 : List S70) (Ax41_5_1 : Option Addr) (cx41_5_1 : Nat) (x41_5_2 : List S70) (Ax41_5_2 : Option Addr) (cx41_5_2 : Nat) (x41_5_3 : List Bool) (Ax41_5_3 : Option Addr) (cx41_5_3 : Nat) (x41_5_4 : Int) (x41_6_0 : Int) (x41_6_1 : List S70) (Ax41_6_1 : Option Addr) (cx41_6_1 : Nat) (x41_6_2 : List S70) (Ax41_6_2 : Option Addr) (cx41_6_2 : Nat) (x41_6_3 : List Bool) (Ax41_6_3 : Option Addr) (cx41_6_3 : Nat) (x41_6_4 : Int) (x41_9_0 : Int) (x41_9_1 : Int) (x41_9_2 : Int), m ≤ n0 ∧ impl_JoinChunk.j1 m x41_7 x41_8 x41_20 x41_21 x41_22 x41_46 x41_5_0 x41_5_1 x41_5_2 x41_5_3 x41_5_4 x41_6_0 x41_6_1 x41_6_2 x41_6_3 x41_6_4 x41_9_0 x41_9_1 x41_9_2 l1 = some (r0, r1, r2, r3, r4, r5) ∧ S = ⟨[(1, .slice Al1 l1.length cl1), (5, .pointer (some ⟨b5, 0, none⟩)), (6, .pointer (some ⟨b6, 0, none⟩)), (7, .slice Ax41_7 x41_7.length cx41_7), (8, .int .i64 x41_8), (9, .pointer (some ⟨b9, 0, none⟩)), (20, .slice Ax41_20 x41_20.length cx41_20), (21, .int .i64 x41_21), (22, .int .i64 x41_22), (46, .bool x41_46)], [⟨b5, 44, [.int .i64 x41_5_0, .slice Ax41_5_1 x41_5_1.length cx41_5_1, .slice Ax41_5_2 x41_5_2.length cx41_5_2, .slice Ax41_5_3 x41_5_3.length cx41_5_3, .int .i64 x41_5_4]⟩, ⟨b6, 44, [.int .i64 x41_6_0, .slice Ax41_6_1 x41_6_1.length cx41_6_1, .slice Ax41_6_2 x41_6_2.length cx41_6_2, .slice Ax41_6_3 x41_6_3.length cx41_6_3, .int .i64 x41_6_4]⟩, ⟨b9, 70, [.int .i64 x41_9_0, .int .i64 x41_9_1, .int .i64 x41_9_2]⟩], [.sl 2 k92 Ax41_7 cx41_7 x41_7 1 true, .sl 2 k70 Ax41_20 cx41_20 x41_20 2 true, .sl 2 k70 Ax41_5_1 cx41_5_1 x41_5_1 3 true, .sl 2 k70 Ax41_5_2 cx41_5_2 x41_5_2 4 true, .sl 2 .bool Ax41_5_3 cx41_5_3 x41_5_3 5 true, .sl 2 k70 Ax41_6_1 cx41_6_1 x41_6_1 2 true, .sl 2 k70 Ax41_6_2 cx41_6_2 x41_6_2 6 true, .sl 2 .bool Ax41_6_3 cx41_6_3 x41_6_3 7 true, .sl 0 k70 Al1 cl1 l1 0 false]⟩) (fun S hS => ?_) (fun jh1 => ?_)
      ·
       clear H
       obtain ⟨m19, x41_7, Ax41_7, cx41_7, x41_8, x41_20, Ax41_20, cx41_20, x41_21, x41_22, x41_46, x41_5_0, x41_5_1, Ax41_5_1, cx41_5_1, x41_5_2, Ax41_5_2, cx41_5_2, x41_5_3, Ax41_5_3, cx41_5_3, x41_5_4, x41_6_0, x41_6_1, Ax41_6_1, cx41_6_1, x41_6_2, Ax41_6_2, cx41_6_2, x41_6_3, Ax41_6_3, cx41_6_3, x41_6_4, x41_9_0, x41_9_1, x41_9_2, lm19, H, rfl⟩ := hS
       rcases m19 with _ | m19
       · rw [impl_JoinChunk.j1] at H; cases H
       rw [impl_JoinChunk.j1] at H
       revert H; refine ifsI ?_ ?_ <;> intro c20 H
       ·
        subst c20
        refine gt rfl rfl (gs (rg (sv (EV.mv rfl) rfl (sv (EV.ln rfl) rfl (sv (EV.mv rfl) rfl (re (gb ?_)))))))
        refine lo (fun kk S => ∃ (x42_7 : List S92) (Ax42_7 : Option Addr) (cx42_7 : Nat) (x42_8 : Int) (x42_20 : List S70) (Ax42_20 : Option Addr) (cx42_20 : Nat) (x42_21 : Int) (x42_22 : Int) (x42_50 : Int) (x42_51 : Int) (x42_5_0 : Int) (x42_5_1 : List S70) (Ax42_5_1 : Option Addr) (cx42_5_1 : Nat) (x42_5_2 : List S70) (Ax42_5_2 : Option Addr) (cx42_5_2 : Nat) (x42_5_3 : List Bool) (Ax42_5_3 : Option Addr) (cx42_5_3 : Nat) (x42_5_4 : Int) (x42_6_0 : Int) (x42_6_1 : List S70) (Ax42_6_1 : Option Addr) (cx42_6_1 : Nat) (x42_6_2 : List S70) (Ax42_6_2 : Option Addr) (cx42_6_2 : Nat) (x42_6_3 : List Bool) (Ax42_6_3 : Option Addr) (cx42_6_3 : Nat) (x42_6_4 : Int) (x42_9_0 : Int) (x42_9_1 : Int) (x42_9_2 : Int), kk ≤ m19 ∧ impl_JoinChunk.l1 kk x42_7 x42_8 x42_20 x42_21 x42_22 x42_50 x42_51 x42_5_0 x42_5_1 x42_5_2 x42_5_3 x42_5_4 x42_6_0 x42_6_1 x42_6_2 x42_6_3 x42_6_4 x42_9_0 x42_9_1 x42_9_2 l1 = some (r0, r1, r2, r3, r4, r5) ∧ S = ⟨[(1, .slice Al1 l1.length cl1), (5, .pointer (some ⟨b5, 0, none⟩)), (6, .pointer (some ⟨b6, 0, none⟩)), (7, .slice Ax42_7 x42_7.length cx42_7), (8, .int .i64 x42_8), (9, .pointer (some ⟨b9, 0, none⟩)), (20, .slice Ax42_20 x42_20.length cx42_20), (21, .int .i64 x42_21), (22, .int .i64 x42_22), (49, .slice Al1 l1.length cl1), (50, .int .i64 x42_50), (51, .int .i64 x42_51)], [⟨b5, 44, [.int .i64 x42_5_0, .slice Ax42_5_1 x42_5_1.length cx42_5_1, .slice Ax42_5_2 x42_5_2.length cx42_5_2, .slice Ax42_5_3 x42_5_3.length cx42_5_3, .int .i64 x42_5_4]⟩, ⟨b6, 44, [.int .i64 x42_6_0, .slice Ax42_6_1 x42_6_1.length cx42_6_1, .slice Ax42_6_2 x42_6_2.length cx42_6_2, .slice Ax42_6_3 x42_6_3.length cx42_6_3, .int .i64 x42_6_4]⟩, ⟨b9, 70, [.int .i64 x42_9_0, .int .i64 x42_9_1, .int .i64 x42_9_2]⟩], [.sl 2 k92 Ax42_7 cx42_7 x42_7 1 true, .sl 2 k70 Ax42_20 cx42_20 x42_20 2 true, .sl 2 k70 Ax42_5_1 cx42_5_1 x42_5_1 3 true, .sl 2 k70 Ax42_5_2 cx42_5_2 x42_5_2 4 true, .sl 2 .bool Ax42_5_3 cx42_5_3 x42_5_3 5 true, .sl 2 k70 Ax42_6_1 cx42_6_1 x42_6_1 2 true, .sl 2 k70 Ax42_6_2 cx42_6_2 x42_6_2 6 true, .sl 2 .bool Ax42_6_3 cx42_6_3 x42_6_3 7 true, .sl 0 k70 Al1 cl1 l1 0 false]⟩) (fun S hS => ?_) (fun n1 ih1 S hS => ?_) ⟨x41_7, Ax41_7, cx41_7, x41_8, x41_20, Ax41_20, cx41_20, x41_21, x41_22, (l1.length : Int), 0, x41_5_0, x41_5_1, Ax41_5_1, cx41_5_1, x41_5_2, Ax41_5_2, cx41_5_2, x41_5_3, Ax41_5_3, cx41_5_3, x41_5_4, x41_6_0, x41_6_1, Ax41_6_1, cx41_6_1, x41_6_2, Ax41_6_2, cx41_6_2, x41_6_3, Ax41_6_3, cx41_6_3, x41_6_4, x41_9_0, x41_9_1, x41_9_2, by omega, H, rfl⟩ (fun h => wk [1, 5, 6, 7, 8, 9, 20, 21, 22, 49, 50, 51] [0, 1, 2] [⟨0, 2, 1, true⟩, ⟨1, 2, 2, true⟩, ⟨2, 2, 3, true⟩, ⟨3, 2, 4, true⟩, ⟨4, 2, 5, true⟩, ⟨5, 2, 2, true⟩, ⟨6, 2, 6, true⟩, ⟨7, 2, 7, true⟩, ⟨8, 0, 0, false⟩] h)
        · clear H; obtain ⟨_, _, _, _, _, _, _, _, _, _, _, _, _, _, _, _, _, _, _, _, _, _, _, _, _, _, _, _, _, _, _, _, _, _, _, _, _, H, _⟩ := hS; rw [impl_JoinChunk.l1] at H; cases H
        clear H
        obtain ⟨x42_7, Ax42_7, cx42_7, x42_8, x42_20, Ax42_20, cx42_20, x42_21, x42_22, x42_50, x42_51, x42_5_0, x42_5_1, Ax42_5_1, cx42_5_1, x42_5_2, Ax42_5_2, cx42_5_2, x42_5_3, Ax42_5_3, cx42_5_3, x42_5_4, x42_6_0, x42_6_1, Ax42_6_1, cx42_6_1, x42_6_2, Ax42_6_2, cx42_6_2, x42_6_3, Ax42_6_3, cx42_6_3, x42_6_4, x42_9_0, x42_9_1, x42_9_2, lk1, H, rfl⟩ := hS
        rw [impl_JoinChunk.l1] at H
        refine gs (rg (sv (EV.lss rfl rfl) rfl (re (gs ?_))))
        revert H; refine ifsI ?_ ?_ <;> intro c21 H
        ·
         refine gt rfl (dT c21) (gk (gs (gb (gs (rg ?_)))))
         revert H; refine ggI ?_; intro g22 H
         revert H; refine ggI ?_; intro g23 H
         refine sv (EV.ix 8 rfl rfl rfl g22 g23 rfl) rfl (sv (EV.le (v := .agg #[.int .i64 ((rd_T70 l1 x42_51).f0), .int .i64 ((rd_T70 l1 x42_51).f1), .int .i64 ((rd_T70 l1 x42_51).f2)]) x42_51 0 (some 3) 8 z70 rfl rfl rfl g22 g23 rfl rfl rfl) rfl (so rfl (op_alloc (cs := [.int .i64 0, .int .i64 0, .int .i64 0]) (by kernel_rfl) rfl fun b11 => (so rfl (op_st (cs' := [.int .i64 ((rd_T70 l1 x42_51).f0), .int .i64 ((rd_T70 l1 x42_51).f1), .int .i64 ((rd_T70 l1 x42_51).f2)]) 3 rfl rfl rfl rfl rfl rfl (re (gs (rg (sv (EV.fa 0 rfl) rfl (sv (EV.ld 3 none rfl rfl rfl) rfl (sv (EV.fa 0 rfl) rfl (sv (EV.ld 2 none rfl rfl rfl) rfl (sv (EV.eql rfl rfl) rfl (re (pr [1, 5, 6, 7, 8, 9, 11, 20, 21, 22, 49, 50, 51, 59] [0, 1, 2, 3] [0, 1, 2, 3, 4, 5, 6, 7, 8] rfl rfl rfl rfl ?_)))))))))))))))
         revert H; refine ifsI ?_ ?_ <;> intro c24 H
         ·
          refine gt rfl (dT c24) (rg (sv (EV.mv rfl) rfl (sv (EV.ld (v := .agg #[.int .i64 x42_9_0, .int .i64 x42_9_1, .int .i64 x42_9_2]) 2 (some 3) rfl rfl rfl) rfl (sv (EV.ld (v := .agg #[.int .i64 ((rd_T70 l1 x42_51).f0), .int .i64 ((rd_T70 l1 x42_51).f1), .int .i64 ((rd_T70 l1 x42_51).f2)]) 3 (some 3) rfl rfl rfl) rfl (sv (EV.bd (v := .agg #[.int .i64 x42_9_0, .int .i64 x42_9_1, .int .i64 x42_9_2, .int .i64 ((rd_T70 l1 x42_51).f0), .int .i64 ((rd_T70 l1 x42_51).f1), .int .i64 ((rd_T70 l1 x42_51).f2), .bool true]) rfl (by kernel_rfl)) rfl (so rfl (op_lit (s := 7) (by_ := 56) k92 ([(⟨(⟨x42_9_0, x42_9_1, x42_9_2⟩ : S70), (⟨(rd_T70 l1 x42_51).f0, (rd_T70 l1 x42_51).f1, (rd_T70 l1 x42_51).f2⟩ : S70), true⟩ : S92)] : List S92) [[]] [] 8 [.tmp 63] rfl rfl rfl rfl rfl rfl rfl rfl rfl rfl rfl rfl rfl dq rfl fun A64_25 c64_25 => ?_)))))))
          revert H; refine ggI ?_; intro g26 H
          exact so rfl (op_app (k := k92) (s := 7) (by_ := 56) 0 9 rfl rfl rfl rfl (ap1 g26 dq) (ap1n g26 dq) (.inl rfl) true (fun _ => .inl rfl) rfl rfl fun A65_27 c65_27 => (nmE (en := [.sl 2 k70 Ax42_20 cx42_20 x42_20 2 true, .sl 2 k70 Ax42_5_1 cx42_5_1 x42_5_1 3 true, .sl 2 k70 Ax42_5_2 cx42_5_2 x42_5_2 4 true, .sl 2 .bool Ax42_5_3 cx42_5_3 x42_5_3 5 true, .sl 2 k70 Ax42_6_1 cx42_6_1 x42_6_1 2 true, .sl 2 k70 Ax42_6_2 cx42_6_2 x42_6_2 6 true, .sl 2 .bool Ax42_6_3 cx42_6_3 x42_6_3 7 true, .sl 0 k70 Al1 cl1 l1 0 false, .sl 2 k92 A64_25 c64_25 ([(⟨(⟨x42_9_0, x42_9_1, x42_9_2⟩ : S70), (⟨(rd_T70 l1 x42_51).f0, (rd_T70 l1 x42_51).f1, (rd_T70 l1 x42_51).f2⟩ : S70), true⟩ : S92)] : List S92) 8 true, .sl 2 k92 A65_27 c65_27 (x42_7 ++ ([(⟨(⟨x42_9_0, x42_9_1, x42_9_2⟩ : S70), (⟨(rd_T70 l1 x42_51).f0, (rd_T70 l1 x42_51).f1, (rd_T70 l1 x42_51).f2⟩ : S70), true⟩ : S92)] : List S92)) 1 true]) (by kernel_rfl) (sv (EV.as rfl) rfl (re (pr [1, 5, 6, 7, 8, 9, 20, 21, 22, 49, 50, 51] [0, 1, 2] [0, 1, 2, 3, 4, 5, 6, 7, 9] rfl rfl rfl rfl (ge (rg (sv (EV.add rfl rfl) rfl (sv (EV.mv rfl) rfl (re (wk [1, 5, 6, 7, 8, 9, 20, 21, 22, 49, 50, 51] [0, 1, 2] [⟨8, 2, 1, true⟩, ⟨0, 2, 2, true⟩, ⟨1, 2, 3, true⟩, ⟨2, 2, 4, true⟩, ⟨3, 2, 5, true⟩, ⟨4, 2, 2, true⟩, ⟨5, 2, 6, true⟩, ⟨6, 2, 7, true⟩, ⟨7, 0, 0, false⟩] (ih1 _ (by omega) _ ⟨x42_7 ++ ([(⟨(⟨x42_9_0, x42_9_1, x42_9_2⟩ : S70), (⟨(rd_T70 l1 x42_51).f0, (rd_T70 l1 x42_51).f1, (rd_T70 l1 x42_51).f2⟩ : S70), true⟩ : S92)] : List S92), A65_27, c65_27, x42_8, x42_20, Ax42_20, cx42_20, x42_21, x42_22, x42_50, wrap64 (x42_51 + 1), x42_5_0, x42_5_1, Ax42_5_1, cx42_5_1, x42_5_2, Ax42_5_2, cx42_5_2, x42_5_3, Ax42_5_3, cx42_5_3, x42_5_4, x42_6_0, x42_6_1, Ax42_6_1, cx42_6_1, x42_6_2, Ax42_6_2, cx42_6_2, x42_6_3, Ax42_6_3, cx42_6_3, x42_6_4, x42_9_0, x42_9_1, x42_9_2, by omega, H, rfl⟩))))))))))))
         ·
          exact gf rfl (dF c24) (gk (ge (rg (sv (EV.add rfl rfl) rfl (sv (EV.mv rfl) rfl (re (wk [1, 5, 6, 7, 8, 9, 20, 21, 22, 49, 50, 51] [0, 1, 2] [⟨0, 2, 1, true⟩, ⟨1, 2, 2, true⟩, ⟨2, 2, 3, true⟩, ⟨3, 2, 4, true⟩, ⟨4, 2, 5, true⟩, ⟨5, 2, 2, true⟩, ⟨6, 2, 6, true⟩, ⟨7, 2, 7, true⟩, ⟨8, 0, 0, false⟩] (ih1 _ (by omega) _ ⟨x42_7, Ax42_7, cx42_7, x42_8, x42_20, Ax42_20, cx42_20, x42_21, x42_22, x42_50, wrap64 (x42_51 + 1), x42_5_0, x42_5_1, Ax42_5_1, cx42_5_1, x42_5_2, Ax42_5_2, cx42_5_2, x42_5_3, Ax42_5_3, cx42_5_3, x42_5_4, x42_6_0, x42_6_1, Ax42_6_1, cx42_6_1, x42_6_2, Ax42_6_2, cx42_6_2, x42_6_3, Ax42_6_3, cx42_6_3, x42_6_4, x42_9_0, x42_9_1, x42_9_2, by omega, H, rfl⟩))))))))
        ·
         exact gf rfl (dF c21) (gx rfl (ge (wk [1, 5, 6, 7, 8, 20, 21, 22] [0, 1] [⟨0, 2, 1, true⟩, ⟨1, 2, 2, true⟩, ⟨2, 2, 3, true⟩, ⟨3, 2, 4, true⟩, ⟨4, 2, 5, true⟩, ⟨5, 2, 2, true⟩, ⟨6, 2, 6, true⟩, ⟨7, 2, 7, true⟩, ⟨8, 0, 0, false⟩] (jh0 _ ⟨_, x42_7, Ax42_7, cx42_7, x42_8, x42_20, Ax42_20, cx42_20, x42_21, x42_22, x42_5_0, x42_5_1, Ax42_5_1, cx42_5_1, x42_5_2, Ax42_5_2, cx42_5_2, x42_5_3, Ax42_5_3, cx42_5_3, x42_5_4, x42_6_0, x42_6_1, Ax42_6_1, cx42_6_1, x42_6_2, Ax42_6_2, cx42_6_2, x42_6_3, Ax42_6_3, cx42_6_3, x42_6_4, by omega, H, rfl⟩))))
       ·
        obtain rfl := bF c20
        exact gf rfl rfl (gk (ge (wk [1, 5, 6, 7, 8, 20, 21, 22] [0, 1] [⟨0, 2, 1, true⟩, ⟨1, 2, 2, true⟩, ⟨2, 2, 3, true⟩, ⟨3, 2, 4, true⟩, ⟨4, 2, 5, true⟩, ⟨5, 2, 2, true⟩, ⟨6, 2, 6, true⟩, ⟨7, 2, 7, true⟩, ⟨8, 0, 0, false⟩] (jh0 _ ⟨_, x41_7, Ax41_7, cx41_7, x41_8, x41_20, Ax41_20, cx41_20, x41_21, x41_22, x41_5_0, x41_5_1, Ax41_5_1, cx41_5_1, x41_5_2, Ax41_5_2, cx41_5_2, x41_5_3, Ax41_5_3, cx41_5_3, x41_5_4, x41_6_0, x41_6_1, Ax41_6_1, cx41_6_1, x41_6_2, Ax41_6_2, cx41_6_2, x41_6_3, Ax41_6_3, cx41_6_3, x41_6_4, by omega, H, rfl⟩))))
      ·
       refine gs (rg (sv (EV.eql rfl rfl) rfl (sv (EV.as rfl) rfl (re ?_))))
       revert H; refine ifsI ?_ ?_ <;> intro c28 H
       ·
        exact gt rfl (dT c28) (gk (wk [1, 5, 6, 7, 8, 9, 20, 21, 22, 46] [0, 1, 2] [⟨0, 2, 1, true⟩, ⟨1, 2, 2, true⟩, ⟨2, 2, 3, true⟩, ⟨3, 2, 4, true⟩, ⟨4, 2, 5, true⟩, ⟨5, 2, 2, true⟩, ⟨6, 2, 6, true⟩, ⟨7, 2, 7, true⟩, ⟨8, 0, 0, false⟩] (jh1 _ ⟨_, x22_7, Ax22_7, cx22_7, x22_22, x22_20, Ax22_20, cx22_20, x22_21, x22_22, decide (x22_6_0 = 1), x22_5_0, x22_5_1, Ax22_5_1, cx22_5_1, x22_5_2, Ax22_5_2, cx22_5_2, x22_5_3, Ax22_5_3, cx22_5_3, x22_5_4, x22_6_0, x22_6_1, Ax22_6_1, cx22_6_1, x22_6_2, Ax22_6_2, cx22_6_2, x22_6_3, Ax22_6_3, cx22_6_3, x22_6_4, (rd_T70 x22_20 x22_22).f0, (rd_T70 x22_20 x22_22).f1, (rd_T70 x22_20 x22_22).f2, by omega, H, rfl⟩)))
       ·
        exact gf rfl (dF c28) (rg (sv (EV.eql rfl rfl) rfl (sv (EV.as rfl) rfl (re (pr [1, 5, 6, 7, 8, 9, 20, 21, 22, 46] [0, 1, 2] [0, 1, 2, 3, 4, 5, 6, 7, 8] rfl rfl rfl rfl (wk [1, 5, 6, 7, 8, 9, 20, 21, 22, 46] [0, 1, 2] [⟨0, 2, 1, true⟩, ⟨1, 2, 2, true⟩, ⟨2, 2, 3, true⟩, ⟨3, 2, 4, true⟩, ⟨4, 2, 5, true⟩, ⟨5, 2, 2, true⟩, ⟨6, 2, 6, true⟩, ⟨7, 2, 7, true⟩, ⟨8, 0, 0, false⟩] (jh1 _ ⟨_, x22_7, Ax22_7, cx22_7, x22_22, x22_20, Ax22_20, cx22_20, x22_21, x22_22, decide (x22_6_0 = 4), x22_5_0, x22_5_1, Ax22_5_1, cx22_5_1, x22_5_2, Ax22_5_2, cx22_5_2, x22_5_3, Ax22_5_3, cx22_5_3, x22_5_4, x22_6_0, x22_6_1, Ax22_6_1, cx22_6_1, x22_6_2, Ax22_6_2, cx22_6_2, x22_6_3, Ax22_6_3, cx22_6_3, x22_6_4, (rd_T70 x22_20 x22_22).f0, (rd_T70 x22_20 x22_22).f1, (rd_T70 x22_20 x22_22).f2, by omega, H, rfl⟩)))))))
  ·
   refine gf rfl (dF c5) (gx rfl (gs (dr [0, 1] [0, 1, 2, 3, 4, 5, 6, 7, 8] [3] 4 rfl rfl rfl rfl (xv 0 [0, 1] [0, 1, 2, 3, 4, 5, 6, 7, 8] rfl (EV.mv rfl) rfl rfl rfl rfl (xv 1 [0, 1] [0, 1, 2, 3, 4, 5, 6, 7, 8] rfl (EV.ld (v := .agg #[.int .i64 x22_6_0, .slice Ax22_6_1 x22_6_1.length cx22_6_1, .slice Ax22_6_2 x22_6_2.length cx22_6_2, .slice Ax22_6_3 x22_6_3.length cx22_6_3, .int .i64 x22_6_4]) 1 (some 5) rfl rfl rfl) rfl rfl rfl rfl (xv 2 [0, 1] [0, 1, 2, 3, 4, 5, 6, 7, 8] rfl (EV.as rfl) rfl rfl rfl rfl (one1 3 rfl rfl (op_st (cs' := [.int .i64 x22_6_0, .slice Ax22_6_1 x22_6_1.length cx22_6_1, .slice Ax22_6_2 x22_6_2.length cx22_6_2, .slice Ax22_6_3 x22_6_3.length cx22_6_3, .int .i64 x22_6_4]) 0 rfl rfl rfl rfl rfl rfl (xn rfl (xd (pr [4, 5] [0] [0, 5, 6, 7] rfl rfl rfl rfl ?_)))))))))))
   cases H
   exact rt Try.func25 rfl (.tmp rfl (.cell 0 (some 5) rfl rfl rfl .nil)) rfl [] [⟨0, 2, 1, true⟩, ⟨1, 2, 2, true⟩, ⟨2, 2, 3, true⟩, ⟨3, 2, 4, true⟩] rfl rfl rfl rfl rfl ⟨_, _, _, _, _, _, _, _, rfl, rfl, rfl⟩
 ·
  obtain rfl := bF c3
  refine gt rfl rfl (gs (dr [0, 1] [0, 1, 2, 3] [2] 3 rfl rfl rfl rfl (xv 0 [0, 1] [0, 1, 2, 3] rfl (EV.ld (v := .agg #[.int .i64 t1_0, .slice At1_1 t1_1.length ct1_1, .slice At1_2 t1_2.length ct1_2, .slice At1_3 t1_3.length ct1_3, .int .i64 t1_4]) 1 (some 5) rfl rfl rfl) rfl rfl rfl rfl (xv 1 [0, 1] [0, 1, 2, 3] rfl (EV.as rfl) rfl rfl rfl rfl (one1 2 rfl rfl (op_st (cs' := [.int .i64 t1_0, .slice At1_1 t1_1.length ct1_1, .slice At1_2 t1_2.length ct1_2, .slice At1_3 t1_3.length ct1_3, .int .i64 t1_4]) 0 rfl rfl rfl rfl rfl rfl (xn rfl (xd (nil_ k92 5 dq ?_)))))))))
  cases H
  exact rt Try.func25 rfl (.tmp rfl (.cell 0 (some 5) rfl rfl rfl .nil)) rfl [] [⟨4, 2, 1, true⟩, ⟨1, 2, 2, true⟩, ⟨2, 2, 3, true⟩, ⟨3, 2, 4, true⟩] rfl rfl rfl rfl rfl ⟨_, _, _, _, _, _, _, _, rfl, rfl, rfl⟩
end Go.Proofs.Ytajjeemkdjfilaa.K
namespace Go.Proofs.Ytajjeemkdjfilaa.K
open Go Go.RowKit
set_option linter.unusedVariables false
set_option linter.unusedSimpArgs false
mutual
def impl_UnmatchedRows.l0 : Nat → (List S92) → Int → Int → Int → Int → (List S70) → (List S70) → (List Bool) → Option ((List S92))
 | 0, _, _, _, _, _, _, _, _ => none
 | k + 1, x3_3, x3_22, x3_23, x3_1_0, x3_1_4, l0_1, l0_2, l0_3 => if x3_23 < x3_22 then (if 0 ≤ x3_23 then (if x3_23 < (l0_1.length : Int) then (if x3_23 < (l0_3.length : Int) then (if (rdOf false l0_3 x3_23) = true then (impl_UnmatchedRows.l0 k x3_3 x3_22 (wrap64 (x3_23 + 1)) x3_1_0 x3_1_4 l0_1 l0_2 l0_3) else (if x3_3.length < 2513169434916 then (impl_UnmatchedRows.l0 k (x3_3 ++ ([(⟨(⟨(rd_T70 l0_1 x3_23).f0, (rd_T70 l0_1 x3_23).f1, (rd_T70 l0_1 x3_23).f2⟩ : S70), (⟨0, 0, 0⟩ : S70), false⟩ : S92)] : List S92)) x3_22 (wrap64 (x3_23 + 1)) x3_1_0 x3_1_4 l0_1 l0_2 l0_3) else none)) else none) else none) else none) else (some x3_3)
def impl_UnmatchedRows.j0 : Nat → Int → Int → (List S70) → (List S70) → (List Bool) → Option ((List S92))
 | 0, _, _, _, _, _ => none
 | k + 1, x1_1_0, x1_1_4, l0_1, l0_2, l0_3 => impl_UnmatchedRows.l0 k [] (l0_1.length : Int) 0 x1_1_0 x1_1_4 l0_1 l0_2 l0_3
end
def impl_UnmatchedRows.f (k : Nat) (a0_0 : Int) (l0_1 : List S70) (l0_2 : List S70) (l0_3 : List Bool) (a0_4 : Int) : Option ((List S92)) := (impl_IsValidTask.f k a0_0 l0_1 l0_2 l0_3 a0_4).bind fun t11 => (if t11 = true then (if a0_0 = 3 then (impl_UnmatchedRows.j0 k a0_0 a0_4 l0_1 l0_2 l0_3) else (if a0_0 = 4 then (impl_UnmatchedRows.j0 k a0_0 a0_4 l0_1 l0_2 l0_3) else (some []))) else (some []))
set_option maxHeartbeats 4000000 in
set_option maxRecDepth 100000 in
theorem impl_UnmatchedRows.ok (k : Nat) (a0_0 : Int) (l0_1 : List S70) (Al0_1 : Option Addr) (cl0_1 : Nat) (l0_2 : List S70) (Al0_2 : Option Addr) (cl0_2 : Nat) (l0_3 : List Bool) (Al0_3 : Option Addr) (cl0_3 : Nat) (a0_4 : Int) (r0 : List S92) (H : impl_UnmatchedRows.f k a0_0 l0_1 l0_2 l0_3 a0_4 = some r0) : Fn Try.prog 29 [.agg #[.int .i64 a0_0, .slice Al0_1 l0_1.length cl0_1, .slice Al0_2 l0_2.length cl0_2, .slice Al0_3 l0_3.length cl0_3, .int .i64 a0_4]] [] [.sl 0 k70 Al0_1 cl0_1 l0_1 0 false, .sl 0 k70 Al0_2 cl0_2 l0_2 0 false, .sl 0 .bool Al0_3 cl0_3 l0_3 0 false] (fun v bx en => ∃ A0 c0, v = .slice A0 r0.length c0 ∧ bx = [] ∧ en = [.sl 2 k92 A0 c0 r0 1 true]) := by
 refine fn_ 41 Try.func29 rfl rfl rfl (fun base T w0 => ?_)
 rw [impl_UnmatchedRows.f] at H
 refine gs (rg (so rfl (op_box (cs := [.int .i64 a0_0, .slice Al0_1 l0_1.length cl0_1, .slice Al0_2 l0_2.length cl0_2, .slice Al0_3 l0_3.length cl0_3, .int .i64 a0_4]) rfl rfl rfl fun b1 => (sv (EV.as rfl) rfl (re ?_)))))
 refine jo (fun S => ∃ (m : Nat) (x1_1_0 : Int) (x1_1_4 : Int), impl_UnmatchedRows.j0 m x1_1_0 x1_1_4 l0_1 l0_2 l0_3 = some r0 ∧ S = ⟨[(1, .pointer (some ⟨b1, 0, none⟩))], [⟨b1, 44, [.int .i64 x1_1_0, .slice Al0_1 l0_1.length cl0_1, .slice Al0_2 l0_2.length cl0_2, .slice Al0_3 l0_3.length cl0_3, .int .i64 x1_1_4]⟩], [.sl 0 k70 Al0_1 cl0_1 l0_1 0 false, .sl 0 k70 Al0_2 cl0_2 l0_2 0 false, .sl 0 .bool Al0_3 cl0_3 l0_3 0 false]⟩) (fun S hS => ?_) (fun jh0 => ?_)
 ·
  clear H
  obtain ⟨m1, x1_1_0, x1_1_4, H, rfl⟩ := hS
  rcases m1 with _ | m1
  · rw [impl_UnmatchedRows.j0] at H; cases H
  rw [impl_UnmatchedRows.j0] at H
  refine gs (rg (so rfl (op_lit (s := 7) (by_ := 56) k92 ([] : List S92) [] [] 1 [] rfl rfl rfl rfl rfl rfl rfl rfl rfl rfl rfl rfl rfl dq rfl fun A19_2 c19_2 => (sv (EV.as rfl) rfl (re (gs (gs (rg (sv (EV.fa 1 rfl) rfl (sv (EV.ld 0 none rfl rfl rfl) rfl (sv (EV.ln rfl) rfl (sv (EV.mv rfl) rfl (re (gb ?_))))))))))))))
  refine lo (fun kk S => ∃ (x3_3 : List S92) (Ax3_3 : Option Addr) (cx3_3 : Nat) (x3_22 : Int) (x3_23 : Int) (x3_1_0 : Int) (x3_1_4 : Int), kk ≤ m1 ∧ impl_UnmatchedRows.l0 kk x3_3 x3_22 x3_23 x3_1_0 x3_1_4 l0_1 l0_2 l0_3 = some r0 ∧ S = ⟨[(1, .pointer (some ⟨b1, 0, none⟩)), (3, .slice Ax3_3 x3_3.length cx3_3), (21, .slice Al0_1 l0_1.length cl0_1), (22, .int .i64 x3_22), (23, .int .i64 x3_23)], [⟨b1, 44, [.int .i64 x3_1_0, .slice Al0_1 l0_1.length cl0_1, .slice Al0_2 l0_2.length cl0_2, .slice Al0_3 l0_3.length cl0_3, .int .i64 x3_1_4]⟩], [.sl 2 k92 Ax3_3 cx3_3 x3_3 1 true, .sl 0 k70 Al0_1 cl0_1 l0_1 0 false, .sl 0 k70 Al0_2 cl0_2 l0_2 0 false, .sl 0 .bool Al0_3 cl0_3 l0_3 0 false]⟩) (fun S hS => ?_) (fun n0 ih0 S hS => ?_) ⟨[], A19_2, c19_2, (l0_1.length : Int), 0, x1_1_0, x1_1_4, by omega, H, rfl⟩ (fun h => wk [1, 3, 21, 22, 23] [0] [⟨3, 2, 1, true⟩, ⟨0, 0, 0, false⟩, ⟨1, 0, 0, false⟩, ⟨2, 0, 0, false⟩] h)
  · clear H; obtain ⟨_, _, _, _, _, _, _, _, H, _⟩ := hS; rw [impl_UnmatchedRows.l0] at H; cases H
  clear H
  obtain ⟨x3_3, Ax3_3, cx3_3, x3_22, x3_23, x3_1_0, x3_1_4, lk0, H, rfl⟩ := hS
  rw [impl_UnmatchedRows.l0] at H
  refine gs (rg (sv (EV.lss rfl rfl) rfl (re (gs ?_))))
  revert H; refine ifsI ?_ ?_ <;> intro c3 H
  ·
   refine gt rfl (dT c3) (gk (gs (gb (gs (rg (sv (EV.mv rfl) rfl ?_))))))
   revert H; refine ggI ?_; intro g4 H
   revert H; refine ggI ?_; intro g5 H
   refine sv (EV.ix 1 rfl rfl rfl g4 g5 rfl) rfl (sv (EV.le (v := .agg #[.int .i64 ((rd_T70 l0_1 x3_23).f0), .int .i64 ((rd_T70 l0_1 x3_23).f1), .int .i64 ((rd_T70 l0_1 x3_23).f2)]) x3_23 0 (some 3) 1 z70 rfl rfl rfl g4 g5 rfl rfl rfl) rfl (so rfl (op_alloc (cs := [.int .i64 0, .int .i64 0, .int .i64 0]) (by kernel_rfl) rfl fun b5 => (sv (EV.as rfl) rfl (so rfl (op_st (cs' := [.int .i64 ((rd_T70 l0_1 x3_23).f0), .int .i64 ((rd_T70 l0_1 x3_23).f1), .int .i64 ((rd_T70 l0_1 x3_23).f2)]) 1 rfl rfl rfl rfl rfl rfl (re (gs (rg (sv (EV.fa 3 rfl) rfl (sv (EV.ld 0 none rfl rfl rfl) rfl (sv (EV.mv rfl) rfl ?_))))))))))))
   revert H; refine ggI ?_; intro g6 H
   refine sv (EV.ix 3 rfl rfl rfl g4 g6 rfl) rfl (sv (EV.le (v := .bool (rdOf false l0_3 x3_23)) x3_23 0 none 3 false rfl rfl rfl g4 g6 rfl rfl rfl) rfl (sv (EV.nt rfl) rfl (re (pr [1, 3, 5, 21, 22, 23, 33] [0, 1] [0, 1, 2, 3] rfl rfl rfl rfl ?_))))
   revert H; refine ifsI ?_ ?_ <;> intro c7 H
   ·
    exact gf rfl (bN c7) (gk (ge (rg (sv (EV.add rfl rfl) rfl (sv (EV.mv rfl) rfl (re (wk [1, 3, 21, 22, 23] [0] [⟨0, 2, 1, true⟩, ⟨1, 0, 0, false⟩, ⟨2, 0, 0, false⟩, ⟨3, 0, 0, false⟩] (ih0 _ (by omega) _ ⟨x3_3, Ax3_3, cx3_3, x3_22, wrap64 (x3_23 + 1), x3_1_0, x3_1_4, by omega, H, rfl⟩))))))))
   ·
    refine gt rfl (bM c7) (rg (sv (EV.mv rfl) rfl (sv (EV.ld (v := .agg #[.int .i64 ((rd_T70 l0_1 x3_23).f0), .int .i64 ((rd_T70 l0_1 x3_23).f1), .int .i64 ((rd_T70 l0_1 x3_23).f2)]) 1 (some 3) rfl rfl rfl) rfl (sv (EV.bd (v := .agg #[.int .i64 ((rd_T70 l0_1 x3_23).f0), .int .i64 ((rd_T70 l0_1 x3_23).f1), .int .i64 ((rd_T70 l0_1 x3_23).f2), .int .i64 0, .int .i64 0, .int .i64 0, .bool false]) rfl (by kernel_rfl)) rfl (so rfl (op_lit (s := 7) (by_ := 56) k92 ([(⟨(⟨(rd_T70 l0_1 x3_23).f0, (rd_T70 l0_1 x3_23).f1, (rd_T70 l0_1 x3_23).f2⟩ : S70), (⟨0, 0, 0⟩ : S70), false⟩ : S92)] : List S92) [[]] [] 2 [.tmp 36] rfl rfl rfl rfl rfl rfl rfl rfl rfl rfl rfl rfl rfl dq rfl fun A37_8 c37_8 => ?_))))))
    revert H; refine ggI ?_; intro g9 H
    exact so rfl (op_app (k := k92) (s := 7) (by_ := 56) 0 4 rfl rfl rfl rfl (ap1 g9 dq) (ap1n g9 dq) (.inl rfl) true (fun _ => .inl rfl) rfl rfl fun A38_10 c38_10 => (nmE (en := [.sl 0 k70 Al0_1 cl0_1 l0_1 0 false, .sl 0 k70 Al0_2 cl0_2 l0_2 0 false, .sl 0 .bool Al0_3 cl0_3 l0_3 0 false, .sl 2 k92 A37_8 c37_8 ([(⟨(⟨(rd_T70 l0_1 x3_23).f0, (rd_T70 l0_1 x3_23).f1, (rd_T70 l0_1 x3_23).f2⟩ : S70), (⟨0, 0, 0⟩ : S70), false⟩ : S92)] : List S92) 2 true, .sl 2 k92 A38_10 c38_10 (x3_3 ++ ([(⟨(⟨(rd_T70 l0_1 x3_23).f0, (rd_T70 l0_1 x3_23).f1, (rd_T70 l0_1 x3_23).f2⟩ : S70), (⟨0, 0, 0⟩ : S70), false⟩ : S92)] : List S92)) 1 true]) (by kernel_rfl) (sv (EV.as rfl) rfl (re (pr [1, 3, 21, 22, 23] [0] [0, 1, 2, 4] rfl rfl rfl rfl (ge (rg (sv (EV.add rfl rfl) rfl (sv (EV.mv rfl) rfl (re (wk [1, 3, 21, 22, 23] [0] [⟨3, 2, 1, true⟩, ⟨0, 0, 0, false⟩, ⟨1, 0, 0, false⟩, ⟨2, 0, 0, false⟩] (ih0 _ (by omega) _ ⟨x3_3 ++ ([(⟨(⟨(rd_T70 l0_1 x3_23).f0, (rd_T70 l0_1 x3_23).f1, (rd_T70 l0_1 x3_23).f2⟩ : S70), (⟨0, 0, 0⟩ : S70), false⟩ : S92)] : List S92), A38_10, c38_10, x3_22, wrap64 (x3_23 + 1), x3_1_0, x3_1_4, by omega, H, rfl⟩))))))))))))
  ·
   refine gf rfl (dF c3) (gx rfl (gs (rg (sv (EV.mv rfl) rfl (sv (EV.as rfl) rfl (re (pr [2] [] [0] rfl rfl rfl rfl ?_)))))))
   cases H
   exact rt Try.func29 rfl (.tmp rfl .nil) rfl [] [⟨0, 2, 1, true⟩] rfl rfl rfl rfl rfl ⟨_, _, rfl, rfl, rfl⟩
 ·
  refine gs (rg (sv (EV.ld (v := .agg #[.int .i64 a0_0, .slice Al0_1 l0_1.length cl0_1, .slice Al0_2 l0_2.length cl0_2, .slice Al0_3 l0_3.length cl0_3, .int .i64 a0_4]) 0 (some 5) rfl rfl rfl) rfl ?_))
  revert H; refine bdI ?_; rintro t11 A11 H
  refine so rfl (op_call (impl_IsValidTask.ok k a0_0 l0_1 Al0_1 cl0_1 l0_2 Al0_2 cl0_2 l0_3 Al0_3 cl0_3 a0_4 _ A11) [⟨0, 0, 0, false⟩, ⟨1, 0, 0, false⟩, ⟨2, 0, 0, false⟩] 1 rfl rfl rfl rfl rfl ?_)
  rintro _ _ _ ⟨rfl, rfl, rfl⟩
  refine sv (EV.nt rfl) rfl (sv (EV.mv rfl) rfl ?_)
  revert H; refine ifsI ?_ ?_ <;> intro c12 H
  ·
   subst c12
   refine ts 9 rfl rfl (sv (EV.fa 0 rfl) rfl (sv (EV.ld 0 none rfl rfl rfl) rfl (sv (EV.neq rfl rfl) rfl (sv (EV.mv rfl) rfl ?_))))
   revert H; refine ifsI ?_ ?_ <;> intro c13 H
   ·
    exact ts 13 rfl (nF c13) (sk rfl (sk rfl (sk rfl (sv (EV.pf rfl rfl rfl) rfl (sv (EV.pf rfl rfl rfl) rfl (re (pr [1, 18] [0] [0, 1, 2] rfl rfl rfl rfl (gf rfl rfl (gk (wk [1] [0] [⟨0, 0, 0, false⟩, ⟨1, 0, 0, false⟩, ⟨2, 0, 0, false⟩] (jh0 _ ⟨_, a0_0, a0_4, H, rfl⟩)))))))))))
   ·
    refine ts 13 rfl (nT c13) (sv (EV.fa 0 rfl) rfl (sv (EV.ld 0 none rfl rfl rfl) rfl (sv (EV.neq rfl rfl) rfl (sv (EV.pt rfl rfl rfl) rfl (sv (EV.pf rfl rfl rfl) rfl (re (pr [1, 18] [0] [0, 1, 2] rfl rfl rfl rfl ?_)))))))
    revert H; refine ifsI ?_ ?_ <;> intro c14 H
    ·
     exact gf rfl (nF c14) (gk (wk [1] [0] [⟨0, 0, 0, false⟩, ⟨1, 0, 0, false⟩, ⟨2, 0, 0, false⟩] (jh0 _ ⟨_, a0_0, a0_4, H, rfl⟩)))
    ·
     refine gt rfl (nT c14) (gs (rg (sv (EV.as rfl) rfl (re (nil_ k92 1 dq ?_)))))
     cases H
     exact rt Try.func29 rfl (.tmp rfl .nil) rfl [] [⟨3, 2, 1, true⟩] rfl rfl rfl rfl rfl ⟨_, _, rfl, rfl, rfl⟩
  ·
   obtain rfl := bF c12
   refine ts 9 rfl rfl (sk rfl (sk rfl (sk rfl (sk rfl (sk rfl (sk rfl (sk rfl (sk rfl (sv (EV.pt rfl rfl rfl) rfl (re (pr [1, 18] [0] [0, 1, 2] rfl rfl rfl rfl (gt rfl rfl (gs (rg (sv (EV.as rfl) rfl (re (nil_ k92 1 dq ?_)))))))))))))))))
   cases H
   exact rt Try.func29 rfl (.tmp rfl .nil) rfl [] [⟨3, 2, 1, true⟩] rfl rfl rfl rfl rfl ⟨_, _, rfl, rfl, rfl⟩
end Go.Proofs.Ytajjeemkdjfilaa.K
namespace Go.Proofs.Ytajjeemkdjfilaa.K
open Go Go.RowKit
set_option linter.unusedVariables false
set_option linter.unusedSimpArgs false
def impl_RowCost.f (a0_0 : Int) (a0_1 : Int) (a0_2 : Int) : Option (Int) := (impl_IsValidRow.f a0_0 a0_1 a0_2).bind fun t1 => (if t1 = true then (some (wrap64 (1 + a0_2))) else (some 0))
set_option maxHeartbeats 4000000 in
set_option maxRecDepth 100000 in
theorem impl_RowCost.ok (a0_0 : Int) (a0_1 : Int) (a0_2 : Int) (r0 : Int) (H : impl_RowCost.f a0_0 a0_1 a0_2 = some r0) : Fn Try.prog 109 [.agg #[.int .i64 a0_0, .int .i64 a0_1, .int .i64 a0_2]] [] [] (fun v bx en => v = .int .i64 r0 ∧ bx = [] ∧ en = []) := by
 refine fn_ 9 Try.func109 rfl rfl rfl (fun base T w0 => ?_)
 rw [impl_RowCost.f] at H
 refine gs (rg (so rfl (op_box (cs := [.int .i64 a0_0, .int .i64 a0_1, .int .i64 a0_2]) rfl rfl rfl fun b1 => (sv (EV.as rfl) rfl (re (gs (gs (rg (sv (EV.ld (v := .agg #[.int .i64 a0_0, .int .i64 a0_1, .int .i64 a0_2]) 0 (some 3) rfl rfl rfl) rfl ?_)))))))))
 revert H; refine bdI ?_; rintro t1 A1 H
 refine so rfl (op_call (impl_IsValidRow.ok a0_0 a0_1 a0_2 _ A1) [] 1 rfl rfl rfl rfl rfl ?_)
 rintro _ _ _ ⟨rfl, rfl, rfl⟩
 refine sv (EV.nt rfl) rfl (re ?_)
 revert H; refine ifsI ?_ ?_ <;> intro c2 H
 ·
  subst c2
  refine gf rfl rfl (gk (gs (rg (sv (EV.fa 2 rfl) rfl (sv (EV.ld 0 none rfl rfl rfl) rfl (sv (EV.add rfl rfl) rfl (sv (EV.as rfl) rfl (re (pr [2] [] [] rfl rfl rfl rfl ?_)))))))))
  cases H
  exact rt Try.func109 rfl (.tmp rfl .nil) rfl [] [] rfl rfl rfl rfl rfl ⟨rfl, rfl, rfl⟩
 ·
  obtain rfl := bF c2
  refine gt rfl rfl (gs (rg (sv (EV.as rfl) rfl (re ?_))))
  cases H
  exact rt Try.func109 rfl (.tmp rfl .nil) rfl [] [] rfl rfl rfl rfl rfl ⟨rfl, rfl, rfl⟩
end Go.Proofs.Ytajjeemkdjfilaa.K
namespace Go.Proofs.Ytajjeemkdjfilaa.K
open Go Go.RowKit
set_option linter.unusedVariables false
set_option linter.unusedSimpArgs false
def impl_TotalCost.l0 : Nat → Int → Int → Int → (List S70) → Option (Int)
 | 0, _, _, _, _ => none
 | k + 1, x2_3, x2_7, x2_8, l0 => if x2_8 < x2_7 then (if 0 ≤ x2_8 then (if x2_8 < (l0.length : Int) then ((impl_RowCost.f ((rd_T70 l0 x2_8).f0) ((rd_T70 l0 x2_8).f1) ((rd_T70 l0 x2_8).f2)).bind fun t4 => (impl_TotalCost.l0 k (wrap64 (x2_3 + t4)) x2_7 (wrap64 (x2_8 + 1)) l0)) else none) else none) else (some x2_3)
def impl_TotalCost.f (k : Nat) (l0 : List S70) : Option (Int) := impl_TotalCost.l0 k 0 (l0.length : Int) 0 l0
set_option maxHeartbeats 4000000 in
set_option maxRecDepth 100000 in
theorem impl_TotalCost.ok (k : Nat) (l0 : List S70) (Al0 : Option Addr) (cl0 : Nat) (r0 : Int) (H : impl_TotalCost.f k l0 = some r0) : Fn Try.prog 75 [.slice Al0 l0.length cl0] [] [.sl 0 k70 Al0 cl0 l0 0 false] (fun v bx en => v = .int .i64 r0 ∧ bx = [] ∧ en = []) := by
 refine fn_ 18 Try.func75 rfl rfl rfl (fun base T w0 => ?_)
 rw [impl_TotalCost.f] at H
 refine gs (rg (sv (EV.as rfl) rfl (re (gs (rg (sv (EV.as rfl) rfl (re (gs (gs (rg (sv (EV.mv rfl) rfl (sv (EV.ln rfl) rfl (sv (EV.mv rfl) rfl (re (gb ?_)))))))))))))))
 refine lo (fun kk S => ∃ (x2_3 : Int) (x2_7 : Int) (x2_8 : Int), impl_TotalCost.l0 kk x2_3 x2_7 x2_8 l0 = some r0 ∧ S = ⟨[(3, .int .i64 x2_3), (6, .slice Al0 l0.length cl0), (7, .int .i64 x2_7), (8, .int .i64 x2_8)], [], [.sl 0 k70 Al0 cl0 l0 0 false]⟩) (fun S hS => ?_) (fun n0 ih0 S hS => ?_) ⟨0, (l0.length : Int), 0, H, rfl⟩ (fun h => wk [3, 6, 7, 8] [] [⟨0, 0, 0, false⟩] h)
 · clear H; obtain ⟨_, _, _, H, _⟩ := hS; rw [impl_TotalCost.l0] at H; cases H
 clear H
 obtain ⟨x2_3, x2_7, x2_8, H, rfl⟩ := hS
 rw [impl_TotalCost.l0] at H
 refine gs (rg (sv (EV.lss rfl rfl) rfl (re (gs ?_))))
 revert H; refine ifsI ?_ ?_ <;> intro c1 H
 ·
  refine gt rfl (dT c1) (gk (gs (gb (gs (rg ?_)))))
  revert H; refine ggI ?_; intro g2 H
  revert H; refine ggI ?_; intro g3 H
  refine sv (EV.ix 0 rfl rfl rfl g2 g3 rfl) rfl (sv (EV.le (v := .agg #[.int .i64 ((rd_T70 l0 x2_8).f0), .int .i64 ((rd_T70 l0 x2_8).f1), .int .i64 ((rd_T70 l0 x2_8).f2)]) x2_8 0 (some 3) 0 z70 rfl rfl rfl g2 g3 rfl rfl rfl) rfl (so rfl (op_alloc (cs := [.int .i64 0, .int .i64 0, .int .i64 0]) (by kernel_rfl) rfl fun b5 => (so rfl (op_st (cs' := [.int .i64 ((rd_T70 l0 x2_8).f0), .int .i64 ((rd_T70 l0 x2_8).f1), .int .i64 ((rd_T70 l0 x2_8).f2)]) 0 rfl rfl rfl rfl rfl rfl (re (rg (sv (EV.mv rfl) rfl (sv (EV.ld (v := .agg #[.int .i64 ((rd_T70 l0 x2_8).f0), .int .i64 ((rd_T70 l0 x2_8).f1), .int .i64 ((rd_T70 l0 x2_8).f2)]) 0 (some 3) rfl rfl rfl) rfl ?_)))))))))
  revert H; refine bdI ?_; rintro t4 A4 H
  refine so rfl (op_call (impl_RowCost.ok ((rd_T70 l0 x2_8).f0) ((rd_T70 l0 x2_8).f1) ((rd_T70 l0 x2_8).f2) _ A4) [] 1 rfl rfl rfl rfl rfl ?_)
  rintro _ _ _ ⟨rfl, rfl, rfl⟩
  exact sv (EV.add rfl rfl) rfl (sv (EV.as rfl) rfl (re (pr [3, 6, 7, 8] [] [0] rfl rfl rfl rfl (ge (rg (sv (EV.add rfl rfl) rfl (sv (EV.mv rfl) rfl (re (wk [3, 6, 7, 8] [] [⟨0, 0, 0, false⟩] (ih0 _ (by omega) _ ⟨wrap64 (x2_3 + t4), x2_7, wrap64 (x2_8 + 1), H, rfl⟩))))))))))
 ·
  refine gf rfl (dF c1) (gx rfl (gs (rg (sv (EV.mv rfl) rfl (sv (EV.as rfl) rfl (re (pr [2] [] [] rfl rfl rfl rfl ?_)))))))
  cases H
  exact rt Try.func75 rfl (.tmp rfl .nil) rfl [] [] rfl rfl rfl rfl rfl ⟨rfl, rfl, rfl⟩
end Go.Proofs.Ytajjeemkdjfilaa.K
namespace Go.Proofs.Ytajjeemkdjfilaa.K
open Go Go.RowKit
set_option linter.unusedVariables false
set_option linter.unusedSimpArgs false
mutual
def impl_NextChunk.j0 : Nat → Int → (List S70) → Option ((List S70) × (List S70))
 | 0, _, _ => none
 | k + 1, x2_6, l0 => if 0 ≤ x2_6 then (if x2_6 ≤ (l0.length : Int) then ((impl_clone.f (l0.take x2_6.toNat)).bind fun t4 => ((impl_clone.f (l0.drop x2_6.toNat)).bind fun t5 => (some (t4, t5)))) else none) else none
def impl_NextChunk.l0 : Nat → Int → Int → (List S70) → Option ((List S70) × (List S70))
 | 0, _, _, _ => none
 | k + 1, x3_1, x3_6, l0 => if x3_6 < (l0.length : Int) then (if 0 ≤ (wrap64 (x3_6 + 1)) then (if (wrap64 (x3_6 + 1)) ≤ (l0.length : Int) then ((impl_TotalCost.f k (l0.take (wrap64 (x3_6 + 1)).toNat)).bind fun t9 => (if t9 ≤ x3_1 then (impl_NextChunk.l0 k x3_1 (wrap64 (x3_6 + 1)) l0) else (impl_NextChunk.j0 k x3_6 l0))) else none) else none) else (impl_NextChunk.j0 k x3_6 l0)
end
def impl_NextChunk.f (k : Nat) (l0 : List S70) (a1 : Int) : Option ((List S70) × (List S70)) := impl_NextChunk.l0 k a1 (mn 1 (l0.length : Int)) l0
set_option maxHeartbeats 4000000 in
set_option maxRecDepth 100000 in
theorem impl_NextChunk.ok (k : Nat) (l0 : List S70) (Al0 : Option Addr) (cl0 : Nat) (a1 : Int) (r0 : List S70) (r1 : List S70) (H : impl_NextChunk.f k l0 a1 = some (r0, r1)) : Fn Try.prog 34 [.slice Al0 l0.length cl0, .int .i64 a1] [] [.sl 0 k70 Al0 cl0 l0 0 false] (fun v bx en => ∃ A0 c0 A1 c1, v = .tuple #[.slice A0 r0.length c0, .slice A1 r1.length c1] ∧ bx = [] ∧ en = [.sl 2 k70 A0 c0 r0 1 true, .sl 2 k70 A1 c1 r1 2 true]) := by
 refine fn_ 33 Try.func34 rfl rfl rfl (fun base T w0 => ?_)
 rw [impl_NextChunk.f] at H
 refine gs (rg (sv (EV.as rfl) rfl (sv (EV.as rfl) rfl (re (gs (rg (sv (EV.mv rfl) rfl (sv (EV.ln rfl) rfl (sv (EV.mn rfl rfl) rfl (sv (EV.as rfl) rfl (re ?_)))))))))))
 refine jo (fun S => ∃ (m : Nat) (x2_6 : Int), impl_NextChunk.j0 m x2_6 l0 = some (r0, r1) ∧ S = ⟨[(0, .slice Al0 l0.length cl0), (6, .int .i64 x2_6)], [], [.sl 0 k70 Al0 cl0 l0 0 false]⟩) (fun S hS => ?_) (fun jh0 => ?_)
 ·
  clear H
  obtain ⟨m1, x2_6, H, rfl⟩ := hS
  rcases m1 with _ | m1
  · rw [impl_NextChunk.j0] at H; cases H
  rw [impl_NextChunk.j0] at H
  refine gs ?_
  revert H; refine ggI ?_; intro g2 H
  revert H; refine ggI ?_; intro g3 H
  refine dr [] [0] [] 10 rfl rfl rfl rfl (xv 0 [] [0] rfl (EV.mv rfl) rfl rfl rfl rfl (xv 1 [] [0] rfl (EV.mv rfl) rfl rfl rfl rfl (cutp (l' := l0.take x2_6.toNat) 0 x2_6 0 rfl (Int.le_refl 0) g2 g3 rfl 0 dq (.inr rfl) rfl (xv 2 [] [0] rfl (EV.ct 0 x2_6 0 rfl rfl rfl rfl (Int.le_refl 0) g2 g3 rfl rfl ctnh) rfl rfl rfl rfl (xv 4 [] [0] rfl (EV.mv rfl) rfl rfl rfl rfl (xv 5 [] [0] rfl (EV.mv rfl) rfl rfl rfl rfl (cutp (l' := l0.drop x2_6.toNat) x2_6 (l0.length : Int) 0 rfl g2 g3 (Int.le_refl _) rfl 0 dq (.inl dq) ctl (xv 6 [] [0] rfl (EV.ct x2_6 (l0.length : Int) 0 rfl rfl rfl rfl g2 g3 (Int.le_refl _) rfl rfl ctnl) rfl rfl rfl rfl (one1 3 rfl rfl ?_)))))))))
  revert H; refine bdI ?_; rintro t4 A4 H
  refine op_call (impl_clone.ok (l0.take x2_6.toNat) (cutA Al0 cl0 (0 : Int).toNat 3) (cl0 - (0 : Int).toNat) _ A4) [⟨1, 0, 0, false⟩] 1 rfl rfl rfl rfl rfl ?_
  rintro _ _ _ ⟨At4, ct4, rfl, rfl, rfl⟩
  refine xs [] [0] rfl rfl rfl (one1 7 rfl rfl ?_)
  revert H; refine bdI ?_; rintro t5 A5 H
  refine op_call (impl_clone.ok (l0.drop x2_6.toNat) (cutA Al0 cl0 x2_6.toNat 3) (cl0 - x2_6.toNat) _ A5) [⟨2, 0, 0, false⟩] 3 rfl rfl rfl rfl rfl ?_
  rintro _ _ _ ⟨At5, ct5, rfl, rfl, rfl⟩
  refine xs [] [0] rfl rfl rfl (xv 8 [] [0] rfl (EV.as rfl) rfl rfl rfl rfl (xv 9 [] [0] rfl (EV.as rfl) rfl rfl rfl rfl (xd (pr [4, 5] [] [3, 4] rfl rfl rfl rfl ?_))))
  cases H
  exact rt Try.func34 rfl (.tmp rfl (.tmp rfl .nil)) rfl [] [⟨0, 2, 1, true⟩, ⟨1, 2, 2, true⟩] rfl rfl rfl rfl rfl ⟨_, _, _, _, rfl, rfl, rfl⟩
 ·
  refine gb ?_
  refine lo (fun kk S => ∃ (x3_1 : Int) (x3_6 : Int), impl_NextChunk.l0 kk x3_1 x3_6 l0 = some (r0, r1) ∧ S = ⟨[(0, .slice Al0 l0.length cl0), (1, .int .i64 x3_1), (6, .int .i64 x3_6)], [], [.sl 0 k70 Al0 cl0 l0 0 false]⟩) (fun S hS => ?_) (fun n0 ih0 S hS => ?_) ⟨a1, mn 1 (l0.length : Int), H, rfl⟩ (fun h => wk [0, 1, 6] [] [⟨0, 0, 0, false⟩] h)
  · clear H; obtain ⟨_, _, H, _⟩ := hS; rw [impl_NextChunk.l0] at H; cases H
  clear H
  obtain ⟨x3_1, x3_6, H, rfl⟩ := hS
  rw [impl_NextChunk.l0] at H
  refine gs (gs (rg (sv (EV.mv rfl) rfl (sv (EV.mv rfl) rfl (sv (EV.ln rfl) rfl (sv (EV.lss rfl rfl) rfl (sv (EV.mv rfl) rfl ?_)))))))
  revert H; refine ifsI ?_ ?_ <;> intro c6 H
  ·
   refine ts 14 rfl (dT c6) (sv (EV.mv rfl) rfl (sv (EV.mv rfl) rfl (sv (EV.add rfl rfl) rfl ?_)))
   revert H; refine ggI ?_; intro g7 H
   revert H; refine ggI ?_; intro g8 H
   refine cutp (l' := l0.take (wrap64 (x3_6 + 1)).toNat) 0 (wrap64 (x3_6 + 1)) 0 rfl (Int.le_refl 0) g7 g8 rfl 0 dq (.inr rfl) rfl (sv (EV.ct 0 (wrap64 (x3_6 + 1)) 0 rfl rfl rfl rfl (Int.le_refl 0) g7 g8 rfl rfl ctnh) rfl ?_)
   revert H; refine bdI ?_; rintro t9 A9 H
   refine so rfl (op_call (impl_TotalCost.ok n0 (l0.take (wrap64 (x3_6 + 1)).toNat) (cutA Al0 cl0 (0 : Int).toNat 3) (cl0 - (0 : Int).toNat) _ A9) [⟨1, 0, 0, false⟩] 1 rfl rfl rfl rfl rfl ?_)
   rintro _ _ _ ⟨rfl, rfl, rfl⟩
   refine sv (EV.mv rfl) rfl (sv (EV.leq rfl rfl) rfl (sv (EV.pt rfl rfl rfl) rfl (re ?_)))
   revert H; refine ifsI ?_ ?_ <;> intro c10 H
   ·
    exact gt rfl (dT c10) (gk (gb (rg (sv (EV.mv rfl) rfl (sv (EV.add rfl rfl) rfl (sv (EV.as rfl) rfl (re (pr [0, 1, 6, 15, 16, 17, 18, 19, 20, 21] [] [0, 1] rfl rfl rfl rfl (ge (wk [0, 1, 6] [] [⟨0, 0, 0, false⟩] (ih0 _ (by omega) _ ⟨x3_1, wrap64 (x3_6 + 1), H, rfl⟩)))))))))))
   ·
    exact gf rfl (dF c10) (gx rfl (wk [0, 6] [] [⟨0, 0, 0, false⟩] (jh0 _ ⟨_, x3_6, H, rfl⟩)))
  ·
   exact ts 14 rfl (dF c6) (sk rfl (sk rfl (sk rfl (sk rfl (sk rfl (sk rfl (sk rfl (sv (EV.pf rfl rfl rfl) rfl (re (pr [0, 1, 6, 22] [] [0] rfl rfl rfl rfl (gf rfl rfl (gx rfl (wk [0, 6] [] [⟨0, 0, 0, false⟩] (jh0 _ ⟨_, x3_6, H, rfl⟩))))))))))))))
end Go.Proofs.Ytajjeemkdjfilaa.K
namespace Go.Proofs.Ytajjeemkdjfilaa.K
open Go Go.RowKit
set_option linter.unusedVariables false
set_option linter.unusedSimpArgs false
def impl_HashBit.f (a0 : Int) (a1 : Int) : Option (Int) := (impl_within.f a1 0 3).bind fun t1 => (if t1 = true then ((impl_within.f a0 0 9).bind fun t3 => (if t3 = true then (if 0 ≤ a1 then (some (andI (shrI (Int.tmod (wrap64 (7 * a0)) 16) a1) 1)) else none) else (some 0))) else (some 0))
set_option maxHeartbeats 4000000 in
set_option maxRecDepth 100000 in
theorem impl_HashBit.ok (a0 : Int) (a1 : Int) (r0 : Int) (H : impl_HashBit.f a0 a1 = some r0) : Fn Try.prog 91 [.int .i64 a0, .int .i64 a1] [] [] (fun v bx en => v = .int .i64 r0 ∧ bx = [] ∧ en = []) := by
 refine fn_ 19 Try.func91 rfl rfl rfl (fun base T w0 => ?_)
 rw [impl_HashBit.f] at H
 refine gs (rg (sv (EV.as rfl) rfl (re (gs (gs (rg (sv (EV.mv rfl) rfl ?_)))))))
 revert H; refine bdI ?_; rintro t1 A1 H
 refine so rfl (op_call (impl_within.ok a1 0 3 _ A1) [] 1 rfl rfl rfl rfl rfl ?_)
 rintro _ _ _ ⟨rfl, rfl, rfl⟩
 refine sv (EV.nt rfl) rfl (sv (EV.mv rfl) rfl ?_)
 revert H; refine ifsI ?_ ?_ <;> intro c2 H
 ·
  subst c2
  refine ts 8 rfl rfl (sv (EV.mv rfl) rfl ?_)
  revert H; refine bdI ?_; rintro t3 A3 H
  refine so rfl (op_call (impl_within.ok a0 0 9 _ A3) [] 1 rfl rfl rfl rfl rfl ?_)
  rintro _ _ _ ⟨rfl, rfl, rfl⟩
  refine sv (EV.nt rfl) rfl (sv (EV.pf rfl rfl rfl) rfl (re (pr [0, 1, 12] [] [] rfl rfl rfl rfl ?_)))
  revert H; refine ifsI ?_ ?_ <;> intro c4 H
  ·
   subst c4
   refine gf rfl rfl (gk (gs (rg (sv (EV.mv rfl) rfl (sv (EV.mul rfl rfl) rfl (sv (EV.rem rfl rfl dq) rfl (sv (EV.mv rfl) rfl ?_)))))))
   revert H; refine ggI ?_; intro g5 H
   refine sv (EV.shr rfl rfl g5) rfl (sv (EV.andI rfl rfl) rfl (sv (EV.as rfl) rfl (re (pr [4] [] [] rfl rfl rfl rfl ?_))))
   cases H
   exact rt Try.func91 rfl (.tmp rfl .nil) rfl [] [] rfl rfl rfl rfl rfl ⟨rfl, rfl, rfl⟩
  ·
   obtain rfl := bF c4
   refine gt rfl rfl (gs (rg (sv (EV.as rfl) rfl (re ?_))))
   cases H
   exact rt Try.func91 rfl (.tmp rfl .nil) rfl [] [] rfl rfl rfl rfl rfl ⟨rfl, rfl, rfl⟩
 ·
  obtain rfl := bF c2
  refine ts 8 rfl rfl (sk rfl (sk rfl (sk rfl (sv (EV.pt rfl rfl rfl) rfl (re (pr [0, 1, 12] [] [] rfl rfl rfl rfl (gt rfl rfl (gs (rg (sv (EV.as rfl) rfl (re ?_)))))))))))
  cases H
  exact rt Try.func91 rfl (.tmp rfl .nil) rfl [] [] rfl rfl rfl rfl rfl ⟨rfl, rfl, rfl⟩
end Go.Proofs.Ytajjeemkdjfilaa.K
namespace Go.Proofs.Ytajjeemkdjfilaa.K
open Go Go.RowKit
set_option linter.unusedVariables false
set_option linter.unusedSimpArgs false
def impl_SplitByHashBit.l0 : Nat → Int → (List S70) → (List S70) → Int → Int → (List S70) → Option ((List S70) × (List S70))
 | 0, _, _, _, _, _, _ => none
 | k + 1, x2_1, x2_6, x2_7, x2_13, x2_14, l0 => if x2_14 < x2_13 then (if 0 ≤ x2_14 then (if x2_14 < (l0.length : Int) then ((impl_HashBit.f ((rd_T70 l0 x2_14).f0) x2_1).bind fun t6 => (if t6 = 0 then (if x2_6.length < 5864062014805 then (impl_SplitByHashBit.l0 k x2_1 (x2_6 ++ ([(⟨(rd_T70 l0 x2_14).f0, (rd_T70 l0 x2_14).f1, (rd_T70 l0 x2_14).f2⟩ : S70)] : List S70)) x2_7 x2_13 (wrap64 (x2_14 + 1)) l0) else none) else (if x2_7.length < 5864062014805 then (impl_SplitByHashBit.l0 k x2_1 x2_6 (x2_7 ++ ([(⟨(rd_T70 l0 x2_14).f0, (rd_T70 l0 x2_14).f1, (rd_T70 l0 x2_14).f2⟩ : S70)] : List S70)) x2_13 (wrap64 (x2_14 + 1)) l0) else none))) else none) else none) else (some (x2_6, x2_7))
def impl_SplitByHashBit.f (k : Nat) (l0 : List S70) (a1 : Int) : Option ((List S70) × (List S70)) := impl_SplitByHashBit.l0 k a1 [] [] (l0.length : Int) 0 l0
set_option maxHeartbeats 4000000 in
set_option maxRecDepth 100000 in
theorem impl_SplitByHashBit.ok (k : Nat) (l0 : List S70) (Al0 : Option Addr) (cl0 : Nat) (a1 : Int) (r0 : List S70) (r1 : List S70) (H : impl_SplitByHashBit.f k l0 a1 = some (r0, r1)) : Fn Try.prog 92 [.slice Al0 l0.length cl0, .int .i64 a1] [] [.sl 0 k70 Al0 cl0 l0 0 false] (fun v bx en => ∃ A0 c0 A1 c1, v = .tuple #[.slice A0 r0.length c0, .slice A1 r1.length c1] ∧ bx = [] ∧ en = [.sl 2 k70 A0 c0 r0 1 true, .sl 2 k70 A1 c1 r1 2 true]) := by
 refine fn_ 34 Try.func92 rfl rfl rfl (fun base T w0 => ?_)
 rw [impl_SplitByHashBit.f] at H
 refine gs (rg (sv (EV.as rfl) rfl (sv (EV.as rfl) rfl (re (gs (rg (so rfl (op_lit (s := 3) (by_ := 24) k70 ([] : List S70) [] [] 1 [] rfl rfl rfl rfl rfl rfl rfl rfl rfl rfl rfl rfl rfl dq rfl fun A10_1 c10_1 => (so rfl (op_lit (s := 3) (by_ := 24) k70 ([] : List S70) [] [] 2 [] rfl rfl rfl rfl rfl rfl rfl rfl rfl rfl rfl rfl rfl dq rfl fun A11_2 c11_2 => (sv (EV.as rfl) rfl (sv (EV.as rfl) rfl (re (gs (gs (rg (sv (EV.mv rfl) rfl (sv (EV.ln rfl) rfl (sv (EV.mv rfl) rfl (re (gb ?_)))))))))))))))))))))
 refine lo (fun kk S => ∃ (x2_1 : Int) (x2_6 : List S70) (Ax2_6 : Option Addr) (cx2_6 : Nat) (x2_7 : List S70) (Ax2_7 : Option Addr) (cx2_7 : Nat) (x2_13 : Int) (x2_14 : Int), impl_SplitByHashBit.l0 kk x2_1 x2_6 x2_7 x2_13 x2_14 l0 = some (r0, r1) ∧ S = ⟨[(1, .int .i64 x2_1), (6, .slice Ax2_6 x2_6.length cx2_6), (7, .slice Ax2_7 x2_7.length cx2_7), (12, .slice Al0 l0.length cl0), (13, .int .i64 x2_13), (14, .int .i64 x2_14)], [], [.sl 2 k70 Ax2_6 cx2_6 x2_6 1 true, .sl 2 k70 Ax2_7 cx2_7 x2_7 2 true, .sl 0 k70 Al0 cl0 l0 0 false]⟩) (fun S hS => ?_) (fun n0 ih0 S hS => ?_) ⟨a1, [], A10_1, c10_1, [], A11_2, c11_2, (l0.length : Int), 0, H, rfl⟩ (fun h => wk [1, 6, 7, 12, 13, 14] [] [⟨1, 2, 1, true⟩, ⟨2, 2, 2, true⟩, ⟨0, 0, 0, false⟩] h)
 · clear H; obtain ⟨_, _, _, _, _, _, _, _, _, H, _⟩ := hS; rw [impl_SplitByHashBit.l0] at H; cases H
 clear H
 obtain ⟨x2_1, x2_6, Ax2_6, cx2_6, x2_7, Ax2_7, cx2_7, x2_13, x2_14, H, rfl⟩ := hS
 rw [impl_SplitByHashBit.l0] at H
 refine gs (rg (sv (EV.lss rfl rfl) rfl (re (gs ?_))))
 revert H; refine ifsI ?_ ?_ <;> intro c3 H
 ·
  refine gt rfl (dT c3) (gk (gs (gb (gs (rg ?_)))))
  revert H; refine ggI ?_; intro g4 H
  revert H; refine ggI ?_; intro g5 H
  refine sv (EV.ix 2 rfl rfl rfl g4 g5 rfl) rfl (sv (EV.le (v := .agg #[.int .i64 ((rd_T70 l0 x2_14).f0), .int .i64 ((rd_T70 l0 x2_14).f1), .int .i64 ((rd_T70 l0 x2_14).f2)]) x2_14 0 (some 3) 2 z70 rfl rfl rfl g4 g5 rfl rfl rfl) rfl (so rfl (op_alloc (cs := [.int .i64 0, .int .i64 0, .int .i64 0]) (by kernel_rfl) rfl fun b9 => (so rfl (op_st (cs' := [.int .i64 ((rd_T70 l0 x2_14).f0), .int .i64 ((rd_T70 l0 x2_14).f1), .int .i64 ((rd_T70 l0 x2_14).f2)]) 0 rfl rfl rfl rfl rfl rfl (re (gs (rg (sv (EV.fa 0 rfl) rfl (sv (EV.ld 0 none rfl rfl rfl) rfl (sv (EV.mv rfl) rfl ?_)))))))))))
  revert H; refine bdI ?_; rintro t6 A6 H
  refine so rfl (op_call (impl_HashBit.ok ((rd_T70 l0 x2_14).f0) x2_1 _ A6) [] 3 rfl rfl rfl rfl rfl ?_)
  rintro _ _ _ ⟨rfl, rfl, rfl⟩
  refine sv (EV.eql rfl rfl) rfl (re (pr [1, 6, 7, 9, 12, 13, 14, 22] [0] [0, 1, 2] rfl rfl rfl rfl ?_))
  revert H; refine ifsI ?_ ?_ <;> intro c7 H
  ·
   refine gt rfl (dT c7) (rg (sv (EV.mv rfl) rfl (sv (EV.ld (v := .agg #[.int .i64 ((rd_T70 l0 x2_14).f0), .int .i64 ((rd_T70 l0 x2_14).f1), .int .i64 ((rd_T70 l0 x2_14).f2)]) 0 (some 3) rfl rfl rfl) rfl (so rfl (op_lit (s := 3) (by_ := 24) k70 ([(⟨(rd_T70 l0 x2_14).f0, (rd_T70 l0 x2_14).f1, (rd_T70 l0 x2_14).f2⟩ : S70)] : List S70) [[]] [] 3 [.tmp 24] rfl rfl rfl rfl rfl rfl rfl rfl rfl rfl rfl rfl rfl dq rfl fun A25_8 c25_8 => ?_)))))
   revert H; refine ggI ?_; intro g9 H
   exact so rfl (op_app (k := k70) (s := 3) (by_ := 24) 0 3 rfl rfl rfl rfl (ap1 g9 dq) (ap1n g9 dq) (.inl rfl) true (fun _ => .inl rfl) rfl rfl fun A26_10 c26_10 => (nmE (en := [.sl 2 k70 Ax2_7 cx2_7 x2_7 2 true, .sl 0 k70 Al0 cl0 l0 0 false, .sl 2 k70 A25_8 c25_8 ([(⟨(rd_T70 l0 x2_14).f0, (rd_T70 l0 x2_14).f1, (rd_T70 l0 x2_14).f2⟩ : S70)] : List S70) 3 true, .sl 2 k70 A26_10 c26_10 (x2_6 ++ ([(⟨(rd_T70 l0 x2_14).f0, (rd_T70 l0 x2_14).f1, (rd_T70 l0 x2_14).f2⟩ : S70)] : List S70)) 1 true]) (by kernel_rfl) (sv (EV.as rfl) rfl (re (pr [1, 6, 7, 12, 13, 14] [] [0, 1, 3] rfl rfl rfl rfl (ge (rg (sv (EV.add rfl rfl) rfl (sv (EV.mv rfl) rfl (re (wk [1, 6, 7, 12, 13, 14] [] [⟨2, 2, 1, true⟩, ⟨0, 2, 2, true⟩, ⟨1, 0, 0, false⟩] (ih0 _ (by omega) _ ⟨x2_1, x2_6 ++ ([(⟨(rd_T70 l0 x2_14).f0, (rd_T70 l0 x2_14).f1, (rd_T70 l0 x2_14).f2⟩ : S70)] : List S70), A26_10, c26_10, x2_7, Ax2_7, cx2_7, x2_13, wrap64 (x2_14 + 1), H, rfl⟩))))))))))))
  ·
   refine gf rfl (dF c7) (rg (sv (EV.mv rfl) rfl (sv (EV.ld (v := .agg #[.int .i64 ((rd_T70 l0 x2_14).f0), .int .i64 ((rd_T70 l0 x2_14).f1), .int .i64 ((rd_T70 l0 x2_14).f2)]) 0 (some 3) rfl rfl rfl) rfl (so rfl (op_lit (s := 3) (by_ := 24) k70 ([(⟨(rd_T70 l0 x2_14).f0, (rd_T70 l0 x2_14).f1, (rd_T70 l0 x2_14).f2⟩ : S70)] : List S70) [[]] [] 3 [.tmp 28] rfl rfl rfl rfl rfl rfl rfl rfl rfl rfl rfl rfl rfl dq rfl fun A29_11 c29_11 => ?_)))))
   revert H; refine ggI ?_; intro g12 H
   exact so rfl (op_app (k := k70) (s := 3) (by_ := 24) 1 3 rfl rfl rfl rfl (ap1 g12 dq) (ap1n g12 dq) (.inl rfl) true (fun _ => .inl rfl) rfl rfl fun A30_13 c30_13 => (nmE (en := [.sl 2 k70 Ax2_6 cx2_6 x2_6 1 true, .sl 0 k70 Al0 cl0 l0 0 false, .sl 2 k70 A29_11 c29_11 ([(⟨(rd_T70 l0 x2_14).f0, (rd_T70 l0 x2_14).f1, (rd_T70 l0 x2_14).f2⟩ : S70)] : List S70) 3 true, .sl 2 k70 A30_13 c30_13 (x2_7 ++ ([(⟨(rd_T70 l0 x2_14).f0, (rd_T70 l0 x2_14).f1, (rd_T70 l0 x2_14).f2⟩ : S70)] : List S70)) 2 true]) (by kernel_rfl) (sv (EV.as rfl) rfl (re (pr [1, 6, 7, 12, 13, 14] [] [0, 1, 3] rfl rfl rfl rfl (ge (rg (sv (EV.add rfl rfl) rfl (sv (EV.mv rfl) rfl (re (wk [1, 6, 7, 12, 13, 14] [] [⟨0, 2, 1, true⟩, ⟨2, 2, 2, true⟩, ⟨1, 0, 0, false⟩] (ih0 _ (by omega) _ ⟨x2_1, x2_6, Ax2_6, cx2_6, x2_7 ++ ([(⟨(rd_T70 l0 x2_14).f0, (rd_T70 l0 x2_14).f1, (rd_T70 l0 x2_14).f2⟩ : S70)] : List S70), A30_13, c30_13, x2_13, wrap64 (x2_14 + 1), H, rfl⟩))))))))))))
 ·
  refine gf rfl (dF c3) (gx rfl (gs (rg (sv (EV.mv rfl) rfl (sv (EV.mv rfl) rfl (sv (EV.as rfl) rfl (sv (EV.as rfl) rfl (re (pr [4, 5] [] [0, 1] rfl rfl rfl rfl ?_)))))))))
  cases H
  exact rt Try.func92 rfl (.tmp rfl (.tmp rfl .nil)) rfl [] [⟨0, 2, 1, true⟩, ⟨1, 2, 2, true⟩] rfl rfl rfl rfl rfl ⟨_, _, _, _, rfl, rfl, rfl⟩
end Go.Proofs.Ytajjeemkdjfilaa.K
