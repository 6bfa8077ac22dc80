/- Walks: what the functions compute. Printed by gen.py; no condition. -/
import Derived.Test.YtajjeemkdjfilaaProg
import Derived.Test.YtajjeemkdjfilaaSB
namespace Go.Proofs.Ytajjeemkdjfilaa.K
open Go Go.RowKit
set_option linter.unusedVariables false
set_option linter.unusedSimpArgs false
structure S70 where
  f0 : Int
  f1 : Int
  f2 : Int
def z70 : S70 := ⟨0, 0, 0⟩
def k70 : Kd S70 := .iso (fun p => ⟨p.1, p.2.1, p.2.2⟩) (fun x => (x.f0, x.f1, x.f2)) (fun _ => rfl) (.pair (.int .i64) (.pair (.int .i64) (.int .i64)))
def rd_T70 (xs : List S70) (i : Int) : S70 := xs.getD i.toNat z70
structure S92 where
  f0 : S70
  f1 : S70
  f2 : Bool
def z92 : S92 := ⟨z70, z70, false⟩
def k92 : Kd S92 := .iso (fun p => ⟨p.1, p.2.1, p.2.2⟩) (fun x => (x.f0, x.f1, x.f2)) (fun _ => rfl) (.pair k70 (.pair k70 .bool))
def rd_T92 (xs : List S92) (i : Int) : S92 := xs.getD i.toNat z92
structure S30 where
  f0 : List S92
  f1 : Int
  f2 : Int
  f3 : Int
def z30 : S30 := ⟨[], 0, 0, 0⟩
def k30 : Kd S30 := .iso (fun p => ⟨p.1, p.2.1, p.2.2.1, p.2.2.2⟩) (fun x => (x.f0, x.f1, x.f2, x.f3)) (fun _ => rfl) (.pair (.slice k92) (.pair (.int .i64) (.pair (.int .i64) (.int .i64))))
def rd_T30 (xs : List S30) (i : Int) : S30 := xs.getD i.toNat z30
structure S44 where
  f0 : Int
  f1 : List S70
  f2 : List S70
  f3 : List Bool
  f4 : Int
def z44 : S44 := ⟨0, [], [], [], 0⟩
def k44 : Kd S44 := .iso (fun p => ⟨p.1, p.2.1, p.2.2.1, p.2.2.2.1, p.2.2.2.2⟩) (fun x => (x.f0, x.f1, x.f2, x.f3, x.f4)) (fun _ => rfl) (.pair (.int .i64) (.pair (.slice k70) (.pair (.slice k70) (.pair (.slice .bool) (.int .i64)))))
def rd_T44 (xs : List S44) (i : Int) : S44 := xs.getD i.toNat z44
structure S73 where
  f0 : List S44
  f1 : Int
  f2 : Int
def z73 : S73 := ⟨[], 0, 0⟩
def k73 : Kd S73 := .iso (fun p => ⟨p.1, p.2.1, p.2.2⟩) (fun x => (x.f0, x.f1, x.f2)) (fun _ => rfl) (.pair (.slice k44) (.pair (.int .i64) (.int .i64)))
def rd_T73 (xs : List S73) (i : Int) : S73 := xs.getD i.toNat z73
structure S111 where
  f0 : List Int
  f1 : Int
  f2 : Int
def z111 : S111 := ⟨[], 0, 0⟩
def k111 : Kd S111 := .iso (fun p => ⟨p.1, p.2.1, p.2.2⟩) (fun x => (x.f0, x.f1, x.f2)) (fun _ => rfl) (.pair (.slice (.int .u8)) (.pair (.int .i64) (.int .i64)))
def rd_T111 (xs : List S111) (i : Int) : S111 := xs.getD i.toNat z111
theorem eqD70 (d : Nat) (w : World) (x0 y0 : Int) (x1 y1 : Int) (x2 y2 : Int) : (Op.equalIn (d + 2) 70 (.agg #[.int .i64 x0, .int .i64 x1, .int .i64 x2]) (.agg #[.int .i64 y0, .int .i64 y1, .int .i64 y2])).run Try.prog w = .ok (x0 == y0 && (x1 == y1 && (x2 == y2))) w := by
  refine eq_of (d := d + 1) Try.underlying70 (by kernel_rfl) ?_
  refine eq_cons (by rfl) (by first | (go_simp; done) | (go_simp; rfl)) (by first | (go_simp; done) | (go_simp; rfl)) (by go_simp) ?_
  refine eq_cons (by rfl) (by first | (go_simp; done) | (go_simp; rfl)) (by first | (go_simp; done) | (go_simp; rfl)) (by go_simp) ?_
  exact eq_last (by rfl) (by first | (go_simp; done) | (go_simp; rfl)) (by first | (go_simp; done) | (go_simp; rfl)) (by go_simp)
theorem eq70 (d : Nat) (w : World) (x0 y0 : Int) (x1 y1 : Int) (x2 y2 : Int) : (Op.equalIn (d + 20) 70 (.agg #[.int .i64 x0, .int .i64 x1, .int .i64 x2]) (.agg #[.int .i64 y0, .int .i64 y1, .int .i64 y2])).run Try.prog w = .ok (x0 == y0 && (x1 == y1 && (x2 == y2))) w := eqD70 (d + 18) w x0 y0 x1 y1 x2 y2
theorem eqD92 (d : Nat) (w : World) (x0 y0 : Int) (x1 y1 : Int) (x2 y2 : Int) (x3 y3 : Int) (x4 y4 : Int) (x5 y5 : Int) (x6 y6 : Bool) : (Op.equalIn (d + 3) 92 (.agg #[.int .i64 x0, .int .i64 x1, .int .i64 x2, .int .i64 x3, .int .i64 x4, .int .i64 x5, .bool x6]) (.agg #[.int .i64 y0, .int .i64 y1, .int .i64 y2, .int .i64 y3, .int .i64 y4, .int .i64 y5, .bool y6])).run Try.prog w = .ok ((x0 == y0 && (x1 == y1 && (x2 == y2))) && ((x3 == y3 && (x4 == y4 && (x5 == y5))) && (x6 == y6))) w := by
  refine eq_of (d := d + 2) Try.underlying92 (by kernel_rfl) ?_
  refine eq_cons (by rfl) (by first | (go_simp; done) | (go_simp; rfl)) (by first | (go_simp; done) | (go_simp; rfl)) (eqD70 _ w x0 y0 x1 y1 x2 y2) ?_
  refine eq_cons (by rfl) (by first | (go_simp; done) | (go_simp; rfl)) (by first | (go_simp; done) | (go_simp; rfl)) (eqD70 _ w x3 y3 x4 y4 x5 y5) ?_
  exact eq_last (by rfl) (by first | (go_simp; done) | (go_simp; rfl)) (by first | (go_simp; done) | (go_simp; rfl)) (by go_simp)
theorem eq92 (d : Nat) (w : World) (x0 y0 : Int) (x1 y1 : Int) (x2 y2 : Int) (x3 y3 : Int) (x4 y4 : Int) (x5 y5 : Int) (x6 y6 : Bool) : (Op.equalIn (d + 20) 92 (.agg #[.int .i64 x0, .int .i64 x1, .int .i64 x2, .int .i64 x3, .int .i64 x4, .int .i64 x5, .bool x6]) (.agg #[.int .i64 y0, .int .i64 y1, .int .i64 y2, .int .i64 y3, .int .i64 y4, .int .i64 y5, .bool y6])).run Try.prog w = .ok ((x0 == y0 && (x1 == y1 && (x2 == y2))) && ((x3 == y3 && (x4 == y4 && (x5 == y5))) && (x6 == y6))) w := eqD92 (d + 17) w x0 y0 x1 y1 x2 y2 x3 y3 x4 y4 x5 y5 x6 y6
theorem mk42 : ∀ (zz : Value) (e : TypeId) (i : TypeInfo), Try.prog.underlying 42 = some (.slice e) → Try.prog.info? e = some i → i.zero = some zz → ∀ w, Kd.rep .bool 1 w zz.cells.toList false [] := by
  intro zz e i hu hi hz w
  have h1 : (Try.prog.underlying 42).bind (fun d => match d with | .slice e => (Try.prog.info? e).bind (fun i => i.zero) | _ => none) = some (.bool false) := by kernel_rfl
  rw [hu] at h1
  simp only [Option.bind_some, hi, hz, Option.some.injEq] at h1
  subst h1
  exact Kd.closed .bool (o := 1) (w := w) (x := false) (hs := []) (bs := []) 0 false (Nat.le_refl 1) rfl .nil
end Go.Proofs.Ytajjeemkdjfilaa.K
namespace Go.Proofs.Ytajjeemkdjfilaa.K
open Go Go.RowKit
set_option linter.unusedVariables false
set_option linter.unusedSimpArgs false

end Go.Proofs.Ytajjeemkdjfilaa.K
namespace Go.Proofs.Ytajjeemkdjfilaa.K
open Go Go.RowKit
set_option linter.unusedVariables false
set_option linter.unusedSimpArgs false
def spec_CompareRows.l0 : Nat → (List Int) → (List Int) → Int → Option (Int)
 | 0, _, _, _ => none
 | k + 1, x2_5, x2_6, x2_7 => if x2_7 < 3 then (if 0 ≤ x2_7 then (if x2_7 < (x2_5.length : Int) then (if x2_7 < (x2_6.length : Int) then (if (rdOf 0 x2_5 x2_7) < (rdOf 0 x2_6 x2_7) then (some (-1)) else (if (rdOf 0 x2_5 x2_7) > (rdOf 0 x2_6 x2_7) then (some 1) else (spec_CompareRows.l0 k x2_5 x2_6 (wrap64 (x2_7 + 1))))) else none) else none) else none) else (some 0)
def spec_CompareRows.f (k : Nat) (a0_0 : Int) (a0_1 : Int) (a0_2 : Int) (a1_0 : Int) (a1_1 : Int) (a1_2 : Int) : Option (Int) := spec_CompareRows.l0 k ([a0_0, a0_1, a0_2] : List Int) ([a1_0, a1_1, a1_2] : List Int) 0
set_option maxHeartbeats 4000000 in
set_option maxRecDepth 100000 in
theorem spec_CompareRows.ok (k : Nat) (a0_0 : Int) (a0_1 : Int) (a0_2 : Int) (a1_0 : Int) (a1_1 : Int) (a1_2 : Int) (r0 : Int) (H : spec_CompareRows.f k a0_0 a0_1 a0_2 a1_0 a1_1 a1_2 = some r0) : Fn Try.prog 115 [.agg #[.int .i64 a0_0, .int .i64 a0_1, .int .i64 a0_2], .agg #[.int .i64 a1_0, .int .i64 a1_1, .int .i64 a1_2]] [] [] (fun v bx en => v = .int .i64 r0 ∧ bx = [] ∧ en = []) := by
 refine fn_ 44 Try.func115 rfl rfl rfl (fun base T w0 => ?_)
 rw [spec_CompareRows.f] at H
 refine gs (rg (so rfl (op_box (cs := [.int .i64 a0_0, .int .i64 a0_1, .int .i64 a0_2]) rfl rfl rfl fun b2 => (so rfl (op_box (cs := [.int .i64 a1_0, .int .i64 a1_1, .int .i64 a1_2]) rfl rfl rfl fun b3 => (sv (EV.as rfl) rfl (re (gs (rg (sv (EV.fa 0 rfl) rfl (sv (EV.ld 0 none rfl rfl rfl) rfl (sv (EV.fa 1 rfl) rfl (sv (EV.ld 0 none rfl rfl rfl) rfl (sv (EV.fa 2 rfl) rfl (sv (EV.ld 0 none rfl rfl rfl) rfl (so rfl (op_lit (s := 1) (by_ := 8) (.int .i64) ([a0_0, a0_1, a0_2] : List Int) [[], [], []] [] 1 [.tmp 9, .tmp 11, .tmp 13] rfl rfl rfl rfl rfl rfl rfl rfl rfl rfl rfl rfl rfl dq rfl fun A14_1 c14_1 => (sv (EV.as rfl) rfl (re (pr [3, 5] [1] [0] rfl rfl rfl rfl (gs (rg (sv (EV.fa 0 rfl) rfl (sv (EV.ld 0 none rfl rfl rfl) rfl (sv (EV.fa 1 rfl) rfl (sv (EV.ld 0 none rfl rfl rfl) rfl (sv (EV.fa 2 rfl) rfl (sv (EV.ld 0 none rfl rfl rfl) rfl (so rfl ?_)))))))))))))))))))))))))))))
 refine op_lit (s := 1) (by_ := 8) (.int .i64) ([a1_0, a1_1, a1_2] : List Int) [[], [], []] [] 2 [.tmp 16, .tmp 18, .tmp 20] rfl rfl rfl rfl rfl rfl rfl rfl rfl rfl rfl rfl rfl dq rfl fun A21_2 c21_2 => (sv (EV.as rfl) rfl (re (pr [5, 6] [] [0, 1] rfl rfl rfl rfl (gs (gs (rg (sv (EV.as rfl) rfl (re (gb ?_)))))))))
 refine lo (fun kk S => ∃ (x2_5 : List Int) (Ax2_5 : Option Addr) (cx2_5 : Nat) (x2_6 : List Int) (Ax2_6 : Option Addr) (cx2_6 : Nat) (x2_7 : Int), spec_CompareRows.l0 kk x2_5 x2_6 x2_7 = some r0 ∧ S = ⟨[(5, .slice Ax2_5 x2_5.length cx2_5), (6, .slice Ax2_6 x2_6.length cx2_6), (7, .int .i64 x2_7)], [], [.sl 2 (.int .i64) Ax2_5 cx2_5 x2_5 1 true, .sl 2 (.int .i64) Ax2_6 cx2_6 x2_6 2 true]⟩) (fun S hS => ?_) (fun n0 ih0 S hS => ?_) ⟨([a0_0, a0_1, a0_2] : List Int), A14_1, c14_1, ([a1_0, a1_1, a1_2] : List Int), A21_2, c21_2, 0, H, rfl⟩ (fun h => wk [5, 6, 7] [] [⟨0, 2, 1, true⟩, ⟨1, 2, 2, true⟩] h)
 · clear H; obtain ⟨_, _, _, _, _, _, _, H, _⟩ := hS; rw [spec_CompareRows.l0] at H; cases H
 clear H
 obtain ⟨x2_5, Ax2_5, cx2_5, x2_6, Ax2_6, cx2_6, x2_7, H, rfl⟩ := hS
 rw [spec_CompareRows.l0] at H
 refine gs (gs (rg (sv (EV.mv rfl) rfl (sv (EV.lss rfl rfl) rfl (re ?_)))))
 revert H; refine ifsI ?_ ?_ <;> intro c3 H
 ·
  refine gt rfl (dT c3) (gk (gs (gb (gs (gs ?_)))))
  revert H; refine ggI ?_; intro g4 H
  revert H; refine ggI ?_; intro g5 H
  revert H; refine ggI ?_; intro g6 H
  refine dr [] [0, 1] [] 9 rfl rfl rfl rfl (xv 0 [] [0, 1] rfl (EV.mv rfl) rfl rfl rfl rfl (xv 1 [] [0, 1] rfl (EV.mv rfl) rfl rfl rfl rfl (xv 2 [] [0, 1] rfl (EV.ix 0 rfl rfl rfl g4 g5 rfl) rfl rfl rfl rfl (xv 3 [] [0, 1] rfl (EV.le (v := .int .i64 (rdOf 0 x2_5 x2_7)) x2_7 0 none 0 0 rfl rfl rfl g4 g5 rfl rfl rfl) rfl rfl rfl rfl (xv 4 [] [0, 1] rfl (EV.mv rfl) rfl rfl rfl rfl (xv 5 [] [0, 1] rfl (EV.mv rfl) rfl rfl rfl rfl (xv 6 [] [0, 1] rfl (EV.ix 1 rfl rfl rfl g4 g6 rfl) rfl rfl rfl rfl (xv 7 [] [0, 1] rfl (EV.le (v := .int .i64 (rdOf 0 x2_6 x2_7)) x2_7 0 none 1 0 rfl rfl rfl g4 g6 rfl rfl rfl) rfl rfl rfl rfl (xv 8 [] [0, 1] rfl (EV.lss rfl rfl) rfl rfl rfl rfl (xd (pr [5, 6, 7, 34] [] [0, 1] rfl rfl rfl rfl ?_)))))))))))
  revert H; refine ifsI ?_ ?_ <;> intro c7 H
  ·
   refine gt rfl (dT c7) (gs (rg (sv (EV.as rfl) rfl (re ?_))))
   cases H
   exact rt Try.func115 rfl (.tmp rfl .nil) rfl [] [] rfl rfl rfl rfl rfl ⟨rfl, rfl, rfl⟩
  ·
   refine gf rfl (dF c7) (gk (gs (dr [] [0, 1] [] 9 rfl rfl rfl rfl (xv 0 [] [0, 1] rfl (EV.mv rfl) rfl rfl rfl rfl (xv 1 [] [0, 1] rfl (EV.mv rfl) rfl rfl rfl rfl (xv 2 [] [0, 1] rfl (EV.ix 0 rfl rfl rfl g4 g5 rfl) rfl rfl rfl rfl (xv 3 [] [0, 1] rfl (EV.le (v := .int .i64 (rdOf 0 x2_5 x2_7)) x2_7 0 none 0 0 rfl rfl rfl g4 g5 rfl rfl rfl) rfl rfl rfl rfl (xv 4 [] [0, 1] rfl (EV.mv rfl) rfl rfl rfl rfl (xv 5 [] [0, 1] rfl (EV.mv rfl) rfl rfl rfl rfl (xv 6 [] [0, 1] rfl (EV.ix 1 rfl rfl rfl g4 g6 rfl) rfl rfl rfl rfl (xv 7 [] [0, 1] rfl (EV.le (v := .int .i64 (rdOf 0 x2_6 x2_7)) x2_7 0 none 1 0 rfl rfl rfl g4 g6 rfl rfl rfl) rfl rfl rfl rfl (xv 8 [] [0, 1] rfl (EV.gtr rfl rfl) rfl rfl rfl rfl (xd (pr [5, 6, 7, 43] [] [0, 1] rfl rfl rfl rfl ?_))))))))))))))
   revert H; refine ifsI ?_ ?_ <;> intro c8 H
   ·
    refine gt rfl (dT c8) (gs (rg (sv (EV.as rfl) rfl (re ?_))))
    cases H
    exact rt Try.func115 rfl (.tmp rfl .nil) rfl [] [] rfl rfl rfl rfl rfl ⟨rfl, rfl, rfl⟩
   ·
    exact gf rfl (dF c8) (gk (ge (rg (sv (EV.mv rfl) rfl (sv (EV.add rfl rfl) rfl (sv (EV.as rfl) rfl (re (wk [5, 6, 7] [] [⟨0, 2, 1, true⟩, ⟨1, 2, 2, true⟩] (ih0 _ (by omega) _ ⟨x2_5, Ax2_5, cx2_5, x2_6, Ax2_6, cx2_6, wrap64 (x2_7 + 1), H, rfl⟩)))))))))
 ·
  refine gf rfl (dF c3) (gx rfl (gs (rg (sv (EV.as rfl) rfl (re ?_)))))
  cases H
  exact rt Try.func115 rfl (.tmp rfl .nil) rfl [] [] rfl rfl rfl rfl rfl ⟨rfl, rfl, rfl⟩
end Go.Proofs.Ytajjeemkdjfilaa.K
namespace Go.Proofs.Ytajjeemkdjfilaa.K
open Go Go.RowKit
set_option linter.unusedVariables false
set_option linter.unusedSimpArgs false
def spec_ComparePairs.f (k : Nat) (a0_0 : Int) (a0_1 : Int) (a0_2 : Int) (a0_3 : Int) (a0_4 : Int) (a0_5 : Int) (a0_6 : Bool) (a1_0 : Int) (a1_1 : Int) (a1_2 : Int) (a1_3 : Int) (a1_4 : Int) (a1_5 : Int) (a1_6 : Bool) : Option (Int) := (spec_CompareRows.f k a0_0 a0_1 a0_2 a1_0 a1_1 a1_2).bind fun t1 => (if t1 = 0 then (if (a0_6 == a1_6) = true then ((spec_CompareRows.f k a0_3 a0_4 a0_5 a1_3 a1_4 a1_5).bind fun t4 => (some t4)) else (if a1_6 = true then (some (-1)) else (some 1))) else (some t1))
set_option maxHeartbeats 4000000 in
set_option maxRecDepth 100000 in
theorem spec_ComparePairs.ok (k : Nat) (a0_0 : Int) (a0_1 : Int) (a0_2 : Int) (a0_3 : Int) (a0_4 : Int) (a0_5 : Int) (a0_6 : Bool) (a1_0 : Int) (a1_1 : Int) (a1_2 : Int) (a1_3 : Int) (a1_4 : Int) (a1_5 : Int) (a1_6 : Bool) (r0 : Int) (H : spec_ComparePairs.f k a0_0 a0_1 a0_2 a0_3 a0_4 a0_5 a0_6 a1_0 a1_1 a1_2 a1_3 a1_4 a1_5 a1_6 = some r0) : Fn Try.prog 108 [.agg #[.int .i64 a0_0, .int .i64 a0_1, .int .i64 a0_2, .int .i64 a0_3, .int .i64 a0_4, .int .i64 a0_5, .bool a0_6], .agg #[.int .i64 a1_0, .int .i64 a1_1, .int .i64 a1_2, .int .i64 a1_3, .int .i64 a1_4, .int .i64 a1_5, .bool a1_6]] [] [] (fun v bx en => v = .int .i64 r0 ∧ bx = [] ∧ en = []) := by
 refine fn_ 26 Try.func108 rfl rfl rfl (fun base T w0 => ?_)
 rw [spec_ComparePairs.f] at H
 refine gs (rg (so rfl (op_box (cs := [.int .i64 a0_0, .int .i64 a0_1, .int .i64 a0_2, .int .i64 a0_3, .int .i64 a0_4, .int .i64 a0_5, .bool a0_6]) rfl rfl rfl fun b2 => (so rfl (op_box (cs := [.int .i64 a1_0, .int .i64 a1_1, .int .i64 a1_2, .int .i64 a1_3, .int .i64 a1_4, .int .i64 a1_5, .bool a1_6]) rfl rfl rfl fun b3 => (sv (EV.as rfl) rfl (re (gs (rg (sv (EV.fa 0 rfl) rfl (sv (EV.ld (v := .agg #[.int .i64 a0_0, .int .i64 a0_1, .int .i64 a0_2]) 0 (some 3) rfl rfl rfl) rfl (sv (EV.fa 0 rfl) rfl (sv (EV.ld (v := .agg #[.int .i64 a1_0, .int .i64 a1_1, .int .i64 a1_2]) 1 (some 3) rfl rfl rfl) rfl ?_)))))))))))))
 revert H; refine bdI ?_; rintro t1 A1 H
 refine so rfl (op_call (spec_CompareRows.ok k a0_0 a0_1 a0_2 a1_0 a1_1 a1_2 _ A1) [] 1 rfl rfl rfl rfl rfl ?_)
 rintro _ _ _ ⟨rfl, rfl, rfl⟩
 refine sv (EV.as rfl) rfl (re (pr [2, 3, 5] [0, 1] [] rfl rfl rfl rfl (gs (gs (rg (sv (EV.mv rfl) rfl (sv (EV.neq rfl rfl) rfl (re ?_))))))))
 revert H; refine ifsI ?_ ?_ <;> intro c2 H
 ·
  refine gf rfl (nF c2) (gk (gs (gs (rg (sv (EV.fa 6 rfl) rfl (sv (EV.ld 0 none rfl rfl rfl) rfl (sv (EV.fa 6 rfl) rfl (sv (EV.ld 1 none rfl rfl rfl) rfl (sv (EV.neb rfl rfl) rfl (re (pr [2, 3, 18] [0, 1] [] rfl rfl rfl rfl ?_)))))))))))
  revert H; refine ifsI ?_ ?_ <;> intro c3 H
  ·
   refine gf rfl (bN c3) (gk (gs (rg (sv (EV.fa 3 rfl) rfl (sv (EV.ld (v := .agg #[.int .i64 a0_3, .int .i64 a0_4, .int .i64 a0_5]) 0 (some 3) rfl rfl rfl) rfl (sv (EV.fa 3 rfl) rfl (sv (EV.ld (v := .agg #[.int .i64 a1_3, .int .i64 a1_4, .int .i64 a1_5]) 1 (some 3) rfl rfl rfl) rfl ?_)))))))
   revert H; refine bdI ?_; rintro t4 A4 H
   refine so rfl (op_call (spec_CompareRows.ok k a0_3 a0_4 a0_5 a1_3 a1_4 a1_5 _ A4) [] 1 rfl rfl rfl rfl rfl ?_)
   rintro _ _ _ ⟨rfl, rfl, rfl⟩
   refine sv (EV.as rfl) rfl (re (pr [4] [] [] rfl rfl rfl rfl ?_))
   cases H
   exact rt Try.func108 rfl (.tmp rfl .nil) rfl [] [] rfl rfl rfl rfl rfl ⟨rfl, rfl, rfl⟩
  ·
   refine gt rfl (bM c3) (gs (gs (rg (sv (EV.fa 6 rfl) rfl (sv (EV.ld 1 none rfl rfl rfl) rfl (re ?_))))))
   revert H; refine ifsI ?_ ?_ <;> intro c5 H
   ·
    subst c5
    refine gt rfl rfl (gs (rg (sv (EV.as rfl) rfl (re ?_))))
    cases H
    exact rt Try.func108 rfl (.tmp rfl .nil) rfl [] [] rfl rfl rfl rfl rfl ⟨rfl, rfl, rfl⟩
   ·
    obtain rfl := bF c5
    refine gf rfl rfl (gk (gs (rg (sv (EV.as rfl) rfl (re ?_)))))
    cases H
    exact rt Try.func108 rfl (.tmp rfl .nil) rfl [] [] rfl rfl rfl rfl rfl ⟨rfl, rfl, rfl⟩
 ·
  refine gt rfl (nT c2) (gs (rg (sv (EV.mv rfl) rfl (sv (EV.as rfl) rfl (re (pr [4] [] [] rfl rfl rfl rfl ?_))))))
  cases H
  exact rt Try.func108 rfl (.tmp rfl .nil) rfl [] [] rfl rfl rfl rfl rfl ⟨rfl, rfl, rfl⟩
end Go.Proofs.Ytajjeemkdjfilaa.K
namespace Go.Proofs.Ytajjeemkdjfilaa.K
open Go Go.RowKit
set_option linter.unusedVariables false
set_option linter.unusedSimpArgs false
mutual
def spec_l7Sorted.j0 : Nat → (List S92) → Int → Int → (List S92) → Option ((List S92))
 | 0, _, _, _, _ => none
 | k + 1, x25_3, x25_4, x25_5, l0 => if 0 ≤ x25_4 then (if x25_4 < (l0.length : Int) then (if 0 ≤ x25_5 then (if x25_5 ≤ (x25_3.length : Int) then (if ([(⟨(⟨(rd_T92 l0 x25_4).f0.f0, (rd_T92 l0 x25_4).f0.f1, (rd_T92 l0 x25_4).f0.f2⟩ : S70), (⟨(rd_T92 l0 x25_4).f1.f0, (rd_T92 l0 x25_4).f1.f1, (rd_T92 l0 x25_4).f1.f2⟩ : S70), (rd_T92 l0 x25_4).f2⟩ : S92)] : List S92).length + (x25_3.drop x25_5.toNat).length ≤ 2513169434916 then (if (x25_3.take x25_5.toNat).length ≤ 2513169434916 then (if (x25_3.take x25_5.toNat).length + (([(⟨(⟨(rd_T92 l0 x25_4).f0.f0, (rd_T92 l0 x25_4).f0.f1, (rd_T92 l0 x25_4).f0.f2⟩ : S70), (⟨(rd_T92 l0 x25_4).f1.f0, (rd_T92 l0 x25_4).f1.f1, (rd_T92 l0 x25_4).f1.f2⟩ : S70), (rd_T92 l0 x25_4).f2⟩ : S92)] : List S92) ++ (x25_3.drop x25_5.toNat)).length ≤ 2513169434916 then (spec_l7Sorted.l0 k ((x25_3.take x25_5.toNat) ++ (([(⟨(⟨(rd_T92 l0 x25_4).f0.f0, (rd_T92 l0 x25_4).f0.f1, (rd_T92 l0 x25_4).f0.f2⟩ : S70), (⟨(rd_T92 l0 x25_4).f1.f0, (rd_T92 l0 x25_4).f1.f1, (rd_T92 l0 x25_4).f1.f2⟩ : S70), (rd_T92 l0 x25_4).f2⟩ : S92)] : List S92) ++ (x25_3.drop x25_5.toNat))) (wrap64 (x25_4 + 1)) l0) else none) else none) else none) else none) else none) else none) else none
def spec_l7Sorted.l1 : Nat → (List S92) → Int → Int → (List S92) → Option ((List S92))
 | 0, _, _, _, _ => none
 | k + 1, x26_3, x26_4, x26_5, l0 => if x26_5 > 0 then (if 0 ≤ (wrap64 (x26_5 - 1)) then (if (wrap64 (x26_5 - 1)) < (x26_3.length : Int) then (if 0 ≤ x26_4 then (if x26_4 < (l0.length : Int) then ((spec_ComparePairs.f k ((rd_T92 x26_3 (wrap64 (x26_5 - 1))).f0.f0) ((rd_T92 x26_3 (wrap64 (x26_5 - 1))).f0.f1) ((rd_T92 x26_3 (wrap64 (x26_5 - 1))).f0.f2) ((rd_T92 x26_3 (wrap64 (x26_5 - 1))).f1.f0) ((rd_T92 x26_3 (wrap64 (x26_5 - 1))).f1.f1) ((rd_T92 x26_3 (wrap64 (x26_5 - 1))).f1.f2) ((rd_T92 x26_3 (wrap64 (x26_5 - 1))).f2) ((rd_T92 l0 x26_4).f0.f0) ((rd_T92 l0 x26_4).f0.f1) ((rd_T92 l0 x26_4).f0.f2) ((rd_T92 l0 x26_4).f1.f0) ((rd_T92 l0 x26_4).f1.f1) ((rd_T92 l0 x26_4).f1.f2) ((rd_T92 l0 x26_4).f2)).bind fun t21 => (if t21 > 0 then (spec_l7Sorted.l1 k x26_3 x26_4 (wrap64 (x26_5 - 1)) l0) else (spec_l7Sorted.j0 k x26_3 x26_4 x26_5 l0))) else none) else none) else none) else none) else (spec_l7Sorted.j0 k x26_3 x26_4 x26_5 l0)
def spec_l7Sorted.l0 : Nat → (List S92) → Int → (List S92) → Option ((List S92))
 | 0, _, _, _ => none
 | k + 1, x14_3, x14_4, l0 => if x14_4 < (l0.length : Int) then (spec_l7Sorted.l1 k x14_3 x14_4 (x14_3.length : Int) l0) else (some x14_3)
end
def spec_l7Sorted.f (k : Nat) (l0 : List S92) : Option ((List S92)) := spec_l7Sorted.l0 k [] 0 l0
set_option maxHeartbeats 4000000 in
set_option maxRecDepth 100000 in
theorem spec_l7Sorted.ok (k : Nat) (l0 : List S92) (Al0 : Option Addr) (cl0 : Nat) (r0 : List S92) (H : spec_l7Sorted.f k l0 = some r0) : Fn Try.prog 71 [.slice Al0 l0.length cl0] [] [.sl 0 k92 Al0 cl0 l0 0 false] (fun v bx en => ∃ A0 c0, v = .slice A0 r0.length c0 ∧ bx = [] ∧ en = [.sl 2 k92 A0 c0 r0 1 true]) := by
 refine fn_ 50 Try.func71 rfl rfl rfl (fun base T w0 => ?_)
 rw [spec_l7Sorted.f] at H
 refine gs (rg (sv (EV.as rfl) rfl (re (gs (rg (so rfl (op_lit (s := 7) (by_ := 56) k92 ([] : List S92) [] [] 1 [] rfl rfl rfl rfl rfl rfl rfl rfl rfl rfl rfl rfl rfl dq rfl fun A7_1 c7_1 => (sv (EV.as rfl) rfl (re (gs (gs (rg (sv (EV.as rfl) rfl (re (gb ?_)))))))))))))))
 refine lo (fun kk S => ∃ (x14_3 : List S92) (Ax14_3 : Option Addr) (cx14_3 : Nat) (x14_4 : Int), spec_l7Sorted.l0 kk x14_3 x14_4 l0 = some r0 ∧ S = ⟨[(0, .slice Al0 l0.length cl0), (3, .slice Ax14_3 x14_3.length cx14_3), (4, .int .i64 x14_4)], [], [.sl 2 k92 Ax14_3 cx14_3 x14_3 1 true, .sl 0 k92 Al0 cl0 l0 0 false]⟩) (fun S hS => ?_) (fun n0 ih0 S hS => ?_) ⟨[], A7_1, c7_1, 0, H, rfl⟩ (fun h => wk [0, 3, 4] [] [⟨1, 2, 1, true⟩, ⟨0, 0, 0, false⟩] h)
 · clear H; obtain ⟨_, _, _, _, H, _⟩ := hS; rw [spec_l7Sorted.l0] at H; cases H
 clear H
 obtain ⟨x14_3, Ax14_3, cx14_3, x14_4, H, rfl⟩ := hS
 rw [spec_l7Sorted.l0] at H
 refine gs (gs (rg (sv (EV.mv rfl) rfl (sv (EV.mv rfl) rfl (sv (EV.ln rfl) rfl (sv (EV.lss rfl rfl) rfl (re ?_)))))))
 revert H; refine ifsI ?_ ?_ <;> intro c2 H
 ·
  refine gt rfl (dT c2) (gk (gs (gb (gs (rg (sv (EV.mv rfl) rfl (sv (EV.ln rfl) rfl (sv (EV.as rfl) rfl (re (pr [0, 3, 4, 5] [] [0, 1] rfl rfl rfl rfl ?_))))))))))
  refine jo (fun S => ∃ (m : Nat) (x25_3 : List S92) (Ax25_3 : Option Addr) (cx25_3 : Nat) (x25_4 : Int) (x25_5 : Int), m ≤ n0 ∧ spec_l7Sorted.j0 m x25_3 x25_4 x25_5 l0 = some r0 ∧ S = ⟨[(0, .slice Al0 l0.length cl0), (3, .slice Ax25_3 x25_3.length cx25_3), (4, .int .i64 x25_4), (5, .int .i64 x25_5)], [], [.sl 2 k92 Ax25_3 cx25_3 x25_3 1 true, .sl 0 k92 Al0 cl0 l0 0 false]⟩) (fun S hS => ?_) (fun jh0 => ?_)
  ·
   clear H
   obtain ⟨m3, x25_3, Ax25_3, cx25_3, x25_4, x25_5, lm3, H, rfl⟩ := hS
   rcases m3 with _ | m3
   · rw [spec_l7Sorted.j0] at H; cases H
   rw [spec_l7Sorted.j0] at H
   refine gs ?_
   revert H; refine ggI ?_; intro g4 H
   revert H; refine ggI ?_; intro g5 H
   revert H; refine ggI ?_; intro g6 H
   revert H; refine ggI ?_; intro g7 H
   refine dr [] [0, 1] [9] 10 rfl rfl rfl rfl (xv 0 [] [0, 1] rfl (EV.mv rfl) rfl rfl rfl rfl (xv 1 [] [0, 1] rfl (EV.mv rfl) rfl rfl rfl rfl (xv 2 [] [0, 1] rfl (EV.ix 1 rfl rfl rfl g4 g5 rfl) rfl rfl rfl rfl (xv 3 [] [0, 1] rfl (EV.le (v := .agg #[.int .i64 ((rd_T92 l0 x25_4).f0.f0), .int .i64 ((rd_T92 l0 x25_4).f0.f1), .int .i64 ((rd_T92 l0 x25_4).f0.f2), .int .i64 ((rd_T92 l0 x25_4).f1.f0), .int .i64 ((rd_T92 l0 x25_4).f1.f1), .int .i64 ((rd_T92 l0 x25_4).f1.f2), .bool ((rd_T92 l0 x25_4).f2)]) x25_4 0 (some 7) 1 z92 rfl rfl rfl g4 g5 rfl rfl rfl) rfl rfl rfl rfl (xv 5 [] [0, 1] rfl (EV.mv rfl) rfl rfl rfl rfl (xv 6 [] [0, 1] rfl (EV.mv rfl) rfl rfl rfl rfl (cutp (l' := x25_3.drop x25_5.toNat) x25_5 (x25_3.length : Int) 0 rfl g6 g7 (Int.le_refl _) rfl 1 dq (.inl dq) ctl (xv 7 [] [0, 1] rfl (EV.ct x25_5 (x25_3.length : Int) 0 rfl rfl rfl rfl g6 g7 (Int.le_refl _) rfl rfl ctnl) rfl rfl rfl rfl (one1 4 rfl rfl (op_lit (s := 7) (by_ := 56) k92 ([(⟨(⟨(rd_T92 l0 x25_4).f0.f0, (rd_T92 l0 x25_4).f0.f1, (rd_T92 l0 x25_4).f0.f2⟩ : S70), (⟨(rd_T92 l0 x25_4).f1.f0, (rd_T92 l0 x25_4).f1.f1, (rd_T92 l0 x25_4).f1.f2⟩ : S70), (rd_T92 l0 x25_4).f2⟩ : S92)] : List S92) [[]] [] 2 [.tmp 36] rfl rfl rfl rfl rfl rfl rfl rfl rfl rfl rfl rfl rfl dq rfl fun A37_8 c37_8 => (xs [] [0, 1] rfl rfl rfl (one1 8 rfl rfl ?_))))))))))))
   revert H; refine ggI ?_; intro g9 H
   refine op_app (k := k92) (s := 7) (by_ := 56) 3 2 rfl rfl rfl rfl (ap2 g9 dq) (ap2n g9 dq) (.inl rfl) true (fun _ => .inl rfl) rfl rfl fun A41_10 c41_10 => (nmE (en := [.sl 2 k92 Ax25_3 cx25_3 x25_3 1 true, .sl 0 k92 Al0 cl0 l0 0 false, .sl 1 k92 (cutA Ax25_3 cx25_3 x25_5.toNat 7) (cx25_3 - x25_5.toNat) (x25_3.drop x25_5.toNat) 1 true, .sl 2 k92 A41_10 c41_10 (([(⟨(⟨(rd_T92 l0 x25_4).f0.f0, (rd_T92 l0 x25_4).f0.f1, (rd_T92 l0 x25_4).f0.f2⟩ : S70), (⟨(rd_T92 l0 x25_4).f1.f0, (rd_T92 l0 x25_4).f1.f1, (rd_T92 l0 x25_4).f1.f2⟩ : S70), (rd_T92 l0 x25_4).f2⟩ : S92)] : List S92) ++ (x25_3.drop x25_5.toNat)) 2 true]) (by kernel_rfl) (xs [] [0, 1] rfl rfl rfl (one1 9 rfl rfl (ov (EV.as rfl) rfl (xn rfl (xd (pr [0, 3, 4, 5, 6] [] [0, 1, 3] rfl rfl rfl rfl (rg (so rfl (op_lit (s := 7) (by_ := 56) k92 ([] : List S92) [] [] 3 [] rfl rfl rfl rfl rfl rfl rfl rfl rfl rfl rfl rfl rfl dq rfl fun A42_11 c42_11 => (sv (EV.mv rfl) rfl (sv (EV.mv rfl) rfl (cutp (l' := x25_3.take x25_5.toNat) 0 x25_5 0 rfl (Int.le_refl 0) g6 g7 rfl 2 dq (.inr rfl) rfl (sv (EV.ct 0 x25_5 0 rfl rfl rfl rfl (Int.le_refl 0) g6 g7 rfl rfl ctnh) rfl ?_))))))))))))))
   revert H; refine ggI ?_; intro g12 H
   refine so rfl (op_app (k := k92) (s := 7) (by_ := 56) 3 4 rfl rfl rfl rfl (ap0 g12 dq) (ap0n g12 dq) (.inl rfl) true (fun _ => .inl rfl) rfl rfl fun A46_13 c46_13 => (nmE (en := [.sl 2 k92 Ax25_3 cx25_3 x25_3 1 true, .sl 0 k92 Al0 cl0 l0 0 false, .sl 2 k92 A41_10 c41_10 (([(⟨(⟨(rd_T92 l0 x25_4).f0.f0, (rd_T92 l0 x25_4).f0.f1, (rd_T92 l0 x25_4).f0.f2⟩ : S70), (⟨(rd_T92 l0 x25_4).f1.f0, (rd_T92 l0 x25_4).f1.f1, (rd_T92 l0 x25_4).f1.f2⟩ : S70), (rd_T92 l0 x25_4).f2⟩ : S92)] : List S92) ++ (x25_3.drop x25_5.toNat)) 2 true, .sl 2 k92 (cutA Ax25_3 cx25_3 (0 : Int).toNat 7) (cx25_3 - (0 : Int).toNat) (x25_3.take x25_5.toNat) 1 true, .sl 2 k92 A46_13 c46_13 (x25_3.take x25_5.toNat) 3 true]) (by kernel_rfl) (sv (EV.mv rfl) rfl ?_)))
   revert H; refine ggI ?_; intro g14 H
   exact so rfl (op_app (k := k92) (s := 7) (by_ := 56) 4 2 rfl rfl rfl rfl (ap2 g14 dq) (ap2n g14 dq) (.inl rfl) true (fun _ => .inl rfl) rfl rfl fun A48_15 c48_15 => (nmE (en := [.sl 2 k92 Ax25_3 cx25_3 x25_3 1 true, .sl 0 k92 Al0 cl0 l0 0 false, .sl 2 k92 A41_10 c41_10 (([(⟨(⟨(rd_T92 l0 x25_4).f0.f0, (rd_T92 l0 x25_4).f0.f1, (rd_T92 l0 x25_4).f0.f2⟩ : S70), (⟨(rd_T92 l0 x25_4).f1.f0, (rd_T92 l0 x25_4).f1.f1, (rd_T92 l0 x25_4).f1.f2⟩ : S70), (rd_T92 l0 x25_4).f2⟩ : S92)] : List S92) ++ (x25_3.drop x25_5.toNat)) 2 true, .sl 2 k92 (cutA Ax25_3 cx25_3 (0 : Int).toNat 7) (cx25_3 - (0 : Int).toNat) (x25_3.take x25_5.toNat) 1 true, .sl 2 k92 A48_15 c48_15 ((x25_3.take x25_5.toNat) ++ (([(⟨(⟨(rd_T92 l0 x25_4).f0.f0, (rd_T92 l0 x25_4).f0.f1, (rd_T92 l0 x25_4).f0.f2⟩ : S70), (⟨(rd_T92 l0 x25_4).f1.f0, (rd_T92 l0 x25_4).f1.f1, (rd_T92 l0 x25_4).f1.f2⟩ : S70), (rd_T92 l0 x25_4).f2⟩ : S92)] : List S92) ++ (x25_3.drop x25_5.toNat))) 3 true]) (by kernel_rfl) (sv (EV.as rfl) rfl (re (pr [0, 3, 4] [] [1, 4] rfl rfl rfl rfl (ge (rg (sv (EV.mv rfl) rfl (sv (EV.add rfl rfl) rfl (sv (EV.as rfl) rfl (re (wk [0, 3, 4] [] [⟨1, 2, 1, true⟩, ⟨0, 0, 0, false⟩] (ih0 _ (by omega) _ ⟨(x25_3.take x25_5.toNat) ++ (([(⟨(⟨(rd_T92 l0 x25_4).f0.f0, (rd_T92 l0 x25_4).f0.f1, (rd_T92 l0 x25_4).f0.f2⟩ : S70), (⟨(rd_T92 l0 x25_4).f1.f0, (rd_T92 l0 x25_4).f1.f1, (rd_T92 l0 x25_4).f1.f2⟩ : S70), (rd_T92 l0 x25_4).f2⟩ : S92)] : List S92) ++ (x25_3.drop x25_5.toNat)), A48_15, c48_15, wrap64 (x25_4 + 1), H, rfl⟩)))))))))))))
  ·
   refine gb ?_
   refine lo (fun kk S => ∃ (x26_3 : List S92) (Ax26_3 : Option Addr) (cx26_3 : Nat) (x26_4 : Int) (x26_5 : Int), kk ≤ n0 ∧ spec_l7Sorted.l1 kk x26_3 x26_4 x26_5 l0 = some r0 ∧ S = ⟨[(0, .slice Al0 l0.length cl0), (3, .slice Ax26_3 x26_3.length cx26_3), (4, .int .i64 x26_4), (5, .int .i64 x26_5)], [], [.sl 2 k92 Ax26_3 cx26_3 x26_3 1 true, .sl 0 k92 Al0 cl0 l0 0 false]⟩) (fun S hS => ?_) (fun n1 ih1 S hS => ?_) ⟨x14_3, Ax14_3, cx14_3, x14_4, (x14_3.length : Int), by omega, H, rfl⟩ (fun h => wk [0, 3, 4, 5] [] [⟨0, 2, 1, true⟩, ⟨1, 0, 0, false⟩] h)
   · clear H; obtain ⟨_, _, _, _, _, _, H, _⟩ := hS; rw [spec_l7Sorted.l1] at H; cases H
   clear H
   obtain ⟨x26_3, Ax26_3, cx26_3, x26_4, x26_5, lk1, H, rfl⟩ := hS
   rw [spec_l7Sorted.l1] at H
   refine gs (gs (dr [] [0, 1] [] 15 rfl rfl rfl rfl (xv 0 [] [0, 1] rfl (EV.mv rfl) rfl rfl rfl rfl (xv 1 [] [0, 1] rfl (EV.gtr rfl rfl) rfl rfl rfl rfl (xv 2 [] [0, 1] rfl (EV.mv rfl) rfl rfl rfl rfl ?_)))))
   revert H; refine ifsI ?_ ?_ <;> intro c16 H
   ·
    refine ts 18 rfl (dT c16) (xv 3 [] [0, 1] rfl (EV.mv rfl) rfl rfl rfl rfl (xv 4 [] [0, 1] rfl (EV.mv rfl) rfl rfl rfl rfl (xv 5 [] [0, 1] rfl (EV.sub rfl rfl) rfl rfl rfl rfl ?_)))
    revert H; refine ggI ?_; intro g17 H
    revert H; refine ggI ?_; intro g18 H
    refine xv 6 [] [0, 1] rfl (EV.ix 0 rfl rfl rfl g17 g18 rfl) rfl rfl rfl rfl (xv 7 [] [0, 1] rfl (EV.le (v := .agg #[.int .i64 ((rd_T92 x26_3 (wrap64 (x26_5 - 1))).f0.f0), .int .i64 ((rd_T92 x26_3 (wrap64 (x26_5 - 1))).f0.f1), .int .i64 ((rd_T92 x26_3 (wrap64 (x26_5 - 1))).f0.f2), .int .i64 ((rd_T92 x26_3 (wrap64 (x26_5 - 1))).f1.f0), .int .i64 ((rd_T92 x26_3 (wrap64 (x26_5 - 1))).f1.f1), .int .i64 ((rd_T92 x26_3 (wrap64 (x26_5 - 1))).f1.f2), .bool ((rd_T92 x26_3 (wrap64 (x26_5 - 1))).f2)]) (wrap64 (x26_5 - 1)) 0 (some 7) 0 z92 rfl rfl rfl g17 g18 rfl rfl rfl) rfl rfl rfl rfl (xv 8 [] [0, 1] rfl (EV.mv rfl) rfl rfl rfl rfl (xv 9 [] [0, 1] rfl (EV.mv rfl) rfl rfl rfl rfl ?_)))
    revert H; refine ggI ?_; intro g19 H
    revert H; refine ggI ?_; intro g20 H
    refine xv 10 [] [0, 1] rfl (EV.ix 1 rfl rfl rfl g19 g20 rfl) rfl rfl rfl rfl (xv 11 [] [0, 1] rfl (EV.le (v := .agg #[.int .i64 ((rd_T92 l0 x26_4).f0.f0), .int .i64 ((rd_T92 l0 x26_4).f0.f1), .int .i64 ((rd_T92 l0 x26_4).f0.f2), .int .i64 ((rd_T92 l0 x26_4).f1.f0), .int .i64 ((rd_T92 l0 x26_4).f1.f1), .int .i64 ((rd_T92 l0 x26_4).f1.f2), .bool ((rd_T92 l0 x26_4).f2)]) x26_4 0 (some 7) 1 z92 rfl rfl rfl g19 g20 rfl rfl rfl) rfl rfl rfl rfl (one1 12 rfl rfl ?_))
    revert H; refine bdI ?_; rintro t21 A21 H
    refine op_call (spec_ComparePairs.ok n1 ((rd_T92 x26_3 (wrap64 (x26_5 - 1))).f0.f0) ((rd_T92 x26_3 (wrap64 (x26_5 - 1))).f0.f1) ((rd_T92 x26_3 (wrap64 (x26_5 - 1))).f0.f2) ((rd_T92 x26_3 (wrap64 (x26_5 - 1))).f1.f0) ((rd_T92 x26_3 (wrap64 (x26_5 - 1))).f1.f1) ((rd_T92 x26_3 (wrap64 (x26_5 - 1))).f1.f2) ((rd_T92 x26_3 (wrap64 (x26_5 - 1))).f2) ((rd_T92 l0 x26_4).f0.f0) ((rd_T92 l0 x26_4).f0.f1) ((rd_T92 l0 x26_4).f0.f2) ((rd_T92 l0 x26_4).f1.f0) ((rd_T92 l0 x26_4).f1.f1) ((rd_T92 l0 x26_4).f1.f2) ((rd_T92 l0 x26_4).f2) _ A21) [] 2 rfl rfl rfl rfl rfl ?_
    rintro _ _ _ ⟨rfl, rfl, rfl⟩
    refine xs [] [0, 1] rfl rfl rfl (xv 13 [] [0, 1] rfl (EV.gtr rfl rfl) rfl rfl rfl rfl (xv 14 [] [0, 1] rfl (EV.pt rfl rfl rfl) rfl rfl rfl rfl (xd ?_)))
    revert H; refine ifsI ?_ ?_ <;> intro c22 H
    ·
     exact gt rfl (dT c22) (gk (gb (rg (sv (EV.mv rfl) rfl (sv (EV.sub rfl rfl) rfl (sv (EV.as rfl) rfl (re (pr [0, 3, 4, 5, 19, 20, 21, 22, 23, 24, 25, 26, 27, 28, 29] [] [0, 1] rfl rfl rfl rfl (ge (wk [0, 3, 4, 5] [] [⟨0, 2, 1, true⟩, ⟨1, 0, 0, false⟩] (ih1 _ (by omega) _ ⟨x26_3, Ax26_3, cx26_3, x26_4, wrap64 (x26_5 - 1), by omega, H, rfl⟩)))))))))))
    ·
     exact gf rfl (dF c22) (gx rfl (wk [0, 3, 4, 5] [] [⟨0, 2, 1, true⟩, ⟨1, 0, 0, false⟩] (jh0 _ ⟨_, x26_3, Ax26_3, cx26_3, x26_4, x26_5, by omega, H, rfl⟩)))
   ·
    exact ts 18 rfl (dF c16) (xk 3 [] [0, 1] rfl rfl rfl rfl rfl (xk 4 [] [0, 1] rfl rfl rfl rfl rfl (xk 5 [] [0, 1] rfl rfl rfl rfl rfl (xk 6 [] [0, 1] rfl rfl rfl rfl rfl (xk 7 [] [0, 1] rfl rfl rfl rfl rfl (xk 8 [] [0, 1] rfl rfl rfl rfl rfl (xk 9 [] [0, 1] rfl rfl rfl rfl rfl (xk 10 [] [0, 1] rfl rfl rfl rfl rfl (xk 11 [] [0, 1] rfl rfl rfl rfl rfl (xk 12 [] [0, 1] rfl rfl rfl rfl rfl (xk 13 [] [0, 1] rfl rfl rfl rfl rfl (xv 14 [] [0, 1] rfl (EV.pf rfl rfl rfl) rfl rfl rfl rfl (xd (pr [0, 3, 4, 5, 30] [] [0, 1] rfl rfl rfl rfl (gf rfl rfl (gx rfl (wk [0, 3, 4, 5] [] [⟨0, 2, 1, true⟩, ⟨1, 0, 0, false⟩] (jh0 _ ⟨_, x26_3, Ax26_3, cx26_3, x26_4, x26_5, by omega, H, rfl⟩))))))))))))))))))
 ·
  refine gf rfl (dF c2) (gx rfl (gs (rg (sv (EV.mv rfl) rfl (sv (EV.as rfl) rfl (re (pr [2] [] [0] rfl rfl rfl rfl ?_)))))))
  cases H
  exact rt Try.func71 rfl (.tmp rfl .nil) rfl [] [⟨0, 2, 1, true⟩] rfl rfl rfl rfl rfl ⟨_, _, rfl, rfl, rfl⟩
end Go.Proofs.Ytajjeemkdjfilaa.K
namespace Go.Proofs.Ytajjeemkdjfilaa.K
open Go Go.RowKit
set_option linter.unusedVariables false
set_option linter.unusedSimpArgs false
def spec_EqualPairBags.l0 : Nat → (List S92) → (List S92) → Int → Option (Bool)
 | 0, _, _, _ => none
 | k + 1, x2_5, x2_6, x2_7 => if x2_7 < (x2_5.length : Int) then (if 0 ≤ x2_7 then (if x2_7 < (x2_6.length : Int) then (if ((((rd_T92 x2_5 x2_7).f0.f0) == ((rd_T92 x2_6 x2_7).f0.f0) && (((rd_T92 x2_5 x2_7).f0.f1) == ((rd_T92 x2_6 x2_7).f0.f1) && (((rd_T92 x2_5 x2_7).f0.f2) == ((rd_T92 x2_6 x2_7).f0.f2)))) && ((((rd_T92 x2_5 x2_7).f1.f0) == ((rd_T92 x2_6 x2_7).f1.f0) && (((rd_T92 x2_5 x2_7).f1.f1) == ((rd_T92 x2_6 x2_7).f1.f1) && (((rd_T92 x2_5 x2_7).f1.f2) == ((rd_T92 x2_6 x2_7).f1.f2)))) && (((rd_T92 x2_5 x2_7).f2) == ((rd_T92 x2_6 x2_7).f2)))) = true then (spec_EqualPairBags.l0 k x2_5 x2_6 (wrap64 (x2_7 + 1))) else (some false)) else none) else none) else (some true)
def spec_EqualPairBags.f (k : Nat) (l0 : List S92) (l1 : List S92) : Option (Bool) := (spec_l7Sorted.f k l0).bind fun t1 => ((spec_l7Sorted.f k l1).bind fun t2 => (if (t1.length : Int) = (t2.length : Int) then (spec_EqualPairBags.l0 k t1 t2 0) else (some false)))
set_option maxHeartbeats 4000000 in
set_option maxRecDepth 100000 in
theorem spec_EqualPairBags.ok (k : Nat) (l0 : List S92) (Al0 : Option Addr) (cl0 : Nat) (l1 : List S92) (Al1 : Option Addr) (cl1 : Nat) (r0 : Bool) (H : spec_EqualPairBags.f k l0 l1 = some r0) : Fn Try.prog 13 [.slice Al0 l0.length cl0, .slice Al1 l1.length cl1] [] [.sl 0 k92 Al0 cl0 l0 0 false, .sl 0 k92 Al1 cl1 l1 0 false] (fun v bx en => v = .bool r0 ∧ bx = [] ∧ en = []) := by
 refine fn_ 32 Try.func13 rfl rfl rfl (fun base T w0 => ?_)
 rw [spec_EqualPairBags.f] at H
 refine gs (rg (sv (EV.as rfl) rfl (re (gs (rg (sv (EV.mv rfl) rfl ?_))))))
 revert H; refine bdI ?_; rintro t1 A1 H
 refine so rfl (op_call (spec_l7Sorted.ok k l0 Al0 cl0 _ A1) [⟨0, 0, 0, false⟩] 1 rfl rfl rfl rfl rfl ?_)
 rintro _ _ _ ⟨At1, ct1, rfl, rfl, rfl⟩
 refine sv (EV.as rfl) rfl (re (gs (rg (sv (EV.mv rfl) rfl ?_))))
 revert H; refine bdI ?_; rintro t2 A2 H
 refine so rfl (op_call (spec_l7Sorted.ok k l1 Al1 cl1 _ A2) [⟨1, 0, 0, false⟩] 3 rfl rfl rfl rfl rfl ?_)
 rintro _ _ _ ⟨At2, ct2, rfl, rfl, rfl⟩
 refine sv (EV.as rfl) rfl (re (pr [5, 6] [] [2, 3] rfl rfl rfl rfl (gs (gs (rg (sv (EV.mv rfl) rfl (sv (EV.ln rfl) rfl (sv (EV.mv rfl) rfl (sv (EV.ln rfl) rfl (sv (EV.neq rfl rfl) rfl (re ?_)))))))))))
 revert H; refine ifsI ?_ ?_ <;> intro c3 H
 ·
  refine gf rfl (nF c3) (gk (gs (gs (rg (sv (EV.as rfl) rfl (re (gb ?_)))))))
  refine lo (fun kk S => ∃ (x2_5 : List S92) (Ax2_5 : Option Addr) (cx2_5 : Nat) (x2_6 : List S92) (Ax2_6 : Option Addr) (cx2_6 : Nat) (x2_7 : Int), spec_EqualPairBags.l0 kk x2_5 x2_6 x2_7 = some r0 ∧ S = ⟨[(5, .slice Ax2_5 x2_5.length cx2_5), (6, .slice Ax2_6 x2_6.length cx2_6), (7, .int .i64 x2_7)], [], [.sl 2 k92 Ax2_5 cx2_5 x2_5 1 true, .sl 2 k92 Ax2_6 cx2_6 x2_6 2 true]⟩) (fun S hS => ?_) (fun n0 ih0 S hS => ?_) ⟨t1, At1, ct1, t2, At2, ct2, 0, H, rfl⟩ (fun h => wk [5, 6, 7] [] [⟨0, 2, 1, true⟩, ⟨1, 2, 2, true⟩] h)
  · clear H; obtain ⟨_, _, _, _, _, _, _, H, _⟩ := hS; rw [spec_EqualPairBags.l0] at H; cases H
  clear H
  obtain ⟨x2_5, Ax2_5, cx2_5, x2_6, Ax2_6, cx2_6, x2_7, H, rfl⟩ := hS
  rw [spec_EqualPairBags.l0] at H
  refine gs (gs (rg (sv (EV.mv rfl) rfl (sv (EV.mv rfl) rfl (sv (EV.ln rfl) rfl (sv (EV.lss rfl rfl) rfl (re ?_)))))))
  revert H; refine ifsI ?_ ?_ <;> intro c4 H
  ·
   refine gt rfl (dT c4) (gk (gs (gb (gs ?_))))
   revert H; refine ggI ?_; intro g5 H
   revert H; refine ggI ?_; intro g6 H
   refine dr [] [0, 1] [] 9 rfl rfl rfl rfl (xv 0 [] [0, 1] rfl (EV.mv rfl) rfl rfl rfl rfl (xv 1 [] [0, 1] rfl (EV.mv rfl) rfl rfl rfl rfl (xv 2 [] [0, 1] rfl (EV.ix 0 rfl rfl rfl g5 c4 rfl) rfl rfl rfl rfl (xv 3 [] [0, 1] rfl (EV.le (v := .agg #[.int .i64 ((rd_T92 x2_5 x2_7).f0.f0), .int .i64 ((rd_T92 x2_5 x2_7).f0.f1), .int .i64 ((rd_T92 x2_5 x2_7).f0.f2), .int .i64 ((rd_T92 x2_5 x2_7).f1.f0), .int .i64 ((rd_T92 x2_5 x2_7).f1.f1), .int .i64 ((rd_T92 x2_5 x2_7).f1.f2), .bool ((rd_T92 x2_5 x2_7).f2)]) x2_7 0 (some 7) 0 z92 rfl rfl rfl g5 c4 rfl rfl rfl) rfl rfl rfl rfl (xv 4 [] [0, 1] rfl (EV.mv rfl) rfl rfl rfl rfl (xv 5 [] [0, 1] rfl (EV.mv rfl) rfl rfl rfl rfl (xv 6 [] [0, 1] rfl (EV.ix 1 rfl rfl rfl g5 g6 rfl) rfl rfl rfl rfl (xv 7 [] [0, 1] rfl (EV.le (v := .agg #[.int .i64 ((rd_T92 x2_6 x2_7).f0.f0), .int .i64 ((rd_T92 x2_6 x2_7).f0.f1), .int .i64 ((rd_T92 x2_6 x2_7).f0.f2), .int .i64 ((rd_T92 x2_6 x2_7).f1.f0), .int .i64 ((rd_T92 x2_6 x2_7).f1.f1), .int .i64 ((rd_T92 x2_6 x2_7).f1.f2), .bool ((rd_T92 x2_6 x2_7).f2)]) x2_7 0 (some 7) 1 z92 rfl rfl rfl g5 g6 rfl rfl rfl) rfl rfl rfl rfl (xv 8 [] [0, 1] rfl (EV.neS rfl rfl (fun d w => eq92 d w ((rd_T92 x2_5 x2_7).f0.f0) ((rd_T92 x2_6 x2_7).f0.f0) ((rd_T92 x2_5 x2_7).f0.f1) ((rd_T92 x2_6 x2_7).f0.f1) ((rd_T92 x2_5 x2_7).f0.f2) ((rd_T92 x2_6 x2_7).f0.f2) ((rd_T92 x2_5 x2_7).f1.f0) ((rd_T92 x2_6 x2_7).f1.f0) ((rd_T92 x2_5 x2_7).f1.f1) ((rd_T92 x2_6 x2_7).f1.f1) ((rd_T92 x2_5 x2_7).f1.f2) ((rd_T92 x2_6 x2_7).f1.f2) ((rd_T92 x2_5 x2_7).f2) ((rd_T92 x2_6 x2_7).f2))) rfl rfl rfl rfl (xd (pr [5, 6, 7, 31] [] [0, 1] rfl rfl rfl rfl ?_)))))))))))
   revert H; refine ifsI ?_ ?_ <;> intro c7 H
   ·
    exact gf rfl (bN c7) (gk (ge (rg (sv (EV.mv rfl) rfl (sv (EV.add rfl rfl) rfl (sv (EV.as rfl) rfl (re (wk [5, 6, 7] [] [⟨0, 2, 1, true⟩, ⟨1, 2, 2, true⟩] (ih0 _ (by omega) _ ⟨x2_5, Ax2_5, cx2_5, x2_6, Ax2_6, cx2_6, wrap64 (x2_7 + 1), H, rfl⟩)))))))))
   ·
    refine gt rfl (bM c7) (gs (rg (sv (EV.as rfl) rfl (re ?_))))
    cases H
    exact rt Try.func13 rfl (.tmp rfl .nil) rfl [] [] rfl rfl rfl rfl rfl ⟨rfl, rfl, rfl⟩
  ·
   refine gf rfl (dF c4) (gx rfl (gs (rg (sv (EV.as rfl) rfl (re (pr [4] [] [] rfl rfl rfl rfl ?_))))))
   cases H
   exact rt Try.func13 rfl (.tmp rfl .nil) rfl [] [] rfl rfl rfl rfl rfl ⟨rfl, rfl, rfl⟩
 ·
  refine gt rfl (nT c3) (gs (rg (sv (EV.as rfl) rfl (re (pr [4] [] [] rfl rfl rfl rfl ?_)))))
  cases H
  exact rt Try.func13 rfl (.tmp rfl .nil) rfl [] [] rfl rfl rfl rfl rfl ⟨rfl, rfl, rfl⟩
end Go.Proofs.Ytajjeemkdjfilaa.K
namespace Go.Proofs.Ytajjeemkdjfilaa.K
open Go Go.RowKit
set_option linter.unusedVariables false
set_option linter.unusedSimpArgs false
def spec_l1In.f (a0 : Int) (a1 : Int) (a2 : Int) : Option (Bool) := if a0 ≥ a1 then (some (decide (a0 ≤ a2))) else (some false)
set_option maxHeartbeats 4000000 in
set_option maxRecDepth 100000 in
theorem spec_l1In.ok (a0 : Int) (a1 : Int) (a2 : Int) (r0 : Bool) (H : spec_l1In.f a0 a1 a2 = some r0) : Fn Try.prog 72 [.int .i64 a0, .int .i64 a1, .int .i64 a2] [] [] (fun v bx en => v = .bool r0 ∧ bx = [] ∧ en = []) := by
 refine fn_ 15 Try.func72 rfl rfl rfl (fun base T w0 => ?_)
 rw [spec_l1In.f] at H
 refine gs (rg (sv (EV.as rfl) rfl (re (gs (rg (sv (EV.mv rfl) rfl (sv (EV.mv rfl) rfl (sv (EV.geq rfl rfl) rfl (sv (EV.mv rfl) rfl ?_)))))))))
 revert H; refine ifsI ?_ ?_ <;> intro c1 H
 ·
  refine ts 10 rfl (dT c1) (sv (EV.mv rfl) rfl (sv (EV.mv rfl) rfl (sv (EV.leq rfl rfl) rfl (sv (EV.pt rfl rfl rfl) rfl (sv (EV.as rfl) rfl (re (pr [6] [] [] rfl rfl rfl rfl ?_)))))))
  cases H
  exact rt Try.func72 rfl (.tmp rfl .nil) rfl [] [] rfl rfl rfl rfl rfl ⟨rfl, rfl, rfl⟩
 ·
  refine ts 10 rfl (dF c1) (sk rfl (sk rfl (sk rfl (sv (EV.pf rfl rfl rfl) rfl (sv (EV.as rfl) rfl (re (pr [6] [] [] rfl rfl rfl rfl ?_)))))))
  cases H
  exact rt Try.func72 rfl (.tmp rfl .nil) rfl [] [] rfl rfl rfl rfl rfl ⟨rfl, rfl, rfl⟩
end Go.Proofs.Ytajjeemkdjfilaa.K
namespace Go.Proofs.Ytajjeemkdjfilaa.K
open Go Go.RowKit
set_option linter.unusedVariables false
set_option linter.unusedSimpArgs false
def spec_IsValidJoinKind.f (a0 : Int) : Option (Bool) := (spec_l1In.f a0 1 4).bind fun t1 => (some t1)
set_option maxHeartbeats 4000000 in
set_option maxRecDepth 100000 in
theorem spec_IsValidJoinKind.ok (a0 : Int) (r0 : Bool) (H : spec_IsValidJoinKind.f a0 = some r0) : Fn Try.prog 14 [.int .i64 a0] [] [] (fun v bx en => v = .bool r0 ∧ bx = [] ∧ en = []) := by
 refine fn_ 5 Try.func14 rfl rfl rfl (fun base T w0 => ?_)
 rw [spec_IsValidJoinKind.f] at H
 refine gs (rg (sv (EV.as rfl) rfl (re (gs (rg (sv (EV.mv rfl) rfl ?_))))))
 revert H; refine bdI ?_; rintro t1 A1 H
 refine so rfl (op_call (spec_l1In.ok a0 1 4 _ A1) [] 1 rfl rfl rfl rfl rfl ?_)
 rintro _ _ _ ⟨rfl, rfl, rfl⟩
 refine sv (EV.as rfl) rfl (re ?_)
 cases H
 exact rt Try.func14 rfl (.tmp rfl .nil) rfl [] [] rfl rfl rfl rfl rfl ⟨rfl, rfl, rfl⟩
end Go.Proofs.Ytajjeemkdjfilaa.K
namespace Go.Proofs.Ytajjeemkdjfilaa.K
open Go Go.RowKit
set_option linter.unusedVariables false
set_option linter.unusedSimpArgs false
def spec_CountMatches.l0 : Nat → Int → Int → Int → Int → Int → (List S70) → Option (Int)
 | 0, _, _, _, _, _, _ => none
 | k + 1, x2_5, x2_6, x2_2_0, x2_2_1, x2_2_2, l1 => if x2_6 < (l1.length : Int) then (if 0 ≤ x2_6 then (if ((rd_T70 l1 x2_6).f0) = x2_2_0 then (spec_CountMatches.l0 k (wrap64 (x2_5 + 1)) (wrap64 (x2_6 + 1)) x2_2_0 x2_2_1 x2_2_2 l1) else (spec_CountMatches.l0 k x2_5 (wrap64 (x2_6 + 1)) x2_2_0 x2_2_1 x2_2_2 l1)) else none) else (some x2_5)
def spec_CountMatches.f (k : Nat) (a0_0 : Int) (a0_1 : Int) (a0_2 : Int) (l1 : List S70) : Option (Int) := spec_CountMatches.l0 k 0 0 a0_0 a0_1 a0_2 l1
set_option maxHeartbeats 4000000 in
set_option maxRecDepth 100000 in
theorem spec_CountMatches.ok (k : Nat) (a0_0 : Int) (a0_1 : Int) (a0_2 : Int) (l1 : List S70) (Al1 : Option Addr) (cl1 : Nat) (r0 : Int) (H : spec_CountMatches.f k a0_0 a0_1 a0_2 l1 = some r0) : Fn Try.prog 81 [.agg #[.int .i64 a0_0, .int .i64 a0_1, .int .i64 a0_2], .slice Al1 l1.length cl1] [] [.sl 0 k70 Al1 cl1 l1 0 false] (fun v bx en => v = .int .i64 r0 ∧ bx = [] ∧ en = []) := by
 refine fn_ 24 Try.func81 rfl rfl rfl (fun base T w0 => ?_)
 rw [spec_CountMatches.f] at H
 refine gs (rg (so rfl (op_box (cs := [.int .i64 a0_0, .int .i64 a0_1, .int .i64 a0_2]) rfl rfl rfl fun b2 => (sv (EV.as rfl) rfl (re (gs (rg (sv (EV.as rfl) rfl (re (gs (gs (rg (sv (EV.as rfl) rfl (re (gb ?_)))))))))))))))
 refine lo (fun kk S => ∃ (x2_5 : Int) (x2_6 : Int) (x2_2_0 : Int) (x2_2_1 : Int) (x2_2_2 : Int), spec_CountMatches.l0 kk x2_5 x2_6 x2_2_0 x2_2_1 x2_2_2 l1 = some r0 ∧ S = ⟨[(1, .slice Al1 l1.length cl1), (2, .pointer (some ⟨b2, 0, none⟩)), (5, .int .i64 x2_5), (6, .int .i64 x2_6)], [⟨b2, 70, [.int .i64 x2_2_0, .int .i64 x2_2_1, .int .i64 x2_2_2]⟩], [.sl 0 k70 Al1 cl1 l1 0 false]⟩) (fun S hS => ?_) (fun n0 ih0 S hS => ?_) ⟨0, 0, a0_0, a0_1, a0_2, H, rfl⟩ (fun h => wk [1, 2, 5, 6] [0] [⟨0, 0, 0, false⟩] h)
 · clear H; obtain ⟨_, _, _, _, _, H, _⟩ := hS; rw [spec_CountMatches.l0] at H; cases H
 clear H
 obtain ⟨x2_5, x2_6, x2_2_0, x2_2_1, x2_2_2, H, rfl⟩ := hS
 rw [spec_CountMatches.l0] at H
 refine gs (gs (rg (sv (EV.mv rfl) rfl (sv (EV.mv rfl) rfl (sv (EV.ln rfl) rfl (sv (EV.lss rfl rfl) rfl (re ?_)))))))
 revert H; refine ifsI ?_ ?_ <;> intro c1 H
 ·
  refine gt rfl (dT c1) (gk (gs (gb (gs ?_))))
  revert H; refine ggI ?_; intro g2 H
  refine dr [0] [0] [] 8 rfl rfl rfl rfl (xv 0 [0] [0] rfl (EV.mv rfl) rfl rfl rfl rfl (xv 1 [0] [0] rfl (EV.mv rfl) rfl rfl rfl rfl (xv 2 [0] [0] rfl (EV.ix 0 rfl rfl rfl g2 c1 rfl) rfl rfl rfl rfl (xv 3 [0] [0] rfl (EV.fa 0 rfl) rfl rfl rfl rfl (xv 4 [0] [0] rfl (EV.le (v := .int .i64 ((rd_T70 l1 x2_6).f0)) x2_6 0 none 0 z70 rfl rfl rfl g2 c1 rfl rfl rfl) rfl rfl rfl rfl (xv 5 [0] [0] rfl (EV.fa 0 rfl) rfl rfl rfl rfl (xv 6 [0] [0] rfl (EV.ld 0 none rfl rfl rfl) rfl rfl rfl rfl (xv 7 [0] [0] rfl (EV.eql rfl rfl) rfl rfl rfl rfl (xd (pr [1, 2, 5, 6, 20] [0] [0] rfl rfl rfl rfl ?_))))))))))
  revert H; refine ifsI ?_ ?_ <;> intro c3 H
  ·
   exact gt rfl (dT c3) (rg (sv (EV.mv rfl) rfl (sv (EV.add rfl rfl) rfl (sv (EV.as rfl) rfl (re (ge (rg (sv (EV.mv rfl) rfl (sv (EV.add rfl rfl) rfl (sv (EV.as rfl) rfl (re (wk [1, 2, 5, 6] [0] [⟨0, 0, 0, false⟩] (ih0 _ (by omega) _ ⟨wrap64 (x2_5 + 1), wrap64 (x2_6 + 1), x2_2_0, x2_2_1, x2_2_2, H, rfl⟩)))))))))))))
  ·
   exact gf rfl (dF c3) (gk (ge (rg (sv (EV.mv rfl) rfl (sv (EV.add rfl rfl) rfl (sv (EV.as rfl) rfl (re (wk [1, 2, 5, 6] [0] [⟨0, 0, 0, false⟩] (ih0 _ (by omega) _ ⟨x2_5, wrap64 (x2_6 + 1), x2_2_0, x2_2_1, x2_2_2, H, rfl⟩)))))))))
 ·
  refine gf rfl (dF c1) (gx rfl (gs (rg (sv (EV.mv rfl) rfl (sv (EV.as rfl) rfl (re (pr [4] [] [] rfl rfl rfl rfl ?_)))))))
  cases H
  exact rt Try.func81 rfl (.tmp rfl .nil) rfl [] [] rfl rfl rfl rfl rfl ⟨rfl, rfl, rfl⟩
end Go.Proofs.Ytajjeemkdjfilaa.K
namespace Go.Proofs.Ytajjeemkdjfilaa.K
open Go Go.RowKit
set_option linter.unusedVariables false
set_option linter.unusedSimpArgs false
def spec_l7One.l0 : Nat → Int → (List S92) → Int → Int → Int → Int → Int → (List S70) → Option ((List S92))
 | 0, _, _, _, _, _, _, _, _ => none
 | k + 1, x2_0, x2_7, x2_8, x2_9, x2_4_0, x2_4_1, x2_4_2, l2 => if x2_9 < (l2.length : Int) then (if 0 ≤ x2_9 then (if ((rd_T70 l2 x2_9).f0) = x2_4_0 then (if x2_7.length < 2513169434916 then (spec_l7One.l0 k x2_0 (x2_7 ++ ([(⟨(⟨x2_4_0, x2_4_1, x2_4_2⟩ : S70), (⟨(rd_T70 l2 x2_9).f0, (rd_T70 l2 x2_9).f1, (rd_T70 l2 x2_9).f2⟩ : S70), true⟩ : S92)] : List S92)) x2_8 (wrap64 (x2_9 + 1)) x2_4_0 x2_4_1 x2_4_2 l2) else none) else (spec_l7One.l0 k x2_0 x2_7 x2_8 (wrap64 (x2_9 + 1)) x2_4_0 x2_4_1 x2_4_2 l2)) else none) else (if x2_8 = 0 then (if x2_0 = 4 then (if x2_7.length < 2513169434916 then (some (x2_7 ++ ([(⟨(⟨x2_4_0, x2_4_1, x2_4_2⟩ : S70), (⟨0, 0, 0⟩ : S70), false⟩ : S92)] : List S92))) else none) else (some x2_7)) else (some x2_7))
def spec_l7One.f (k : Nat) (a0 : Int) (a1_0 : Int) (a1_1 : Int) (a1_2 : Int) (l2 : List S70) : Option ((List S92)) := (spec_CountMatches.f k a1_0 a1_1 a1_2 l2).bind fun t2 => (if a0 = 2 then (if t2 > 0 then (if ([] : List S92).length < 2513169434916 then (some ([(⟨(⟨a1_0, a1_1, a1_2⟩ : S70), (⟨0, 0, 0⟩ : S70), false⟩ : S92)] : List S92)) else none) else (some [])) else (if a0 = 3 then (if t2 = 0 then (if ([] : List S92).length < 2513169434916 then (some ([(⟨(⟨a1_0, a1_1, a1_2⟩ : S70), (⟨0, 0, 0⟩ : S70), false⟩ : S92)] : List S92)) else none) else (some [])) else (spec_l7One.l0 k a0 [] t2 0 a1_0 a1_1 a1_2 l2)))
set_option maxHeartbeats 4000000 in
set_option maxRecDepth 100000 in
theorem spec_l7One.ok (k : Nat) (a0 : Int) (a1_0 : Int) (a1_1 : Int) (a1_2 : Int) (l2 : List S70) (Al2 : Option Addr) (cl2 : Nat) (r0 : List S92) (H : spec_l7One.f k a0 a1_0 a1_1 a1_2 l2 = some r0) : Fn Try.prog 74 [.int .i64 a0, .agg #[.int .i64 a1_0, .int .i64 a1_1, .int .i64 a1_2], .slice Al2 l2.length cl2] [] [.sl 0 k70 Al2 cl2 l2 0 false] (fun v bx en => ∃ A0 c0, v = .slice A0 r0.length c0 ∧ bx = [] ∧ en = [.sl 2 k92 A0 c0 r0 1 true]) := by
 refine fn_ 70 Try.func74 rfl rfl rfl (fun base T w0 => ?_)
 rw [spec_l7One.f] at H
 refine gs (rg (so rfl (op_box (cs := [.int .i64 a1_0, .int .i64 a1_1, .int .i64 a1_2]) rfl rfl rfl fun b4 => (sv (EV.as rfl) rfl (re (gs (rg (so rfl (op_lit (s := 7) (by_ := 56) k92 ([] : List S92) [] [] 1 [] rfl rfl rfl rfl rfl rfl rfl rfl rfl rfl rfl rfl rfl dq rfl fun A10_1 c10_1 => (sv (EV.as rfl) rfl (re (gs (rg (sv (EV.ld (v := .agg #[.int .i64 a1_0, .int .i64 a1_1, .int .i64 a1_2]) 0 (some 3) rfl rfl rfl) rfl (sv (EV.mv rfl) rfl ?_)))))))))))))))
 revert H; refine bdI ?_; rintro t2 A2 H
 refine so rfl (op_call (spec_CountMatches.ok k a1_0 a1_1 a1_2 l2 Al2 cl2 _ A2) [⟨0, 0, 0, false⟩] 2 rfl rfl rfl rfl rfl ?_)
 rintro _ _ _ ⟨rfl, rfl, rfl⟩
 refine sv (EV.as rfl) rfl (re (pr [0, 2, 4, 7, 8] [0] [0, 1] rfl rfl rfl rfl (gs (gs (rg (sv (EV.mv rfl) rfl (re (gb (gs (rg (sv (EV.eql rfl rfl) rfl (sv (EV.as rfl) rfl (re ?_)))))))))))))
 revert H; refine ifsI ?_ ?_ <;> intro c3 H
 ·
  refine gt rfl (dT c3) (gs (gs (rg (sv (EV.mv rfl) rfl (sv (EV.gtr rfl rfl) rfl (re (pr [4, 7, 18] [0] [1] rfl rfl rfl rfl ?_)))))))
  revert H; refine ifsI ?_ ?_ <;> intro c4 H
  ·
   refine gt rfl (dT c4) (rg (sv (EV.mv rfl) rfl (sv (EV.ld (v := .agg #[.int .i64 a1_0, .int .i64 a1_1, .int .i64 a1_2]) 0 (some 3) rfl rfl rfl) rfl (sv (EV.bd (v := .agg #[.int .i64 a1_0, .int .i64 a1_1, .int .i64 a1_2, .int .i64 0, .int .i64 0, .int .i64 0, .bool false]) rfl (by kernel_rfl)) rfl (so rfl (op_lit (s := 7) (by_ := 56) k92 ([(⟨(⟨a1_0, a1_1, a1_2⟩ : S70), (⟨0, 0, 0⟩ : S70), false⟩ : S92)] : List S92) [[]] [] 2 [.tmp 21] rfl rfl rfl rfl rfl rfl rfl rfl rfl rfl rfl rfl rfl dq rfl fun A22_5 c22_5 => ?_))))))
   revert H; refine ggI ?_; intro g6 H
   refine so rfl (op_app (k := k92) (s := 7) (by_ := 56) 0 1 rfl rfl rfl rfl (ap1 g6 dq) (ap1n g6 dq) (.inl rfl) true (fun _ => .inl rfl) rfl rfl fun A23_7 c23_7 => (nmE (en := [.sl 2 k92 A22_5 c22_5 ([(⟨(⟨a1_0, a1_1, a1_2⟩ : S70), (⟨0, 0, 0⟩ : S70), false⟩ : S92)] : List S92) 2 true, .sl 2 k92 A23_7 c23_7 ([(⟨(⟨a1_0, a1_1, a1_2⟩ : S70), (⟨0, 0, 0⟩ : S70), false⟩ : S92)] : List S92) 1 true]) (by kernel_rfl) (sv (EV.as rfl) rfl (re (pr [7] [] [1] rfl rfl rfl rfl (gs (rg (sv (EV.mv rfl) rfl (sv (EV.as rfl) rfl (re ?_))))))))))
   cases H
   exact rt Try.func74 rfl (.tmp rfl .nil) rfl [] [⟨0, 2, 1, true⟩] rfl rfl rfl rfl rfl ⟨_, _, rfl, rfl, rfl⟩
  ·
   refine gf rfl (dF c4) (gk (gs (rg (sv (EV.mv rfl) rfl (sv (EV.as rfl) rfl (re ?_))))))
   cases H
   exact rt Try.func74 rfl (.tmp rfl .nil) rfl [] [⟨0, 2, 1, true⟩] rfl rfl rfl rfl rfl ⟨_, _, rfl, rfl, rfl⟩
 ·
  refine gf rfl (dF c3) (gs (rg (sv (EV.eql rfl rfl) rfl (sv (EV.as rfl) rfl (re ?_)))))
  revert H; refine ifsI ?_ ?_ <;> intro c8 H
  ·
   refine gt rfl (dT c8) (gs (gs (rg (sv (EV.mv rfl) rfl (sv (EV.eql rfl rfl) rfl (re (pr [4, 7, 28] [0] [1] rfl rfl rfl rfl ?_)))))))
   revert H; refine ifsI ?_ ?_ <;> intro c9 H
   ·
    refine gt rfl (dT c9) (rg (sv (EV.mv rfl) rfl (sv (EV.ld (v := .agg #[.int .i64 a1_0, .int .i64 a1_1, .int .i64 a1_2]) 0 (some 3) rfl rfl rfl) rfl (sv (EV.bd (v := .agg #[.int .i64 a1_0, .int .i64 a1_1, .int .i64 a1_2, .int .i64 0, .int .i64 0, .int .i64 0, .bool false]) rfl (by kernel_rfl)) rfl (so rfl (op_lit (s := 7) (by_ := 56) k92 ([(⟨(⟨a1_0, a1_1, a1_2⟩ : S70), (⟨0, 0, 0⟩ : S70), false⟩ : S92)] : List S92) [[]] [] 2 [.tmp 31] rfl rfl rfl rfl rfl rfl rfl rfl rfl rfl rfl rfl rfl dq rfl fun A32_10 c32_10 => ?_))))))
    revert H; refine ggI ?_; intro g11 H
    refine so rfl (op_app (k := k92) (s := 7) (by_ := 56) 0 1 rfl rfl rfl rfl (ap1 g11 dq) (ap1n g11 dq) (.inl rfl) true (fun _ => .inl rfl) rfl rfl fun A33_12 c33_12 => (nmE (en := [.sl 2 k92 A32_10 c32_10 ([(⟨(⟨a1_0, a1_1, a1_2⟩ : S70), (⟨0, 0, 0⟩ : S70), false⟩ : S92)] : List S92) 2 true, .sl 2 k92 A33_12 c33_12 ([(⟨(⟨a1_0, a1_1, a1_2⟩ : S70), (⟨0, 0, 0⟩ : S70), false⟩ : S92)] : List S92) 1 true]) (by kernel_rfl) (sv (EV.as rfl) rfl (re (pr [7] [] [1] rfl rfl rfl rfl (gs (rg (sv (EV.mv rfl) rfl (sv (EV.as rfl) rfl (re ?_))))))))))
    cases H
    exact rt Try.func74 rfl (.tmp rfl .nil) rfl [] [⟨0, 2, 1, true⟩] rfl rfl rfl rfl rfl ⟨_, _, rfl, rfl, rfl⟩
   ·
    refine gf rfl (dF c9) (gk (gs (rg (sv (EV.mv rfl) rfl (sv (EV.as rfl) rfl (re ?_))))))
    cases H
    exact rt Try.func74 rfl (.tmp rfl .nil) rfl [] [⟨0, 2, 1, true⟩] rfl rfl rfl rfl rfl ⟨_, _, rfl, rfl, rfl⟩
  ·
   refine gf rfl (dF c8) (gk (ge (gs (gs (rg (sv (EV.as rfl) rfl (re (gb ?_))))))))
   refine lo (fun kk S => ∃ (x2_0 : Int) (x2_7 : List S92) (Ax2_7 : Option Addr) (cx2_7 : Nat) (x2_8 : Int) (x2_9 : Int) (x2_4_0 : Int) (x2_4_1 : Int) (x2_4_2 : Int), spec_l7One.l0 kk x2_0 x2_7 x2_8 x2_9 x2_4_0 x2_4_1 x2_4_2 l2 = some r0 ∧ S = ⟨[(0, .int .i64 x2_0), (2, .slice Al2 l2.length cl2), (4, .pointer (some ⟨b4, 0, none⟩)), (7, .slice Ax2_7 x2_7.length cx2_7), (8, .int .i64 x2_8), (9, .int .i64 x2_9)], [⟨b4, 70, [.int .i64 x2_4_0, .int .i64 x2_4_1, .int .i64 x2_4_2]⟩], [.sl 2 k92 Ax2_7 cx2_7 x2_7 1 true, .sl 0 k70 Al2 cl2 l2 0 false]⟩) (fun S hS => ?_) (fun n0 ih0 S hS => ?_) ⟨a0, [], A10_1, c10_1, t2, 0, a1_0, a1_1, a1_2, H, rfl⟩ (fun h => wk [0, 2, 4, 7, 8, 9] [0] [⟨1, 2, 1, true⟩, ⟨0, 0, 0, false⟩] h)
   · clear H; obtain ⟨_, _, _, _, _, _, _, _, _, H, _⟩ := hS; rw [spec_l7One.l0] at H; cases H
   clear H
   obtain ⟨x2_0, x2_7, Ax2_7, cx2_7, x2_8, x2_9, x2_4_0, x2_4_1, x2_4_2, H, rfl⟩ := hS
   rw [spec_l7One.l0] at H
   refine gs (gs (rg (sv (EV.mv rfl) rfl (sv (EV.mv rfl) rfl (sv (EV.ln rfl) rfl (sv (EV.lss rfl rfl) rfl (re ?_)))))))
   revert H; refine ifsI ?_ ?_ <;> intro c13 H
   ·
    refine gt rfl (dT c13) (gk (gs (gb (gs ?_))))
    revert H; refine ggI ?_; intro g14 H
    refine dr [0] [0, 1] [] 8 rfl rfl rfl rfl (xv 0 [0] [0, 1] rfl (EV.mv rfl) rfl rfl rfl rfl (xv 1 [0] [0, 1] rfl (EV.mv rfl) rfl rfl rfl rfl (xv 2 [0] [0, 1] rfl (EV.ix 1 rfl rfl rfl g14 c13 rfl) rfl rfl rfl rfl (xv 3 [0] [0, 1] rfl (EV.fa 0 rfl) rfl rfl rfl rfl (xv 4 [0] [0, 1] rfl (EV.le (v := .int .i64 ((rd_T70 l2 x2_9).f0)) x2_9 0 none 1 z70 rfl rfl rfl g14 c13 rfl rfl rfl) rfl rfl rfl rfl (xv 5 [0] [0, 1] rfl (EV.fa 0 rfl) rfl rfl rfl rfl (xv 6 [0] [0, 1] rfl (EV.ld 0 none rfl rfl rfl) rfl rfl rfl rfl (xv 7 [0] [0, 1] rfl (EV.eql rfl rfl) rfl rfl rfl rfl (xd (pr [0, 2, 4, 7, 8, 9, 48] [0] [0, 1] rfl rfl rfl rfl ?_))))))))))
    revert H; refine ifsI ?_ ?_ <;> intro c15 H
    ·
     refine gt rfl (dT c15) ?_
     revert H; refine ggI ?_; intro g16 H
     exact dr [0] [1] [9] 10 rfl rfl rfl rfl (xv 0 [0] [1] rfl (EV.mv rfl) rfl rfl rfl rfl (xv 1 [0] [1] rfl (EV.ld (v := .agg #[.int .i64 x2_4_0, .int .i64 x2_4_1, .int .i64 x2_4_2]) 0 (some 3) rfl rfl rfl) rfl rfl rfl rfl (xv 2 [0] [1] rfl (EV.mv rfl) rfl rfl rfl rfl (xv 3 [0] [1] rfl (EV.mv rfl) rfl rfl rfl rfl (xv 4 [0] [1] rfl (EV.ix 0 rfl rfl rfl g14 c13 rfl) rfl rfl rfl rfl (xv 5 [0] [1] rfl (EV.le (v := .agg #[.int .i64 ((rd_T70 l2 x2_9).f0), .int .i64 ((rd_T70 l2 x2_9).f1), .int .i64 ((rd_T70 l2 x2_9).f2)]) x2_9 0 (some 3) 0 z70 rfl rfl rfl g14 c13 rfl rfl rfl) rfl rfl rfl rfl (xv 6 [0] [1] rfl (EV.bd (v := .agg #[.int .i64 x2_4_0, .int .i64 x2_4_1, .int .i64 x2_4_2, .int .i64 ((rd_T70 l2 x2_9).f0), .int .i64 ((rd_T70 l2 x2_9).f1), .int .i64 ((rd_T70 l2 x2_9).f2), .bool true]) rfl (by kernel_rfl)) rfl rfl rfl rfl (one1 7 rfl rfl (op_lit (s := 7) (by_ := 56) k92 ([(⟨(⟨x2_4_0, x2_4_1, x2_4_2⟩ : S70), (⟨(rd_T70 l2 x2_9).f0, (rd_T70 l2 x2_9).f1, (rd_T70 l2 x2_9).f2⟩ : S70), true⟩ : S92)] : List S92) [[]] [] 2 [.tmp 55] rfl rfl rfl rfl rfl rfl rfl rfl rfl rfl rfl rfl rfl dq rfl fun A56_17 c56_17 => (xs [0] [1] rfl rfl rfl (one1 8 rfl rfl (op_app (k := k92) (s := 7) (by_ := 56) 0 2 rfl rfl rfl rfl (ap1 g16 dq) (ap1n g16 dq) (.inl rfl) true (fun _ => .inl rfl) rfl rfl fun A57_18 c57_18 => (nmE (en := [.sl 0 k70 Al2 cl2 l2 0 false, .sl 2 k92 A56_17 c56_17 ([(⟨(⟨x2_4_0, x2_4_1, x2_4_2⟩ : S70), (⟨(rd_T70 l2 x2_9).f0, (rd_T70 l2 x2_9).f1, (rd_T70 l2 x2_9).f2⟩ : S70), true⟩ : S92)] : List S92) 2 true, .sl 2 k92 A57_18 c57_18 (x2_7 ++ ([(⟨(⟨x2_4_0, x2_4_1, x2_4_2⟩ : S70), (⟨(rd_T70 l2 x2_9).f0, (rd_T70 l2 x2_9).f1, (rd_T70 l2 x2_9).f2⟩ : S70), true⟩ : S92)] : List S92)) 1 true]) (by kernel_rfl) (xs [0] [0] rfl rfl rfl (one1 9 rfl rfl (ov (EV.as rfl) rfl (xn rfl (xd (pr [0, 2, 4, 7, 8, 9] [0] [0, 2] rfl rfl rfl rfl (ge (rg (sv (EV.mv rfl) rfl (sv (EV.add rfl rfl) rfl (sv (EV.as rfl) rfl (re (wk [0, 2, 4, 7, 8, 9] [0] [⟨1, 2, 1, true⟩, ⟨0, 0, 0, false⟩] (ih0 _ (by omega) _ ⟨x2_0, x2_7 ++ ([(⟨(⟨x2_4_0, x2_4_1, x2_4_2⟩ : S70), (⟨(rd_T70 l2 x2_9).f0, (rd_T70 l2 x2_9).f1, (rd_T70 l2 x2_9).f2⟩ : S70), true⟩ : S92)] : List S92), A57_18, c57_18, x2_8, wrap64 (x2_9 + 1), x2_4_0, x2_4_1, x2_4_2, H, rfl⟩)))))))))))))))))))))))))))
    ·
     exact gf rfl (dF c15) (gk (ge (rg (sv (EV.mv rfl) rfl (sv (EV.add rfl rfl) rfl (sv (EV.as rfl) rfl (re (wk [0, 2, 4, 7, 8, 9] [0] [⟨0, 2, 1, true⟩, ⟨1, 0, 0, false⟩] (ih0 _ (by omega) _ ⟨x2_0, x2_7, Ax2_7, cx2_7, x2_8, wrap64 (x2_9 + 1), x2_4_0, x2_4_1, x2_4_2, H, rfl⟩)))))))))
   ·
    refine gf rfl (dF c13) (gx rfl (gs (gs (rg (sv (EV.mv rfl) rfl (sv (EV.eql rfl rfl) rfl (sv (EV.mv rfl) rfl ?_)))))))
    revert H; refine ifsI ?_ ?_ <;> intro c19 H
    ·
     refine ts 60 rfl (dT c19) (sv (EV.mv rfl) rfl (sv (EV.eql rfl rfl) rfl (sv (EV.pt rfl rfl rfl) rfl (re (pr [4, 7, 63] [0] [0] rfl rfl rfl rfl ?_)))))
     revert H; refine ifsI ?_ ?_ <;> intro c20 H
     ·
      refine gt rfl (dT c20) (rg (sv (EV.mv rfl) rfl (sv (EV.ld (v := .agg #[.int .i64 x2_4_0, .int .i64 x2_4_1, .int .i64 x2_4_2]) 0 (some 3) rfl rfl rfl) rfl (sv (EV.bd (v := .agg #[.int .i64 x2_4_0, .int .i64 x2_4_1, .int .i64 x2_4_2, .int .i64 0, .int .i64 0, .int .i64 0, .bool false]) rfl (by kernel_rfl)) rfl (so rfl (op_lit (s := 7) (by_ := 56) k92 ([(⟨(⟨x2_4_0, x2_4_1, x2_4_2⟩ : S70), (⟨0, 0, 0⟩ : S70), false⟩ : S92)] : List S92) [[]] [] 2 [.tmp 66] rfl rfl rfl rfl rfl rfl rfl rfl rfl rfl rfl rfl rfl dq rfl fun A67_21 c67_21 => ?_))))))
      revert H; refine ggI ?_; intro g22 H
      refine so rfl (op_app (k := k92) (s := 7) (by_ := 56) 0 1 rfl rfl rfl rfl (ap1 g22 dq) (ap1n g22 dq) (.inl rfl) true (fun _ => .inl rfl) rfl rfl fun A68_23 c68_23 => (nmE (en := [.sl 2 k92 A67_21 c67_21 ([(⟨(⟨x2_4_0, x2_4_1, x2_4_2⟩ : S70), (⟨0, 0, 0⟩ : S70), false⟩ : S92)] : List S92) 2 true, .sl 2 k92 A68_23 c68_23 (x2_7 ++ ([(⟨(⟨x2_4_0, x2_4_1, x2_4_2⟩ : S70), (⟨0, 0, 0⟩ : S70), false⟩ : S92)] : List S92)) 1 true]) (by kernel_rfl) (sv (EV.as rfl) rfl (re (pr [7] [] [1] rfl rfl rfl rfl (gs (rg (sv (EV.mv rfl) rfl (sv (EV.as rfl) rfl (re ?_))))))))))
      cases H
      exact rt Try.func74 rfl (.tmp rfl .nil) rfl [] [⟨0, 2, 1, true⟩] rfl rfl rfl rfl rfl ⟨_, _, rfl, rfl, rfl⟩
     ·
      refine gf rfl (dF c20) (gk (gs (rg (sv (EV.mv rfl) rfl (sv (EV.as rfl) rfl (re ?_))))))
      cases H
      exact rt Try.func74 rfl (.tmp rfl .nil) rfl [] [⟨0, 2, 1, true⟩] rfl rfl rfl rfl rfl ⟨_, _, rfl, rfl, rfl⟩
    ·
     refine ts 60 rfl (dF c19) (sk rfl (sk rfl (sv (EV.pf rfl rfl rfl) rfl (re (pr [4, 7, 63] [0] [0] rfl rfl rfl rfl (gf rfl rfl (gk (gs (rg (sv (EV.mv rfl) rfl (sv (EV.as rfl) rfl (re ?_))))))))))))
     cases H
     exact rt Try.func74 rfl (.tmp rfl .nil) rfl [] [⟨0, 2, 1, true⟩] rfl rfl rfl rfl rfl ⟨_, _, rfl, rfl, rfl⟩
end Go.Proofs.Ytajjeemkdjfilaa.K
namespace Go.Proofs.Ytajjeemkdjfilaa.K
open Go Go.RowKit
set_option linter.unusedVariables false
set_option linter.unusedSimpArgs false
def spec_ReferenceJoin.l0 : Nat → Int → (List S92) → Int → (List S70) → (List S70) → Option ((List S92))
 | 0, _, _, _, _, _ => none
 | k + 1, x2_0, x2_7, x2_8, l1, l2 => if x2_8 < (l1.length : Int) then ((spec_IsValidJoinKind.f x2_0).bind fun t3 => (if t3 = true then (if 0 ≤ x2_8 then ((spec_l7One.f k x2_0 ((rd_T70 l1 x2_8).f0) ((rd_T70 l1 x2_8).f1) ((rd_T70 l1 x2_8).f2) l2).bind fun t6 => (if x2_7.length + t6.length ≤ 2513169434916 then (spec_ReferenceJoin.l0 k x2_0 (x2_7 ++ t6) (wrap64 (x2_8 + 1)) l1 l2) else none)) else none) else (some x2_7))) else (some x2_7)
def spec_ReferenceJoin.f (k : Nat) (a0 : Int) (l1 : List S70) (l2 : List S70) : Option ((List S92)) := spec_ReferenceJoin.l0 k a0 [] 0 l1 l2
set_option maxHeartbeats 4000000 in
set_option maxRecDepth 100000 in
theorem spec_ReferenceJoin.ok (k : Nat) (a0 : Int) (l1 : List S70) (Al1 : Option Addr) (cl1 : Nat) (l2 : List S70) (Al2 : Option Addr) (cl2 : Nat) (r0 : List S92) (H : spec_ReferenceJoin.f k a0 l1 l2 = some r0) : Fn Try.prog 18 [.int .i64 a0, .slice Al1 l1.length cl1, .slice Al2 l2.length cl2] [] [.sl 0 k70 Al1 cl1 l1 0 false, .sl 0 k70 Al2 cl2 l2 0 false] (fun v bx en => ∃ A0 c0, v = .slice A0 r0.length c0 ∧ bx = [] ∧ en = [.sl 2 k92 A0 c0 r0 1 true]) := by
 refine fn_ 30 Try.func18 rfl rfl rfl (fun base T w0 => ?_)
 rw [spec_ReferenceJoin.f] at H
 refine gs (rg (sv (EV.as rfl) rfl (re (gs (rg (so rfl (op_lit (s := 7) (by_ := 56) k92 ([] : List S92) [] [] 1 [] rfl rfl rfl rfl rfl rfl rfl rfl rfl rfl rfl rfl rfl dq rfl fun A9_1 c9_1 => (sv (EV.as rfl) rfl (re (gs (gs (rg (sv (EV.as rfl) rfl (re (gb ?_)))))))))))))))
 refine lo (fun kk S => ∃ (x2_0 : Int) (x2_7 : List S92) (Ax2_7 : Option Addr) (cx2_7 : Nat) (x2_8 : Int), spec_ReferenceJoin.l0 kk x2_0 x2_7 x2_8 l1 l2 = some r0 ∧ S = ⟨[(0, .int .i64 x2_0), (1, .slice Al1 l1.length cl1), (2, .slice Al2 l2.length cl2), (7, .slice Ax2_7 x2_7.length cx2_7), (8, .int .i64 x2_8)], [], [.sl 2 k92 Ax2_7 cx2_7 x2_7 1 true, .sl 0 k70 Al1 cl1 l1 0 false, .sl 0 k70 Al2 cl2 l2 0 false]⟩) (fun S hS => ?_) (fun n0 ih0 S hS => ?_) ⟨a0, [], A9_1, c9_1, 0, H, rfl⟩ (fun h => wk [0, 1, 2, 7, 8] [] [⟨2, 2, 1, true⟩, ⟨0, 0, 0, false⟩, ⟨1, 0, 0, false⟩] h)
 · clear H; obtain ⟨_, _, _, _, _, H, _⟩ := hS; rw [spec_ReferenceJoin.l0] at H; cases H
 clear H
 obtain ⟨x2_0, x2_7, Ax2_7, cx2_7, x2_8, H, rfl⟩ := hS
 rw [spec_ReferenceJoin.l0] at H
 refine gs (gs (rg (sv (EV.mv rfl) rfl (sv (EV.mv rfl) rfl (sv (EV.ln rfl) rfl (sv (EV.lss rfl rfl) rfl (sv (EV.mv rfl) rfl ?_)))))))
 revert H; refine ifsI ?_ ?_ <;> intro c2 H
 ·
  refine ts 14 rfl (dT c2) (sv (EV.mv rfl) rfl ?_)
  revert H; refine bdI ?_; rintro t3 A3 H
  refine so rfl (op_call (spec_IsValidJoinKind.ok x2_0 _ A3) [] 2 rfl rfl rfl rfl rfl ?_)
  rintro _ _ _ ⟨rfl, rfl, rfl⟩
  refine sv (EV.pt rfl rfl rfl) rfl (re ?_)
  revert H; refine ifsI ?_ ?_ <;> intro c4 H
  ·
   subst c4
   refine gt rfl rfl (gk (gs (gb (rg (sv (EV.mv rfl) rfl (sv (EV.mv rfl) rfl (sv (EV.mv rfl) rfl (sv (EV.mv rfl) rfl ?_))))))))
   revert H; refine ggI ?_; intro g5 H
   refine sv (EV.ix 1 rfl rfl rfl g5 c2 rfl) rfl (sv (EV.le (v := .agg #[.int .i64 ((rd_T70 l1 x2_8).f0), .int .i64 ((rd_T70 l1 x2_8).f1), .int .i64 ((rd_T70 l1 x2_8).f2)]) x2_8 0 (some 3) 1 z70 rfl rfl rfl g5 c2 rfl rfl rfl) rfl (sv (EV.mv rfl) rfl ?_))
   revert H; refine bdI ?_; rintro t6 A6 H
   refine so rfl (op_call (spec_l7One.ok n0 x2_0 ((rd_T70 l1 x2_8).f0) ((rd_T70 l1 x2_8).f1) ((rd_T70 l1 x2_8).f2) l2 Al2 cl2 _ A6) [⟨2, 0, 0, false⟩] 2 rfl rfl rfl rfl rfl ?_)
   rintro _ _ _ ⟨At6, ct6, rfl, rfl, rfl⟩
   revert H; refine ggI ?_; intro g7 H
   exact so rfl (op_app (k := k92) (s := 7) (by_ := 56) 0 3 rfl rfl rfl rfl (ap2 g7 dq) (ap2n g7 dq) (.inl rfl) true (fun _ => .inl rfl) rfl rfl fun A28_8 c28_8 => (nmE (en := [.sl 0 k70 Al1 cl1 l1 0 false, .sl 0 k70 Al2 cl2 l2 0 false, .sl 2 k92 At6 ct6 t6 3 true, .sl 2 k92 A28_8 c28_8 (x2_7 ++ t6) 1 true]) (by kernel_rfl) (sv (EV.as rfl) rfl (re (pr [0, 1, 2, 7, 8, 15, 16] [] [0, 1, 3] rfl rfl rfl rfl (ge (rg (sv (EV.mv rfl) rfl (sv (EV.add rfl rfl) rfl (sv (EV.as rfl) rfl (re (wk [0, 1, 2, 7, 8] [] [⟨2, 2, 1, true⟩, ⟨0, 0, 0, false⟩, ⟨1, 0, 0, false⟩] (ih0 _ (by omega) _ ⟨x2_0, x2_7 ++ t6, A28_8, c28_8, wrap64 (x2_8 + 1), H, rfl⟩)))))))))))))
  ·
   obtain rfl := bF c4
   refine gf rfl rfl (gx rfl (gs (rg (sv (EV.mv rfl) rfl (sv (EV.as rfl) rfl (re (pr [6] [] [0] rfl rfl rfl rfl ?_)))))))
   cases H
   exact rt Try.func18 rfl (.tmp rfl .nil) rfl [] [⟨0, 2, 1, true⟩] rfl rfl rfl rfl rfl ⟨_, _, rfl, rfl, rfl⟩
 ·
  refine ts 14 rfl (dF c2) (sk rfl (sk rfl (sv (EV.pf rfl rfl rfl) rfl (re (pr [0, 1, 2, 7, 8, 17] [] [0, 1, 2] rfl rfl rfl rfl (gf rfl rfl (gx rfl (gs (rg (sv (EV.mv rfl) rfl (sv (EV.as rfl) rfl (re (pr [6] [] [0] rfl rfl rfl rfl ?_)))))))))))))
  cases H
  exact rt Try.func18 rfl (.tmp rfl .nil) rfl [] [⟨0, 2, 1, true⟩] rfl rfl rfl rfl rfl ⟨_, _, rfl, rfl, rfl⟩
end Go.Proofs.Ytajjeemkdjfilaa.K
namespace Go.Proofs.Ytajjeemkdjfilaa.K
open Go Go.RowKit
set_option linter.unusedVariables false
set_option linter.unusedSimpArgs false
mutual
def spec_l1New.j0 : Nat → Int → (List Int) → Option (Int × Int)
 | 0, _, _ => none
 | k + 1, x2_3, l0 => some (0, x2_3)
def spec_l1New.l0 : Nat → Int → Int → (List Int) → Option (Int × Int)
 | 0, _, _, _ => none
 | k + 1, x3_3, x3_4, l0 => if x3_4 < (l0.length : Int) then (if x3_4 < 4000 then (if 0 ≤ x3_4 then (spec_l1New.l0 k (andI (wrap64 ((wrap64 ((wrap64 (x3_3 * 131)) + (IntKind.i64.wrap (rdOf 0 l0 x3_4)))) + 7)) 1073741823) (wrap64 (x3_4 + 1)) l0) else none) else (spec_l1New.j0 k x3_3 l0)) else (spec_l1New.j0 k x3_3 l0)
end
def spec_l1New.f (k : Nat) (l0 : List Int) : Option (Int × Int) := spec_l1New.l0 k (wrap64 (10101 + (l0.length : Int))) 0 l0
set_option maxHeartbeats 4000000 in
set_option maxRecDepth 100000 in
theorem spec_l1New.ok (k : Nat) (l0 : List Int) (Al0 : Option Addr) (cl0 : Nat) (r0 : Int) (r1 : Int) (H : spec_l1New.f k l0 = some (r0, r1)) : Fn Try.prog 61 [.slice Al0 l0.length cl0] [] [.sl 0 (.int .u8) Al0 cl0 l0 0 false] (fun v bx en => ∃ rb0, v = .pointer (some ⟨rb0, 0, none⟩) ∧ bx = [⟨rb0, 111, [.slice Al0 l0.length cl0, .int .i64 r0, .int .i64 r1]⟩] ∧ en = []) := by
 refine fn_ 32 Try.func61 rfl rfl rfl (fun base T w0 => ?_)
 rw [spec_l1New.f] at H
 refine gs (rg (sv (EV.as rfl) rfl (re (gs (rg (sv (EV.mv rfl) rfl (sv (EV.ln rfl) rfl (sv (EV.add rfl rfl) rfl (sv (EV.as rfl) rfl (re ?_))))))))))
 refine jo (fun S => ∃ (m : Nat) (x2_3 : Int), spec_l1New.j0 m x2_3 l0 = some (r0, r1) ∧ S = ⟨[(0, .slice Al0 l0.length cl0), (3, .int .i64 x2_3)], [], [.sl 0 (.int .u8) Al0 cl0 l0 0 false]⟩) (fun S hS => ?_) (fun jh0 => ?_)
 ·
  clear H
  obtain ⟨m1, x2_3, H, rfl⟩ := hS
  rcases m1 with _ | m1
  · rw [spec_l1New.j0] at H; cases H
  rw [spec_l1New.j0] at H
  refine gs (rg (sv (EV.mv rfl) rfl (sv (EV.mv rfl) rfl (sv (EV.bd (v := .agg #[.slice Al0 l0.length cl0, .int .i64 0, .int .i64 x2_3]) rfl (by kernel_rfl)) rfl (so rfl (op_box (cs := [.slice Al0 l0.length cl0, .int .i64 0, .int .i64 x2_3]) rfl rfl rfl fun b31 => (sv (EV.as rfl) rfl (re (pr [2] [0] [0] rfl rfl rfl rfl ?_)))))))))
  cases H
  exact rt Try.func61 rfl (.tmp rfl .nil) rfl [0] [] rfl rfl rfl rfl rfl ⟨_, rfl, rfl, rfl⟩
 ·
  refine gs (rg (sv (EV.as rfl) rfl (re (gb ?_))))
  refine lo (fun kk S => ∃ (x3_3 : Int) (x3_4 : Int), spec_l1New.l0 kk x3_3 x3_4 l0 = some (r0, r1) ∧ S = ⟨[(0, .slice Al0 l0.length cl0), (3, .int .i64 x3_3), (4, .int .i64 x3_4)], [], [.sl 0 (.int .u8) Al0 cl0 l0 0 false]⟩) (fun S hS => ?_) (fun n0 ih0 S hS => ?_) ⟨wrap64 (10101 + (l0.length : Int)), 0, H, rfl⟩ (fun h => wk [0, 3, 4] [] [⟨0, 0, 0, false⟩] h)
  · clear H; obtain ⟨_, _, H, _⟩ := hS; rw [spec_l1New.l0] at H; cases H
  clear H
  obtain ⟨x3_3, x3_4, H, rfl⟩ := hS
  rw [spec_l1New.l0] at H
  refine gs (gs (rg (sv (EV.mv rfl) rfl (sv (EV.mv rfl) rfl (sv (EV.ln rfl) rfl (sv (EV.lss rfl rfl) rfl (sv (EV.mv rfl) rfl ?_)))))))
  revert H; refine ifsI ?_ ?_ <;> intro c2 H
  ·
   refine ts 12 rfl (dT c2) (sv (EV.mv rfl) rfl (sv (EV.lss rfl rfl) rfl (sv (EV.pt rfl rfl rfl) rfl (re ?_))))
   revert H; refine ifsI ?_ ?_ <;> intro c3 H
   ·
    refine gt rfl (dT c3) (gk (gs (gb (rg (sv (EV.mv rfl) rfl (sv (EV.mul rfl rfl) rfl (sv (EV.mv rfl) rfl (sv (EV.mv rfl) rfl ?_))))))))
    revert H; refine ggI ?_; intro g4 H
    exact sv (EV.ix 0 rfl rfl rfl g4 c2 rfl) rfl (sv (EV.le (v := .int .u8 (rdOf 0 l0 x3_4)) x3_4 0 none 0 0 rfl rfl rfl g4 c2 rfl rfl rfl) rfl (sv (EV.cv (k' := .i64) rfl) rfl (sv (EV.add rfl rfl) rfl (sv (EV.add rfl rfl) rfl (sv (EV.andI rfl rfl) rfl (sv (EV.as rfl) rfl (re (pr [0, 3, 4, 13, 14] [] [0] rfl rfl rfl rfl (ge (rg (sv (EV.mv rfl) rfl (sv (EV.add rfl rfl) rfl (sv (EV.as rfl) rfl (re (wk [0, 3, 4] [] [⟨0, 0, 0, false⟩] (ih0 _ (by omega) _ ⟨andI (wrap64 ((wrap64 ((wrap64 (x3_3 * 131)) + (IntKind.i64.wrap (rdOf 0 l0 x3_4)))) + 7)) 1073741823, wrap64 (x3_4 + 1), H, rfl⟩))))))))))))))))
   ·
    exact gf rfl (dF c3) (gx rfl (wk [0, 3] [] [⟨0, 0, 0, false⟩] (jh0 _ ⟨_, x3_3, H, rfl⟩)))
  ·
   exact ts 12 rfl (dF c2) (sk rfl (sk rfl (sv (EV.pf rfl rfl rfl) rfl (re (pr [0, 3, 4, 15] [] [0] rfl rfl rfl rfl (gf rfl rfl (gx rfl (wk [0, 3] [] [⟨0, 0, 0, false⟩] (jh0 _ ⟨_, x3_3, H, rfl⟩)))))))))
end Go.Proofs.Ytajjeemkdjfilaa.K
namespace Go.Proofs.Ytajjeemkdjfilaa.K
open Go Go.RowKit
set_option linter.unusedVariables false
set_option linter.unusedSimpArgs false
def spec_l1Byte.f (l0_0 : List Int) (a0_1 : Int) (a0_2 : Int) : Option (Int × Int × Int) := if a0_1 < (l0_0.length : Int) then (if 0 ≤ a0_1 then (some (andI (wrap64 ((andI (xorI (shrI (wrap64 ((wrap64 (a0_2 * 6364136223846793005)) + 1442695040888963407)) 33) (shrI (wrap64 ((wrap64 (a0_2 * 6364136223846793005)) + 1442695040888963407)) 45)) 255) + (IntKind.i64.wrap (rdOf 0 l0_0 a0_1)))) 255, wrap64 (a0_1 + 1), wrap64 ((wrap64 (a0_2 * 6364136223846793005)) + 1442695040888963407))) else none) else (some (andI (xorI (shrI (wrap64 ((wrap64 (a0_2 * 6364136223846793005)) + 1442695040888963407)) 33) (shrI (wrap64 ((wrap64 (a0_2 * 6364136223846793005)) + 1442695040888963407)) 45)) 255, a0_1, wrap64 ((wrap64 (a0_2 * 6364136223846793005)) + 1442695040888963407)))
set_option maxHeartbeats 4000000 in
set_option maxRecDepth 100000 in
theorem spec_l1Byte.ok (b1000 : Nat) (l0_0 : List Int) (Al0_0 : Option Addr) (cl0_0 : Nat) (a0_1 : Int) (a0_2 : Int) (r0 : Int) (r1 : Int) (r2 : Int) (H : spec_l1Byte.f l0_0 a0_1 a0_2 = some (r0, r1, r2)) : Fn Try.prog 114 [.pointer (some ⟨b1000, 0, none⟩)] [⟨b1000, 111, [.slice Al0_0 l0_0.length cl0_0, .int .i64 a0_1, .int .i64 a0_2]⟩] [.sl 0 (.int .u8) Al0_0 cl0_0 l0_0 0 false] (fun v bx en => v = .int .i64 r0 ∧ bx = [⟨b1000, 111, [.slice Al0_0 l0_0.length cl0_0, .int .i64 r1, .int .i64 r2]⟩] ∧ en = []) := by
 refine fn_ 58 Try.func114 rfl rfl rfl (fun base T w0 => ?_)
 rw [spec_l1Byte.f] at H
 refine gs (rg (sv (EV.as rfl) rfl (re (gs (rg (sv (EV.mv rfl) rfl (sv (EV.mv rfl) rfl (sv (EV.nc rfl) rfl (sv (EV.fa 2 rfl) rfl (sv (EV.ld 0 none rfl rfl rfl) rfl (sv (EV.mul rfl rfl) rfl (sv (EV.add rfl rfl) rfl (sv (EV.nc rfl) rfl (sv (EV.fa 2 rfl) rfl (so rfl (op_st (cs' := [.slice Al0_0 l0_0.length cl0_0, .int .i64 a0_1, .int .i64 (wrap64 ((wrap64 (a0_2 * 6364136223846793005)) + 1442695040888963407))]) 0 rfl rfl rfl rfl rfl rfl (re (pr [0] [0] [0] rfl rfl rfl rfl (gs (dr [0] [0] [] 13 rfl rfl rfl rfl (xv 0 [0] [0] rfl (EV.mv rfl) rfl rfl rfl rfl (xv 1 [0] [0] rfl (EV.nc rfl) rfl rfl rfl rfl (xv 2 [0] [0] rfl (EV.fa 2 rfl) rfl rfl rfl rfl (xv 3 [0] [0] rfl (EV.ld 0 none rfl rfl rfl) rfl rfl rfl rfl (xv 4 [0] [0] rfl (EV.shr rfl rfl dq) rfl rfl rfl rfl (xv 5 [0] [0] rfl (EV.mv rfl) rfl rfl rfl rfl (xv 6 [0] [0] rfl (EV.nc rfl) rfl rfl rfl rfl (xv 7 [0] [0] rfl (EV.fa 2 rfl) rfl rfl rfl rfl (xv 8 [0] [0] rfl (EV.ld 0 none rfl rfl rfl) rfl rfl rfl rfl ?_)))))))))))))))))))))))))))))
 refine xv 9 [0] [0] rfl (EV.shr rfl rfl dq) rfl rfl rfl rfl (xv 10 [0] [0] rfl (EV.xorI rfl rfl) rfl rfl rfl rfl (xv 11 [0] [0] rfl (EV.andI rfl rfl) rfl rfl rfl rfl (xv 12 [0] [0] rfl (EV.as rfl) rfl rfl rfl rfl (xd (pr [0, 3] [0] [0] rfl rfl rfl rfl (gs (gs (dr [0] [0] [] 10 rfl rfl rfl rfl (xv 0 [0] [0] rfl (EV.mv rfl) rfl rfl rfl rfl (xv 1 [0] [0] rfl (EV.nc rfl) rfl rfl rfl rfl (xv 2 [0] [0] rfl (EV.fa 1 rfl) rfl rfl rfl rfl (xv 3 [0] [0] rfl (EV.ld 0 none rfl rfl rfl) rfl rfl rfl rfl (xv 4 [0] [0] rfl (EV.mv rfl) rfl rfl rfl rfl (xv 5 [0] [0] rfl (EV.nc rfl) rfl rfl rfl rfl (xv 6 [0] [0] rfl (EV.fa 0 rfl) rfl rfl rfl rfl (xv 7 [0] [0] rfl (EV.ld 0 none rfl rfl rfl) rfl rfl rfl rfl (xv 8 [0] [0] rfl (EV.ln rfl) rfl rfl rfl rfl (xv 9 [0] [0] rfl (EV.lss rfl rfl) rfl rfl rfl rfl (xd (pr [0, 3, 34] [0] [0] rfl rfl rfl rfl ?_))))))))))))))))))))
 revert H; refine ifsI ?_ ?_ <;> intro c1 H
 ·
  refine gt rfl (dT c1) (gs ?_)
  revert H; refine ggI ?_; intro g2 H
  refine dr [0] [0] [] 15 rfl rfl rfl rfl (xv 0 [0] [0] rfl (EV.mv rfl) rfl rfl rfl rfl (xv 1 [0] [0] rfl (EV.mv rfl) rfl rfl rfl rfl (xv 2 [0] [0] rfl (EV.nc rfl) rfl rfl rfl rfl (xv 3 [0] [0] rfl (EV.fa 0 rfl) rfl rfl rfl rfl (xv 4 [0] [0] rfl (EV.ld 0 none rfl rfl rfl) rfl rfl rfl rfl (xv 5 [0] [0] rfl (EV.mv rfl) rfl rfl rfl rfl (xv 6 [0] [0] rfl (EV.nc rfl) rfl rfl rfl rfl (xv 7 [0] [0] rfl (EV.fa 1 rfl) rfl rfl rfl rfl (xv 8 [0] [0] rfl (EV.ld 0 none rfl rfl rfl) rfl rfl rfl rfl (xv 9 [0] [0] rfl (EV.ix 0 rfl rfl rfl g2 c1 rfl) rfl rfl rfl rfl (xv 10 [0] [0] rfl (EV.le (v := .int .u8 (rdOf 0 l0_0 a0_1)) a0_1 0 none 0 0 rfl rfl rfl g2 c1 rfl rfl rfl) rfl rfl rfl rfl (xv 11 [0] [0] rfl (EV.cv (k' := .i64) rfl) rfl rfl rfl rfl (xv 12 [0] [0] rfl (EV.add rfl rfl) rfl rfl rfl rfl (xv 13 [0] [0] rfl (EV.andI rfl rfl) rfl rfl rfl rfl (xv 14 [0] [0] rfl (EV.as rfl) rfl rfl rfl rfl (xd (pr [0, 3] [0] [0] rfl rfl rfl rfl (rg (sv (EV.mv rfl) rfl (sv (EV.mv rfl) rfl (sv (EV.nc rfl) rfl (sv (EV.fa 1 rfl) rfl (sv (EV.ld 0 none rfl rfl rfl) rfl (sv (EV.add rfl rfl) rfl (sv (EV.nc rfl) rfl (sv (EV.fa 1 rfl) rfl (so rfl (op_st (cs' := [.slice Al0_0 l0_0.length cl0_0, .int .i64 (wrap64 (a0_1 + 1)), .int .i64 (wrap64 ((wrap64 (a0_2 * 6364136223846793005)) + 1442695040888963407))]) 0 rfl rfl rfl rfl rfl rfl (re ?_)))))))))))))))))))))))))))))
  refine pr [3] [0] [0] rfl rfl rfl rfl (gs (rg (sv (EV.mv rfl) rfl (sv (EV.as rfl) rfl (re ?_)))))
  cases H
  exact rt Try.func114 rfl (.tmp rfl .nil) rfl [0] [] rfl rfl rfl rfl rfl ⟨rfl, rfl, rfl⟩
 ·
  refine gf rfl (dF c1) (gk (gs (rg (sv (EV.mv rfl) rfl (sv (EV.as rfl) rfl (re ?_))))))
  cases H
  exact rt Try.func114 rfl (.tmp rfl .nil) rfl [0] [] rfl rfl rfl rfl rfl ⟨rfl, rfl, rfl⟩
end Go.Proofs.Ytajjeemkdjfilaa.K
namespace Go.Proofs.Ytajjeemkdjfilaa.K
open Go Go.RowKit
set_option linter.unusedVariables false
set_option linter.unusedSimpArgs false
def spec_l1Below.f (l0_0 : List Int) (a0_1 : Int) (a0_2 : Int) (a1 : Int) : Option (Int × Int × Int) := if a1 ≤ 0 then (some (0, a0_1, a0_2)) else (if a1 ≤ 256 then ((spec_l1Byte.f l0_0 a0_1 a0_2).bind fun bt3 => (if a1 ≠ 0 then (some (Int.tmod bt3.1 a1, bt3.2.1, bt3.2.2)) else none)) else ((spec_l1Byte.f l0_0 a0_1 a0_2).bind fun bt5 => ((spec_l1Byte.f l0_0 bt5.2.1 bt5.2.2).bind fun bt6 => ((spec_l1Byte.f l0_0 bt6.2.1 bt6.2.2).bind fun bt7 => ((spec_l1Byte.f l0_0 bt7.2.1 bt7.2.2).bind fun bt8 => (if a1 ≠ 0 then (some (Int.tmod (wrap64 ((wrap64 ((wrap64 ((wrap64 (bt5.1 * 16777216)) + (wrap64 (bt6.1 * 65536)))) + (wrap64 (bt7.1 * 256)))) + bt8.1)) a1, bt8.2.1, bt8.2.2)) else none))))))
set_option maxHeartbeats 4000000 in
set_option maxRecDepth 100000 in
theorem spec_l1Below.ok (b1000 : Nat) (l0_0 : List Int) (Al0_0 : Option Addr) (cl0_0 : Nat) (a0_1 : Int) (a0_2 : Int) (a1 : Int) (r0 : Int) (r1 : Int) (r2 : Int) (H : spec_l1Below.f l0_0 a0_1 a0_2 a1 = some (r0, r1, r2)) : Fn Try.prog 106 [.pointer (some ⟨b1000, 0, none⟩), .int .i64 a1] [⟨b1000, 111, [.slice Al0_0 l0_0.length cl0_0, .int .i64 a0_1, .int .i64 a0_2]⟩] [.sl 0 (.int .u8) Al0_0 cl0_0 l0_0 0 false] (fun v bx en => v = .int .i64 r0 ∧ bx = [⟨b1000, 111, [.slice Al0_0 l0_0.length cl0_0, .int .i64 r1, .int .i64 r2]⟩] ∧ en = []) := by
 refine fn_ 37 Try.func106 rfl rfl rfl (fun base T w0 => ?_)
 rw [spec_l1Below.f] at H
 refine gs (rg (sv (EV.as rfl) rfl (re (gs (gs (rg (sv (EV.mv rfl) rfl (sv (EV.leq rfl rfl) rfl (re ?_)))))))))
 revert H; refine ifsI ?_ ?_ <;> intro c1 H
 ·
  refine gt rfl (dT c1) (gs (rg (sv (EV.as rfl) rfl (re ?_))))
  cases H
  exact rt Try.func106 rfl (.tmp rfl .nil) rfl [0] [] rfl rfl rfl rfl rfl ⟨rfl, rfl, rfl⟩
 ·
  refine gf rfl (dF c1) (gk (gs (gs (rg (sv (EV.mv rfl) rfl (sv (EV.leq rfl rfl) rfl (re ?_)))))))
  revert H; refine ifsI ?_ ?_ <;> intro c2 H
  ·
   refine gt rfl (dT c2) (gs (rg (sv (EV.mv rfl) rfl ?_)))
   revert H; refine bdI ?_; rintro ⟨t3_0, t3_1, t3_2⟩ A3 H
   refine so rfl (op_callM (spec_l1Byte.ok b1000 l0_0 Al0_0 cl0_0 a0_1 a0_2 _ _ _ A3) [⟨0, 0, 0, false⟩] [0] [] 1 rfl rfl rfl rfl rfl rfl rfl rfl ?_)
   rintro _ _ _ ⟨rfl, rfl, rfl⟩
   refine nmE (en := [.sl 0 (.int .u8) Al0_0 cl0_0 l0_0 0 false]) (by kernel_rfl) (sv (EV.mv rfl) rfl ?_)
   revert H; refine ggI ?_; intro g4 H
   refine sv (EV.rem rfl rfl g4) rfl (sv (EV.as rfl) rfl (re (pr [4] [0] [0] rfl rfl rfl rfl ?_)))
   cases H
   exact rt Try.func106 rfl (.tmp rfl .nil) rfl [0] [] rfl rfl rfl rfl rfl ⟨rfl, rfl, rfl⟩
  ·
   refine gf rfl (dF c2) (gk (gs (rg (sv (EV.mv rfl) rfl ?_))))
   revert H; refine bdI ?_; rintro ⟨t5_0, t5_1, t5_2⟩ A5 H
   refine so rfl (op_callM (spec_l1Byte.ok b1000 l0_0 Al0_0 cl0_0 a0_1 a0_2 _ _ _ A5) [⟨0, 0, 0, false⟩] [0] [] 1 rfl rfl rfl rfl rfl rfl rfl rfl ?_)
   rintro _ _ _ ⟨rfl, rfl, rfl⟩
   refine nmE (en := [.sl 0 (.int .u8) Al0_0 cl0_0 l0_0 0 false]) (by kernel_rfl) (sv (EV.as rfl) rfl (re (pr [0, 1, 5] [0] [0] rfl rfl rfl rfl (gs (rg (sv (EV.mv rfl) rfl ?_))))))
   revert H; refine bdI ?_; rintro ⟨t6_0, t6_1, t6_2⟩ A6 H
   refine so rfl (op_callM (spec_l1Byte.ok b1000 l0_0 Al0_0 cl0_0 t5_1 t5_2 _ _ _ A6) [⟨0, 0, 0, false⟩] [0] [] 1 rfl rfl rfl rfl rfl rfl rfl rfl ?_)
   rintro _ _ _ ⟨rfl, rfl, rfl⟩
   refine nmE (en := [.sl 0 (.int .u8) Al0_0 cl0_0 l0_0 0 false]) (by kernel_rfl) (sv (EV.as rfl) rfl (re (gs (rg (sv (EV.mv rfl) rfl ?_)))))
   revert H; refine bdI ?_; rintro ⟨t7_0, t7_1, t7_2⟩ A7 H
   refine so rfl (op_callM (spec_l1Byte.ok b1000 l0_0 Al0_0 cl0_0 t6_1 t6_2 _ _ _ A7) [⟨0, 0, 0, false⟩] [0] [] 1 rfl rfl rfl rfl rfl rfl rfl rfl ?_)
   rintro _ _ _ ⟨rfl, rfl, rfl⟩
   refine nmE (en := [.sl 0 (.int .u8) Al0_0 cl0_0 l0_0 0 false]) (by kernel_rfl) (sv (EV.as rfl) rfl (re (gs (rg (sv (EV.mv rfl) rfl ?_)))))
   revert H; refine bdI ?_; rintro ⟨t8_0, t8_1, t8_2⟩ A8 H
   refine so rfl (op_callM (spec_l1Byte.ok b1000 l0_0 Al0_0 cl0_0 t7_1 t7_2 _ _ _ A8) [⟨0, 0, 0, false⟩] [0] [] 1 rfl rfl rfl rfl rfl rfl rfl rfl ?_)
   rintro _ _ _ ⟨rfl, rfl, rfl⟩
   refine nmE (en := [.sl 0 (.int .u8) Al0_0 cl0_0 l0_0 0 false]) (by kernel_rfl) (sv (EV.as rfl) rfl (re (pr [1, 5, 6, 7, 8] [0] [0] rfl rfl rfl rfl (gs (rg (sv (EV.mv rfl) rfl (sv (EV.mul rfl rfl) rfl (sv (EV.mv rfl) rfl (sv (EV.mul rfl rfl) rfl (sv (EV.add rfl rfl) rfl (sv (EV.mv rfl) rfl (sv (EV.mul rfl rfl) rfl (sv (EV.add rfl rfl) rfl (sv (EV.mv rfl) rfl (sv (EV.add rfl rfl) rfl (sv (EV.mv rfl) rfl ?_))))))))))))))))
   revert H; refine ggI ?_; intro g9 H
   refine sv (EV.rem rfl rfl g9) rfl (sv (EV.as rfl) rfl (re (pr [4] [0] [0] rfl rfl rfl rfl ?_)))
   cases H
   exact rt Try.func106 rfl (.tmp rfl .nil) rfl [0] [] rfl rfl rfl rfl rfl ⟨rfl, rfl, rfl⟩
end Go.Proofs.Ytajjeemkdjfilaa.K
namespace Go.Proofs.Ytajjeemkdjfilaa.K
open Go Go.RowKit
set_option linter.unusedVariables false
set_option linter.unusedSimpArgs false
def spec_l1Once.f (l0_0 : List Int) (a0_1 : Int) (a0_2 : Int) (a1 : Int) : Option (Bool × Int × Int) := (spec_l1Below.f l0_0 a0_1 a0_2 a1).bind fun bt1 => (some (decide (bt1.1 = 0), bt1.2.1, bt1.2.2))
set_option maxHeartbeats 4000000 in
set_option maxRecDepth 100000 in
theorem spec_l1Once.ok (b1000 : Nat) (l0_0 : List Int) (Al0_0 : Option Addr) (cl0_0 : Nat) (a0_1 : Int) (a0_2 : Int) (a1 : Int) (r0 : Bool) (r1 : Int) (r2 : Int) (H : spec_l1Once.f l0_0 a0_1 a0_2 a1 = some (r0, r1, r2)) : Fn Try.prog 105 [.pointer (some ⟨b1000, 0, none⟩), .int .i64 a1] [⟨b1000, 111, [.slice Al0_0 l0_0.length cl0_0, .int .i64 a0_1, .int .i64 a0_2]⟩] [.sl 0 (.int .u8) Al0_0 cl0_0 l0_0 0 false] (fun v bx en => v = .bool r0 ∧ bx = [⟨b1000, 111, [.slice Al0_0 l0_0.length cl0_0, .int .i64 r1, .int .i64 r2]⟩] ∧ en = []) := by
 refine fn_ 9 Try.func105 rfl rfl rfl (fun base T w0 => ?_)
 rw [spec_l1Once.f] at H
 refine gs (rg (sv (EV.as rfl) rfl (re (gs (rg (sv (EV.mv rfl) rfl (sv (EV.mv rfl) rfl ?_)))))))
 revert H; refine bdI ?_; rintro ⟨t1_0, t1_1, t1_2⟩ A1 H
 refine so rfl (op_callM (spec_l1Below.ok b1000 l0_0 Al0_0 cl0_0 a0_1 a0_2 a1 _ _ _ A1) [⟨0, 0, 0, false⟩] [0] [] 1 rfl rfl rfl rfl rfl rfl rfl rfl ?_)
 rintro _ _ _ ⟨rfl, rfl, rfl⟩
 refine nmE (en := [.sl 0 (.int .u8) Al0_0 cl0_0 l0_0 0 false]) (by kernel_rfl) (sv (EV.eql rfl rfl) rfl (sv (EV.as rfl) rfl (re (pr [4] [0] [0] rfl rfl rfl rfl ?_))))
 cases H
 exact rt Try.func105 rfl (.tmp rfl .nil) rfl [0] [] rfl rfl rfl rfl rfl ⟨rfl, rfl, rfl⟩
end Go.Proofs.Ytajjeemkdjfilaa.K
namespace Go.Proofs.Ytajjeemkdjfilaa.K
open Go Go.RowKit
set_option linter.unusedVariables false
set_option linter.unusedSimpArgs false
def spec_l1PickInt.f (l0_0 : List Int) (a0_1 : Int) (a0_2 : Int) (l1 : List Int) : Option (Int × Int × Int) := (spec_l1Below.f l0_0 a0_1 a0_2 (l1.length : Int)).bind fun bt1 => (if 0 ≤ bt1.1 then (if bt1.1 < (l1.length : Int) then (some (rdOf 0 l1 bt1.1, bt1.2.1, bt1.2.2)) else none) else none)
set_option maxHeartbeats 4000000 in
set_option maxRecDepth 100000 in
theorem spec_l1PickInt.ok (b1000 : Nat) (l0_0 : List Int) (Al0_0 : Option Addr) (cl0_0 : Nat) (a0_1 : Int) (a0_2 : Int) (l1 : List Int) (Al1 : Option Addr) (cl1 : Nat) (r0 : Int) (r1 : Int) (r2 : Int) (H : spec_l1PickInt.f l0_0 a0_1 a0_2 l1 = some (r0, r1, r2)) : Fn Try.prog 84 [.pointer (some ⟨b1000, 0, none⟩), .slice Al1 l1.length cl1] [⟨b1000, 111, [.slice Al0_0 l0_0.length cl0_0, .int .i64 a0_1, .int .i64 a0_2]⟩] [.sl 0 (.int .u8) Al0_0 cl0_0 l0_0 0 false, .sl 0 (.int .i64) Al1 cl1 l1 0 false] (fun v bx en => v = .int .i64 r0 ∧ bx = [⟨b1000, 111, [.slice Al0_0 l0_0.length cl0_0, .int .i64 r1, .int .i64 r2]⟩] ∧ en = []) := by
 refine fn_ 12 Try.func84 rfl rfl rfl (fun base T w0 => ?_)
 rw [spec_l1PickInt.f] at H
 refine gs (rg (sv (EV.as rfl) rfl (re (gs (rg (sv (EV.mv rfl) rfl (sv (EV.mv rfl) rfl (sv (EV.mv rfl) rfl (sv (EV.ln rfl) rfl ?_)))))))))
 revert H; refine bdI ?_; rintro ⟨t1_0, t1_1, t1_2⟩ A1 H
 refine so rfl (op_callM (spec_l1Below.ok b1000 l0_0 Al0_0 cl0_0 a0_1 a0_2 (l1.length : Int) _ _ _ A1) [⟨0, 0, 0, false⟩] [0] [] 1 rfl rfl rfl rfl rfl rfl rfl rfl ?_)
 rintro _ _ _ ⟨rfl, rfl, rfl⟩
 refine nmE (en := [.sl 0 (.int .u8) Al0_0 cl0_0 l0_0 0 false, .sl 0 (.int .i64) Al1 cl1 l1 0 false]) (by kernel_rfl) ?_
 revert H; refine ggI ?_; intro g2 H
 revert H; refine ggI ?_; intro g3 H
 refine sv (EV.ix 1 rfl rfl rfl g2 g3 rfl) rfl (sv (EV.le (v := .int .i64 (rdOf 0 l1 t1_0)) t1_0 0 none 1 0 rfl rfl rfl g2 g3 rfl rfl rfl) rfl (sv (EV.as rfl) rfl (re (pr [4] [0] [0] rfl rfl rfl rfl ?_))))
 cases H
 exact rt Try.func84 rfl (.tmp rfl .nil) rfl [0] [] rfl rfl rfl rfl rfl ⟨rfl, rfl, rfl⟩
end Go.Proofs.Ytajjeemkdjfilaa.K
namespace Go.Proofs.Ytajjeemkdjfilaa.K
open Go Go.RowKit
set_option linter.unusedVariables false
set_option linter.unusedSimpArgs false
def spec_l2Row.f (l0_0 : List Int) (a0_1 : Int) (a0_2 : Int) (a1 : Int) : Option (Int × Int × Int × Int × Int) := (spec_l1Below.f l0_0 a0_1 a0_2 a1).bind fun bt1 => ((spec_l1Below.f l0_0 bt1.2.1 bt1.2.2 100).bind fun bt2 => ((spec_l1PickInt.f l0_0 bt2.2.1 bt2.2.2 ([0, 0, 1, 2, 3] : List Int)).bind fun bt4 => (some (bt1.1, bt2.1, bt4.1, bt4.2.1, bt4.2.2))))
set_option maxHeartbeats 4000000 in
set_option maxRecDepth 100000 in
theorem spec_l2Row.ok (b1000 : Nat) (l0_0 : List Int) (Al0_0 : Option Addr) (cl0_0 : Nat) (a0_1 : Int) (a0_2 : Int) (a1 : Int) (r0 : Int) (r1 : Int) (r2 : Int) (r3 : Int) (r4 : Int) (H : spec_l2Row.f l0_0 a0_1 a0_2 a1 = some (r0, r1, r2, r3, r4)) : Fn Try.prog 111 [.pointer (some ⟨b1000, 0, none⟩), .int .i64 a1] [⟨b1000, 111, [.slice Al0_0 l0_0.length cl0_0, .int .i64 a0_1, .int .i64 a0_2]⟩] [.sl 0 (.int .u8) Al0_0 cl0_0 l0_0 0 false] (fun v bx en => v = .agg #[.int .i64 r0, .int .i64 r1, .int .i64 r2] ∧ bx = [⟨b1000, 111, [.slice Al0_0 l0_0.length cl0_0, .int .i64 r3, .int .i64 r4]⟩] ∧ en = []) := by
 refine fn_ 14 Try.func111 rfl rfl rfl (fun base T w0 => ?_)
 rw [spec_l2Row.f] at H
 refine gs (rg (so rfl (op_alloc (cs := [.int .i64 0, .int .i64 0, .int .i64 0]) (by kernel_rfl) rfl fun b4 => (re (gs (rg (sv (EV.mv rfl) rfl (sv (EV.mv rfl) rfl ?_))))))))
 revert H; refine bdI ?_; rintro ⟨t1_0, t1_1, t1_2⟩ A1 H
 refine so rfl (op_callM (spec_l1Below.ok b1000 l0_0 Al0_0 cl0_0 a0_1 a0_2 a1 _ _ _ A1) [⟨0, 0, 0, false⟩] [0] [1] 1 rfl rfl rfl rfl rfl rfl rfl rfl ?_)
 rintro _ _ _ ⟨rfl, rfl, rfl⟩
 refine nmE (en := [.sl 0 (.int .u8) Al0_0 cl0_0 l0_0 0 false]) (by kernel_rfl) (sv (EV.mv rfl) rfl ?_)
 revert H; refine bdI ?_; rintro ⟨t2_0, t2_1, t2_2⟩ A2 H
 refine so rfl (op_callM (spec_l1Below.ok b1000 l0_0 Al0_0 cl0_0 t1_1 t1_2 100 _ _ _ A2) [⟨0, 0, 0, false⟩] [1] [0] 1 rfl rfl rfl rfl rfl rfl rfl rfl ?_)
 rintro _ _ _ ⟨rfl, rfl, rfl⟩
 refine nmE (en := [.sl 0 (.int .u8) Al0_0 cl0_0 l0_0 0 false]) (by kernel_rfl) (sv (EV.mv rfl) rfl (so rfl (op_lit (s := 1) (by_ := 8) (.int .i64) ([0, 0, 1, 2, 3] : List Int) [[], [], [], [], []] [] 1 [.const (.int .i64 0), .const (.int .i64 0), .const (.int .i64 1), .const (.int .i64 2), .const (.int .i64 3)] rfl rfl rfl rfl rfl rfl rfl rfl rfl rfl rfl rfl rfl dq rfl fun A11_3 c11_3 => ?_)))
 revert H; refine bdI ?_; rintro ⟨t4_0, t4_1, t4_2⟩ A4 H
 refine so rfl (op_callM (spec_l1PickInt.ok b1000 l0_0 Al0_0 cl0_0 t2_1 t2_2 ([0, 0, 1, 2, 3] : List Int) A11_3 c11_3 _ _ _ A4) [⟨0, 0, 0, false⟩, ⟨1, 0, 0, false⟩] [1] [0] 2 rfl rfl rfl rfl rfl rfl rfl rfl ?_)
 rintro _ _ _ ⟨rfl, rfl, rfl⟩
 refine nmE (en := [.sl 0 (.int .u8) Al0_0 cl0_0 l0_0 0 false, .sl 2 (.int .i64) A11_3 c11_3 ([0, 0, 1, 2, 3] : List Int) 1 true]) (by kernel_rfl) (sv (EV.bd (v := .agg #[.int .i64 t1_0, .int .i64 t2_0, .int .i64 t4_0]) rfl (by kernel_rfl)) rfl (so rfl (op_st (cs' := [.int .i64 t1_0, .int .i64 t2_0, .int .i64 t4_0]) 0 rfl rfl rfl rfl rfl rfl (re (pr [4] [0, 1] [0] rfl rfl rfl rfl ?_)))))
 cases H
 exact rt Try.func111 rfl (.cell 0 (some 3) rfl rfl rfl .nil) rfl [1] [] rfl rfl rfl rfl rfl ⟨rfl, rfl, rfl⟩
end Go.Proofs.Ytajjeemkdjfilaa.K
namespace Go.Proofs.Ytajjeemkdjfilaa.K
open Go Go.RowKit
set_option linter.unusedVariables false
set_option linter.unusedSimpArgs false
def spec_l2Any.f (l0_0 : List Int) (a0_1 : Int) (a0_2 : Int) : Option (Int × Int × Int × Int × Int) := (spec_l2Row.f l0_0 a0_1 a0_2 10).bind fun bt1 => ((spec_l1Below.f l0_0 bt1.2.2.2.1 bt1.2.2.2.2 8).bind fun bt2 => (if bt2.1 = 0 then ((spec_l1PickInt.f l0_0 bt2.2.1 bt2.2.2 ([(-1), 10] : List Int)).bind fun bt5 => (some (bt5.1, bt1.2.1, bt1.2.2.1, bt5.2.1, bt5.2.2))) else (if bt2.1 = 1 then ((spec_l1PickInt.f l0_0 bt2.2.1 bt2.2.2 ([(-1), 100, 99] : List Int)).bind fun bt8 => (some (bt1.1, bt8.1, bt1.2.2.1, bt8.2.1, bt8.2.2))) else (if bt2.1 = 2 then ((spec_l1PickInt.f l0_0 bt2.2.1 bt2.2.2 ([(-1), 4] : List Int)).bind fun bt11 => (some (bt1.1, bt1.2.1, bt11.1, bt11.2.1, bt11.2.2))) else (some (bt1.1, bt1.2.1, bt1.2.2.1, bt2.2.1, bt2.2.2))))))
set_option maxHeartbeats 4000000 in
set_option maxRecDepth 100000 in
theorem spec_l2Any.ok (b1000 : Nat) (l0_0 : List Int) (Al0_0 : Option Addr) (cl0_0 : Nat) (a0_1 : Int) (a0_2 : Int) (r0 : Int) (r1 : Int) (r2 : Int) (r3 : Int) (r4 : Int) (H : spec_l2Any.f l0_0 a0_1 a0_2 = some (r0, r1, r2, r3, r4)) : Fn Try.prog 107 [.pointer (some ⟨b1000, 0, none⟩)] [⟨b1000, 111, [.slice Al0_0 l0_0.length cl0_0, .int .i64 a0_1, .int .i64 a0_2]⟩] [.sl 0 (.int .u8) Al0_0 cl0_0 l0_0 0 false] (fun v bx en => v = .agg #[.int .i64 r0, .int .i64 r1, .int .i64 r2] ∧ bx = [⟨b1000, 111, [.slice Al0_0 l0_0.length cl0_0, .int .i64 r3, .int .i64 r4]⟩] ∧ en = []) := by
 refine fn_ 27 Try.func107 rfl rfl rfl (fun base T w0 => ?_)
 rw [spec_l2Any.f] at H
 refine gs (rg (so rfl (op_alloc (cs := [.int .i64 0, .int .i64 0, .int .i64 0]) (by kernel_rfl) rfl fun b2 => (re (gs (rg (sv (EV.mv rfl) rfl ?_)))))))
 revert H; refine bdI ?_; rintro ⟨t1_0, t1_1, t1_2, t1_3, t1_4⟩ A1 H
 refine so rfl (op_callM (spec_l2Row.ok b1000 l0_0 Al0_0 cl0_0 a0_1 a0_2 10 _ _ _ _ _ A1) [⟨0, 0, 0, false⟩] [0] [1] 1 rfl rfl rfl rfl rfl rfl rfl rfl ?_)
 rintro _ _ _ ⟨rfl, rfl, rfl⟩
 refine nmE (en := [.sl 0 (.int .u8) Al0_0 cl0_0 l0_0 0 false]) (by kernel_rfl) (so rfl (op_alloc (cs := [.int .i64 0, .int .i64 0, .int .i64 0]) (by kernel_rfl) rfl fun b3 => (so rfl (op_st (cs' := [.int .i64 t1_0, .int .i64 t1_1, .int .i64 t1_2]) 2 rfl rfl rfl rfl rfl rfl (re (gs (gs (rg (sv (EV.mv rfl) rfl ?_)))))))))
 revert H; refine bdI ?_; rintro ⟨t2_0, t2_1, t2_2⟩ A2 H
 refine so rfl (op_callM (spec_l1Below.ok b1000 l0_0 Al0_0 cl0_0 t1_3 t1_4 8 _ _ _ A2) [⟨0, 0, 0, false⟩] [1] [0, 2] 1 rfl rfl rfl rfl rfl rfl rfl rfl ?_)
 rintro _ _ _ ⟨rfl, rfl, rfl⟩
 refine nmE (en := [.sl 0 (.int .u8) Al0_0 cl0_0 l0_0 0 false]) (by kernel_rfl) (re (gb (gs (rg (sv (EV.eql rfl rfl) rfl (sv (EV.as rfl) rfl (re ?_)))))))
 revert H; refine ifsI ?_ ?_ <;> intro c3 H
 ·
  refine gt rfl (dT c3) (rg (sv (EV.mv rfl) rfl (so rfl (op_lit (s := 1) (by_ := 8) (.int .i64) ([(-1), 10] : List Int) [[], []] [] 1 [.const (.int .i64 (-1)), .const (.int .i64 10)] rfl rfl rfl rfl rfl rfl rfl rfl rfl rfl rfl rfl rfl dq rfl fun A11_4 c11_4 => ?_))))
  revert H; refine bdI ?_; rintro ⟨t5_0, t5_1, t5_2⟩ A5 H
  refine so rfl (op_callM (spec_l1PickInt.ok b1000 l0_0 Al0_0 cl0_0 t2_1 t2_2 ([(-1), 10] : List Int) A11_4 c11_4 _ _ _ A5) [⟨0, 0, 0, false⟩, ⟨1, 0, 0, false⟩] [2] [0, 1] 2 rfl rfl rfl rfl rfl rfl rfl rfl ?_)
  rintro _ _ _ ⟨rfl, rfl, rfl⟩
  refine nmE (en := [.sl 0 (.int .u8) Al0_0 cl0_0 l0_0 0 false, .sl 2 (.int .i64) A11_4 c11_4 ([(-1), 10] : List Int) 1 true]) (by kernel_rfl) (sv (EV.fa 0 rfl) rfl (so rfl (op_st (cs' := [.int .i64 t5_0, .int .i64 t1_1, .int .i64 t1_2]) 1 rfl rfl rfl rfl rfl rfl (re (pr [2, 3] [0, 1, 2] [0] rfl rfl rfl rfl (ge (gs (rg (sv (EV.ld (v := .agg #[.int .i64 t5_0, .int .i64 t1_1, .int .i64 t1_2]) 1 (some 3) rfl rfl rfl) rfl (so rfl (op_st (cs' := [.int .i64 t5_0, .int .i64 t1_1, .int .i64 t1_2]) 0 rfl rfl rfl rfl rfl rfl (re ?_))))))))))))
  cases H
  exact rt Try.func107 rfl (.cell 0 (some 3) rfl rfl rfl .nil) rfl [2] [] rfl rfl rfl rfl rfl ⟨rfl, rfl, rfl⟩
 ·
  refine gf rfl (dF c3) (gs (rg (sv (EV.eql rfl rfl) rfl (sv (EV.as rfl) rfl (re (pr [0, 2, 3, 7, 14] [0, 1, 2] [0] rfl rfl rfl rfl ?_))))))
  revert H; refine ifsI ?_ ?_ <;> intro c6 H
  ·
   refine gt rfl (dT c6) (rg (sv (EV.mv rfl) rfl (so rfl (op_lit (s := 1) (by_ := 8) (.int .i64) ([(-1), 100, 99] : List Int) [[], [], []] [] 1 [.const (.int .i64 (-1)), .const (.int .i64 100), .const (.int .i64 99)] rfl rfl rfl rfl rfl rfl rfl rfl rfl rfl rfl rfl rfl dq rfl fun A17_7 c17_7 => ?_))))
   revert H; refine bdI ?_; rintro ⟨t8_0, t8_1, t8_2⟩ A8 H
   refine so rfl (op_callM (spec_l1PickInt.ok b1000 l0_0 Al0_0 cl0_0 t2_1 t2_2 ([(-1), 100, 99] : List Int) A17_7 c17_7 _ _ _ A8) [⟨0, 0, 0, false⟩, ⟨1, 0, 0, false⟩] [2] [0, 1] 2 rfl rfl rfl rfl rfl rfl rfl rfl ?_)
   rintro _ _ _ ⟨rfl, rfl, rfl⟩
   refine nmE (en := [.sl 0 (.int .u8) Al0_0 cl0_0 l0_0 0 false, .sl 2 (.int .i64) A17_7 c17_7 ([(-1), 100, 99] : List Int) 1 true]) (by kernel_rfl) (sv (EV.fa 1 rfl) rfl (so rfl (op_st (cs' := [.int .i64 t1_0, .int .i64 t8_0, .int .i64 t1_2]) 1 rfl rfl rfl rfl rfl rfl (re (pr [2, 3] [0, 1, 2] [0] rfl rfl rfl rfl (ge (gs (rg (sv (EV.ld (v := .agg #[.int .i64 t1_0, .int .i64 t8_0, .int .i64 t1_2]) 1 (some 3) rfl rfl rfl) rfl (so rfl (op_st (cs' := [.int .i64 t1_0, .int .i64 t8_0, .int .i64 t1_2]) 0 rfl rfl rfl rfl rfl rfl (re ?_))))))))))))
   cases H
   exact rt Try.func107 rfl (.cell 0 (some 3) rfl rfl rfl .nil) rfl [2] [] rfl rfl rfl rfl rfl ⟨rfl, rfl, rfl⟩
  ·
   refine gf rfl (dF c6) (gs (rg (sv (EV.eql rfl rfl) rfl (sv (EV.as rfl) rfl (re ?_)))))
   revert H; refine ifsI ?_ ?_ <;> intro c9 H
   ·
    refine gt rfl (dT c9) (rg (sv (EV.mv rfl) rfl (so rfl (op_lit (s := 1) (by_ := 8) (.int .i64) ([(-1), 4] : List Int) [[], []] [] 1 [.const (.int .i64 (-1)), .const (.int .i64 4)] rfl rfl rfl rfl rfl rfl rfl rfl rfl rfl rfl rfl rfl dq rfl fun A23_10 c23_10 => ?_))))
    revert H; refine bdI ?_; rintro ⟨t11_0, t11_1, t11_2⟩ A11 H
    refine so rfl (op_callM (spec_l1PickInt.ok b1000 l0_0 Al0_0 cl0_0 t2_1 t2_2 ([(-1), 4] : List Int) A23_10 c23_10 _ _ _ A11) [⟨0, 0, 0, false⟩, ⟨1, 0, 0, false⟩] [2] [0, 1] 2 rfl rfl rfl rfl rfl rfl rfl rfl ?_)
    rintro _ _ _ ⟨rfl, rfl, rfl⟩
    refine nmE (en := [.sl 0 (.int .u8) Al0_0 cl0_0 l0_0 0 false, .sl 2 (.int .i64) A23_10 c23_10 ([(-1), 4] : List Int) 1 true]) (by kernel_rfl) (sv (EV.fa 2 rfl) rfl (so rfl (op_st (cs' := [.int .i64 t1_0, .int .i64 t1_1, .int .i64 t11_0]) 1 rfl rfl rfl rfl rfl rfl (re (pr [2, 3] [0, 1, 2] [0] rfl rfl rfl rfl (ge (gs (rg (sv (EV.ld (v := .agg #[.int .i64 t1_0, .int .i64 t1_1, .int .i64 t11_0]) 1 (some 3) rfl rfl rfl) rfl (so rfl (op_st (cs' := [.int .i64 t1_0, .int .i64 t1_1, .int .i64 t11_0]) 0 rfl rfl rfl rfl rfl rfl (re ?_))))))))))))
    cases H
    exact rt Try.func107 rfl (.cell 0 (some 3) rfl rfl rfl .nil) rfl [2] [] rfl rfl rfl rfl rfl ⟨rfl, rfl, rfl⟩
   ·
    refine gf rfl (dF c9) (gk (ge (gs (rg (sv (EV.ld (v := .agg #[.int .i64 t1_0, .int .i64 t1_1, .int .i64 t1_2]) 1 (some 3) rfl rfl rfl) rfl (so rfl (op_st (cs' := [.int .i64 t1_0, .int .i64 t1_1, .int .i64 t1_2]) 0 rfl rfl rfl rfl rfl rfl (re (pr [2] [0, 2] [0] rfl rfl rfl rfl ?_)))))))))
    cases H
    exact rt Try.func107 rfl (.cell 0 (some 3) rfl rfl rfl .nil) rfl [1] [] rfl rfl rfl rfl rfl ⟨rfl, rfl, rfl⟩
end Go.Proofs.Ytajjeemkdjfilaa.K
namespace Go.Proofs.Ytajjeemkdjfilaa.K
open Go Go.RowKit
set_option linter.unusedVariables false
set_option linter.unusedSimpArgs false
def spec_l2Rows.l0 : Nat → (List S70) → Int → Int → Int → Int → (List Int) → Option ((List S70) × Int × Int)
 | 0, _, _, _, _, _, _ => none
 | k + 1, x2_5, x2_6, x2_7, x2_1000_1, x2_1000_2, l0_0 => if x2_7 > 0 then ((spec_l2Row.f l0_0 x2_1000_1 x2_1000_2 x2_6).bind fun bt6 => (if x2_5.length < 5864062014805 then (spec_l2Rows.l0 k (x2_5 ++ ([(⟨bt6.1, bt6.2.1, bt6.2.2.1⟩ : S70)] : List S70)) x2_6 (wrap64 (x2_7 - 1)) bt6.2.2.2.1 bt6.2.2.2.2 l0_0) else none)) else (some (x2_5, x2_1000_1, x2_1000_2))
def spec_l2Rows.f (k : Nat) (l0_0 : List Int) (a0_1 : Int) (a0_2 : Int) (a1 : Int) : Option ((List S70) × Int × Int) := (spec_l1PickInt.f l0_0 a0_1 a0_2 ([1, 2, 4, 10] : List Int)).bind fun bt3 => ((spec_l1Below.f l0_0 bt3.2.1 bt3.2.2 (wrap64 (a1 + 1))).bind fun bt4 => (spec_l2Rows.l0 k [] bt3.1 bt4.1 bt4.2.1 bt4.2.2 l0_0))
set_option maxHeartbeats 4000000 in
set_option maxRecDepth 100000 in
theorem spec_l2Rows.ok (k : Nat) (b1000 : Nat) (l0_0 : List Int) (Al0_0 : Option Addr) (cl0_0 : Nat) (a0_1 : Int) (a0_2 : Int) (a1 : Int) (r0 : List S70) (r1 : Int) (r2 : Int) (H : spec_l2Rows.f k l0_0 a0_1 a0_2 a1 = some (r0, r1, r2)) : Fn Try.prog 77 [.pointer (some ⟨b1000, 0, none⟩), .int .i64 a1] [⟨b1000, 111, [.slice Al0_0 l0_0.length cl0_0, .int .i64 a0_1, .int .i64 a0_2]⟩] [.sl 0 (.int .u8) Al0_0 cl0_0 l0_0 0 false] (fun v bx en => ∃ A0 c0, v = .slice A0 r0.length c0 ∧ bx = [⟨b1000, 111, [.slice Al0_0 l0_0.length cl0_0, .int .i64 r1, .int .i64 r2]⟩] ∧ en = [.sl 2 k70 A0 c0 r0 1 true]) := by
 refine fn_ 27 Try.func77 rfl rfl rfl (fun base T w0 => ?_)
 rw [spec_l2Rows.f] at H
 refine gs (rg (sv (EV.as rfl) rfl (re (gs (rg (so rfl (op_lit (s := 3) (by_ := 24) k70 ([] : List S70) [] [] 1 [] rfl rfl rfl rfl rfl rfl rfl rfl rfl rfl rfl rfl rfl dq rfl fun A8_1 c8_1 => (sv (EV.as rfl) rfl (re (gs (rg (sv (EV.mv rfl) rfl (so rfl (op_lit (s := 1) (by_ := 8) (.int .i64) ([1, 2, 4, 10] : List Int) [[], [], [], []] [] 2 [.const (.int .i64 1), .const (.int .i64 2), .const (.int .i64 4), .const (.int .i64 10)] rfl rfl rfl rfl rfl rfl rfl rfl rfl rfl rfl rfl rfl dq rfl fun A10_2 c10_2 => ?_))))))))))))))
 revert H; refine bdI ?_; rintro ⟨t3_0, t3_1, t3_2⟩ A3 H
 refine so rfl (op_callM (spec_l1PickInt.ok b1000 l0_0 Al0_0 cl0_0 a0_1 a0_2 ([1, 2, 4, 10] : List Int) A10_2 c10_2 _ _ _ A3) [⟨0, 0, 0, false⟩, ⟨2, 0, 0, false⟩] [0] [] 3 rfl rfl rfl rfl rfl rfl rfl rfl ?_)
 rintro _ _ _ ⟨rfl, rfl, rfl⟩
 refine nmE (en := [.sl 0 (.int .u8) Al0_0 cl0_0 l0_0 0 false, .sl 2 k70 A8_1 c8_1 [] 1 true, .sl 2 (.int .i64) A10_2 c10_2 ([1, 2, 4, 10] : List Int) 2 true]) (by kernel_rfl) (sv (EV.as rfl) rfl (re (gs (gs (rg (sv (EV.mv rfl) rfl (sv (EV.mv rfl) rfl (sv (EV.add rfl rfl) rfl ?_))))))))
 revert H; refine bdI ?_; rintro ⟨t4_0, t4_1, t4_2⟩ A4 H
 refine so rfl (op_callM (spec_l1Below.ok b1000 l0_0 Al0_0 cl0_0 t3_1 t3_2 (wrap64 (a1 + 1)) _ _ _ A4) [⟨0, 0, 0, false⟩] [0] [] 3 rfl rfl rfl rfl rfl rfl rfl rfl ?_)
 rintro _ _ _ ⟨rfl, rfl, rfl⟩
 refine nmE (en := [.sl 0 (.int .u8) Al0_0 cl0_0 l0_0 0 false, .sl 2 k70 A8_1 c8_1 [] 1 true, .sl 2 (.int .i64) A10_2 c10_2 ([1, 2, 4, 10] : List Int) 2 true]) (by kernel_rfl) (sv (EV.as rfl) rfl (re (pr [0, 5, 6, 7] [0] [0, 1] rfl rfl rfl rfl (gb ?_))))
 refine lo (fun kk S => ∃ (x2_5 : List S70) (Ax2_5 : Option Addr) (cx2_5 : Nat) (x2_6 : Int) (x2_7 : Int) (x2_1000_1 : Int) (x2_1000_2 : Int), spec_l2Rows.l0 kk x2_5 x2_6 x2_7 x2_1000_1 x2_1000_2 l0_0 = some (r0, r1, r2) ∧ S = ⟨[(0, .pointer (some ⟨b1000, 0, none⟩)), (5, .slice Ax2_5 x2_5.length cx2_5), (6, .int .i64 x2_6), (7, .int .i64 x2_7)], [⟨b1000, 111, [.slice Al0_0 l0_0.length cl0_0, .int .i64 x2_1000_1, .int .i64 x2_1000_2]⟩], [.sl 2 k70 Ax2_5 cx2_5 x2_5 1 true, .sl 0 (.int .u8) Al0_0 cl0_0 l0_0 0 false]⟩) (fun S hS => ?_) (fun n0 ih0 S hS => ?_) ⟨[], A8_1, c8_1, t3_0, t4_0, t4_1, t4_2, H, rfl⟩ (fun h => wk [0, 5, 6, 7] [0] [⟨1, 2, 1, true⟩, ⟨0, 0, 0, false⟩] h)
 · clear H; obtain ⟨_, _, _, _, _, _, _, H, _⟩ := hS; rw [spec_l2Rows.l0] at H; cases H
 clear H
 obtain ⟨x2_5, Ax2_5, cx2_5, x2_6, x2_7, x2_1000_1, x2_1000_2, H, rfl⟩ := hS
 rw [spec_l2Rows.l0] at H
 refine gs (gs (rg (sv (EV.mv rfl) rfl (sv (EV.gtr rfl rfl) rfl (re ?_)))))
 revert H; refine ifsI ?_ ?_ <;> intro c5 H
 ·
  refine gt rfl (dT c5) (gk (gs (gb (rg (sv (EV.mv rfl) rfl (sv (EV.mv rfl) rfl (sv (EV.mv rfl) rfl ?_)))))))
  revert H; refine bdI ?_; rintro ⟨t6_0, t6_1, t6_2, t6_3, t6_4⟩ A6 H
  refine so rfl (op_callM (spec_l2Row.ok b1000 l0_0 Al0_0 cl0_0 x2_1000_1 x2_1000_2 x2_6 _ _ _ _ _ A6) [⟨1, 0, 0, false⟩] [0] [] 2 rfl rfl rfl rfl rfl rfl rfl rfl ?_)
  rintro _ _ _ ⟨rfl, rfl, rfl⟩
  refine nmE (en := [.sl 2 k70 Ax2_5 cx2_5 x2_5 1 true, .sl 0 (.int .u8) Al0_0 cl0_0 l0_0 0 false]) (by kernel_rfl) (so rfl (op_lit (s := 3) (by_ := 24) k70 ([(⟨t6_0, t6_1, t6_2⟩ : S70)] : List S70) [[]] [] 2 [.tmp 23] rfl rfl rfl rfl rfl rfl rfl rfl rfl rfl rfl rfl rfl dq rfl fun A24_7 c24_7 => ?_))
  revert H; refine ggI ?_; intro g8 H
  exact so rfl (op_app (k := k70) (s := 3) (by_ := 24) 0 2 rfl rfl rfl rfl (ap1 g8 dq) (ap1n g8 dq) (.inl rfl) true (fun _ => .inl rfl) rfl rfl fun A25_9 c25_9 => (nmE (en := [.sl 0 (.int .u8) Al0_0 cl0_0 l0_0 0 false, .sl 2 k70 A24_7 c24_7 ([(⟨t6_0, t6_1, t6_2⟩ : S70)] : List S70) 2 true, .sl 2 k70 A25_9 c25_9 (x2_5 ++ ([(⟨t6_0, t6_1, t6_2⟩ : S70)] : List S70)) 1 true]) (by kernel_rfl) (sv (EV.as rfl) rfl (re (pr [0, 5, 6, 7] [0] [0, 2] rfl rfl rfl rfl (ge (rg (sv (EV.mv rfl) rfl (sv (EV.sub rfl rfl) rfl (sv (EV.as rfl) rfl (re (wk [0, 5, 6, 7] [0] [⟨1, 2, 1, true⟩, ⟨0, 0, 0, false⟩] (ih0 _ (by omega) _ ⟨x2_5 ++ ([(⟨t6_0, t6_1, t6_2⟩ : S70)] : List S70), A25_9, c25_9, x2_6, wrap64 (x2_7 - 1), t6_3, t6_4, H, rfl⟩)))))))))))))
 ·
  refine gf rfl (dF c5) (gx rfl (gs (rg (sv (EV.mv rfl) rfl (sv (EV.as rfl) rfl (re (pr [4] [0] [0, 1] rfl rfl rfl rfl ?_)))))))
  cases H
  exact rt Try.func77 rfl (.tmp rfl .nil) rfl [0] [⟨0, 2, 1, true⟩] rfl rfl rfl rfl rfl ⟨_, _, rfl, rfl, rfl⟩
end Go.Proofs.Ytajjeemkdjfilaa.K
namespace Go.Proofs.Ytajjeemkdjfilaa.K
open Go Go.RowKit
set_option linter.unusedVariables false
set_option linter.unusedSimpArgs false
def spec_l2Bent.f (k : Nat) (l0_0 : List Int) (a0_1 : Int) (a0_2 : Int) (a1 : Int) : Option ((List S70) × Int × Int) := (spec_l2Rows.f k l0_0 a0_1 a0_2 a1).bind fun bt1 => ((spec_l1Once.f l0_0 bt1.2.1 bt1.2.2 14).bind fun bt2 => (if bt2.1 = true then ((spec_l2Any.f l0_0 bt2.2.1 bt2.2.2).bind fun bt4 => (if bt1.1.length < 5864062014805 then (some (bt1.1 ++ ([(⟨bt4.1, bt4.2.1, bt4.2.2.1⟩ : S70)] : List S70), bt4.2.2.2.1, bt4.2.2.2.2)) else none)) else (some (bt1.1, bt2.2.1, bt2.2.2))))
set_option maxHeartbeats 4000000 in
set_option maxRecDepth 100000 in
theorem spec_l2Bent.ok (k : Nat) (b1000 : Nat) (l0_0 : List Int) (Al0_0 : Option Addr) (cl0_0 : Nat) (a0_1 : Int) (a0_2 : Int) (a1 : Int) (r0 : List S70) (r1 : Int) (r2 : Int) (H : spec_l2Bent.f k l0_0 a0_1 a0_2 a1 = some (r0, r1, r2)) : Fn Try.prog 63 [.pointer (some ⟨b1000, 0, none⟩), .int .i64 a1] [⟨b1000, 111, [.slice Al0_0 l0_0.length cl0_0, .int .i64 a0_1, .int .i64 a0_2]⟩] [.sl 0 (.int .u8) Al0_0 cl0_0 l0_0 0 false] (fun v bx en => ∃ A0 c0, v = .slice A0 r0.length c0 ∧ bx = [⟨b1000, 111, [.slice Al0_0 l0_0.length cl0_0, .int .i64 r1, .int .i64 r2]⟩] ∧ en = [.sl 2 k70 A0 c0 r0 1 true]) := by
 refine fn_ 17 Try.func63 rfl rfl rfl (fun base T w0 => ?_)
 rw [spec_l2Bent.f] at H
 refine gs (rg (sv (EV.as rfl) rfl (re (gs (rg (sv (EV.mv rfl) rfl (sv (EV.mv rfl) rfl ?_)))))))
 revert H; refine bdI ?_; rintro ⟨t1_0, t1_1, t1_2⟩ A1 H
 refine so rfl (op_callM (spec_l2Rows.ok k b1000 l0_0 Al0_0 cl0_0 a0_1 a0_2 a1 _ _ _ A1) [⟨0, 0, 0, false⟩] [0] [] 1 rfl rfl rfl rfl rfl rfl rfl rfl ?_)
 rintro _ _ _ ⟨At1_0, ct1_0, rfl, rfl, rfl⟩
 refine nmE (en := [.sl 0 (.int .u8) Al0_0 cl0_0 l0_0 0 false, .sl 2 k70 At1_0 ct1_0 t1_0 2 true]) (by kernel_rfl) (sv (EV.as rfl) rfl (re (gs (gs (rg (sv (EV.mv rfl) rfl ?_))))))
 revert H; refine bdI ?_; rintro ⟨t2_0, t2_1, t2_2⟩ A2 H
 refine so rfl (op_callM (spec_l1Once.ok b1000 l0_0 Al0_0 cl0_0 t1_1 t1_2 14 _ _ _ A2) [⟨0, 0, 0, false⟩] [0] [] 3 rfl rfl rfl rfl rfl rfl rfl rfl ?_)
 rintro _ _ _ ⟨rfl, rfl, rfl⟩
 refine nmE (en := [.sl 0 (.int .u8) Al0_0 cl0_0 l0_0 0 false, .sl 2 k70 At1_0 ct1_0 t1_0 2 true]) (by kernel_rfl) (re (pr [0, 5, 10] [0] [0, 1] rfl rfl rfl rfl ?_))
 revert H; refine ifsI ?_ ?_ <;> intro c3 H
 ·
  subst c3
  refine gt rfl rfl (rg (sv (EV.mv rfl) rfl (sv (EV.mv rfl) rfl ?_)))
  revert H; refine bdI ?_; rintro ⟨t4_0, t4_1, t4_2, t4_3, t4_4⟩ A4 H
  refine so rfl (op_callM (spec_l2Any.ok b1000 l0_0 Al0_0 cl0_0 t2_1 t2_2 _ _ _ _ _ A4) [⟨0, 0, 0, false⟩] [0] [] 3 rfl rfl rfl rfl rfl rfl rfl rfl ?_)
  rintro _ _ _ ⟨rfl, rfl, rfl⟩
  refine nmE (en := [.sl 0 (.int .u8) Al0_0 cl0_0 l0_0 0 false, .sl 2 k70 At1_0 ct1_0 t1_0 2 true]) (by kernel_rfl) (so rfl (op_lit (s := 3) (by_ := 24) k70 ([(⟨t4_0, t4_1, t4_2⟩ : S70)] : List S70) [[]] [] 3 [.tmp 13] rfl rfl rfl rfl rfl rfl rfl rfl rfl rfl rfl rfl rfl dq rfl fun A14_5 c14_5 => ?_))
  revert H; refine ggI ?_; intro g6 H
  refine so rfl (op_app (k := k70) (s := 3) (by_ := 24) 1 2 rfl rfl rfl rfl (ap1 g6 dq) (ap1n g6 dq) (.inl rfl) true (fun _ => .inl rfl) rfl rfl fun A15_7 c15_7 => (nmE (en := [.sl 0 (.int .u8) Al0_0 cl0_0 l0_0 0 false, .sl 2 k70 A14_5 c14_5 ([(⟨t4_0, t4_1, t4_2⟩ : S70)] : List S70) 3 true, .sl 2 k70 A15_7 c15_7 (t1_0 ++ ([(⟨t4_0, t4_1, t4_2⟩ : S70)] : List S70)) 2 true]) (by kernel_rfl) (sv (EV.as rfl) rfl (re (pr [5] [0] [0, 2] rfl rfl rfl rfl (gs (rg (sv (EV.mv rfl) rfl (sv (EV.as rfl) rfl (re ?_))))))))))
  cases H
  exact rt Try.func63 rfl (.tmp rfl .nil) rfl [0] [⟨1, 2, 1, true⟩] rfl rfl rfl rfl rfl ⟨_, _, rfl, rfl, rfl⟩
 ·
  obtain rfl := bF c3
  refine gf rfl rfl (gk (gs (rg (sv (EV.mv rfl) rfl (sv (EV.as rfl) rfl (re ?_))))))
  cases H
  exact rt Try.func63 rfl (.tmp rfl .nil) rfl [0] [⟨1, 2, 1, true⟩] rfl rfl rfl rfl rfl ⟨_, _, rfl, rfl, rfl⟩
end Go.Proofs.Ytajjeemkdjfilaa.K
namespace Go.Proofs.Ytajjeemkdjfilaa.K
open Go Go.RowKit
set_option linter.unusedVariables false
set_option linter.unusedSimpArgs false
def spec_DrawNextChunk.f (k : Nat) (l0 : List Int) : Option ((List S70) × Int) := (spec_l1New.f k l0).bind fun bt1 => ((spec_l2Bent.f k l0 bt1.1 bt1.2 8).bind fun bt2 => ((spec_l1PickInt.f l0 bt2.2.1 bt2.2.2 ([0, 1, 8, 12, (-1)] : List Int)).bind fun bt4 => (some (bt2.1, bt4.1))))
set_option maxHeartbeats 4000000 in
set_option maxRecDepth 100000 in
theorem spec_DrawNextChunk.ok (k : Nat) (l0 : List Int) (Al0 : Option Addr) (cl0 : Nat) (r0 : List S70) (r1 : Int) (H : spec_DrawNextChunk.f k l0 = some (r0, r1)) : Fn Try.prog 33 [.slice Al0 l0.length cl0] [] [.sl 0 (.int .u8) Al0 cl0 l0 0 false] (fun v bx en => ∃ A0 c0, v = .tuple #[.slice A0 r0.length c0, .int .i64 r1] ∧ bx = [] ∧ en = [.sl 2 k70 A0 c0 r0 1 true]) := by
 refine fn_ 12 Try.func33 rfl rfl rfl (fun base T w0 => ?_)
 rw [spec_DrawNextChunk.f] at H
 refine gs (rg (sv (EV.as rfl) rfl (sv (EV.as rfl) rfl (re (gs (rg (sv (EV.mv rfl) rfl ?_)))))))
 revert H; refine bdI ?_; rintro ⟨t1_0, t1_1⟩ A1 H
 refine so rfl (op_callM (spec_l1New.ok k l0 Al0 cl0 _ _ A1) [⟨0, 0, 0, false⟩] [] [] 1 rfl rfl rfl rfl rfl rfl rfl rfl ?_)
 rintro _ _ _ ⟨b2001, rfl, rfl, rfl⟩
 refine nmE (en := [.sl 0 (.int .u8) Al0 cl0 l0 0 false]) (by kernel_rfl) (sv (EV.as rfl) rfl (re (gs (rg (sv (EV.mv rfl) rfl ?_)))))
 revert H; refine bdI ?_; rintro ⟨t2_0, t2_1, t2_2⟩ A2 H
 refine so rfl (op_callM (spec_l2Bent.ok k b2001 l0 Al0 cl0 t1_0 t1_1 8 _ _ _ A2) [⟨0, 0, 0, false⟩] [0] [] 1 rfl rfl rfl rfl rfl rfl rfl rfl ?_)
 rintro _ _ _ ⟨At2_0, ct2_0, rfl, rfl, rfl⟩
 refine nmE (en := [.sl 0 (.int .u8) Al0 cl0 l0 0 false, .sl 2 k70 At2_0 ct2_0 t2_0 2 true]) (by kernel_rfl) (sv (EV.mv rfl) rfl (so rfl (op_lit (s := 1) (by_ := 8) (.int .i64) ([0, 1, 8, 12, (-1)] : List Int) [[], [], [], [], []] [] 3 [.const (.int .i64 0), .const (.int .i64 1), .const (.int .i64 8), .const (.int .i64 12), .const (.int .i64 (-1))] rfl rfl rfl rfl rfl rfl rfl rfl rfl rfl rfl rfl rfl dq rfl fun A10_3 c10_3 => ?_)))
 revert H; refine bdI ?_; rintro ⟨t4_0, t4_1, t4_2⟩ A4 H
 refine so rfl (op_callM (spec_l1PickInt.ok b2001 l0 Al0 cl0 t2_1 t2_2 ([0, 1, 8, 12, (-1)] : List Int) A10_3 c10_3 _ _ _ A4) [⟨0, 0, 0, false⟩, ⟨2, 0, 0, false⟩] [0] [] 4 rfl rfl rfl rfl rfl rfl rfl rfl ?_)
 rintro _ _ _ ⟨rfl, rfl, rfl⟩
 refine nmE (en := [.sl 0 (.int .u8) Al0 cl0 l0 0 false, .sl 2 k70 At2_0 ct2_0 t2_0 2 true, .sl 2 (.int .i64) A10_3 c10_3 ([0, 1, 8, 12, (-1)] : List Int) 3 true]) (by kernel_rfl) (sv (EV.as rfl) rfl (sv (EV.as rfl) rfl (re (pr [2, 3] [] [1] rfl rfl rfl rfl ?_))))
 cases H
 exact rt Try.func33 rfl (.tmp rfl (.tmp rfl .nil)) rfl [] [⟨0, 2, 1, true⟩] rfl rfl rfl rfl rfl ⟨_, _, rfl, rfl, rfl⟩
end Go.Proofs.Ytajjeemkdjfilaa.K
namespace Go.Proofs.Ytajjeemkdjfilaa.K
open Go Go.RowKit
set_option linter.unusedVariables false
set_option linter.unusedSimpArgs false
def impl_within.f (a0 : Int) (a1 : Int) (a2 : Int) : Option (Bool) := if a0 ≥ a1 then (some (decide (a0 ≤ a2))) else (some false)
set_option maxHeartbeats 4000000 in
set_option maxRecDepth 100000 in
theorem impl_within.ok (a0 : Int) (a1 : Int) (a2 : Int) (r0 : Bool) (H : impl_within.f a0 a1 a2 = some r0) : Fn Try.prog 101 [.int .i64 a0, .int .i64 a1, .int .i64 a2] [] [] (fun v bx en => v = .bool r0 ∧ bx = [] ∧ en = []) := by
 refine fn_ 15 Try.func101 rfl rfl rfl (fun base T w0 => ?_)
 rw [impl_within.f] at H
 refine gs (rg (sv (EV.as rfl) rfl (re (gs (rg (sv (EV.mv rfl) rfl (sv (EV.mv rfl) rfl (sv (EV.geq rfl rfl) rfl (sv (EV.mv rfl) rfl ?_)))))))))
 revert H; refine ifsI ?_ ?_ <;> intro c1 H
 ·
  refine ts 10 rfl (dT c1) (sv (EV.mv rfl) rfl (sv (EV.mv rfl) rfl (sv (EV.leq rfl rfl) rfl (sv (EV.pt rfl rfl rfl) rfl (sv (EV.as rfl) rfl (re (pr [6] [] [] rfl rfl rfl rfl ?_)))))))
  cases H
  exact rt Try.func101 rfl (.tmp rfl .nil) rfl [] [] rfl rfl rfl rfl rfl ⟨rfl, rfl, rfl⟩
 ·
  refine ts 10 rfl (dF c1) (sk rfl (sk rfl (sk rfl (sv (EV.pf rfl rfl rfl) rfl (sv (EV.as rfl) rfl (re (pr [6] [] [] rfl rfl rfl rfl ?_)))))))
  cases H
  exact rt Try.func101 rfl (.tmp rfl .nil) rfl [] [] rfl rfl rfl rfl rfl ⟨rfl, rfl, rfl⟩
end Go.Proofs.Ytajjeemkdjfilaa.K
namespace Go.Proofs.Ytajjeemkdjfilaa.K
open Go Go.RowKit
set_option linter.unusedVariables false
set_option linter.unusedSimpArgs false
def impl_IsValidRow.f (a0_0 : Int) (a0_1 : Int) (a0_2 : Int) : Option (Bool) := (impl_within.f a0_0 0 9).bind fun t1 => (if t1 = true then ((impl_within.f a0_1 0 99).bind fun t3 => (if t3 = true then ((impl_within.f a0_2 0 3).bind fun t5 => (some t5)) else (some false))) else (some false))
set_option maxHeartbeats 4000000 in
set_option maxRecDepth 100000 in
theorem impl_IsValidRow.ok (a0_0 : Int) (a0_1 : Int) (a0_2 : Int) (r0 : Bool) (H : impl_IsValidRow.f a0_0 a0_1 a0_2 = some r0) : Fn Try.prog 116 [.agg #[.int .i64 a0_0, .int .i64 a0_1, .int .i64 a0_2]] [] [] (fun v bx en => v = .bool r0 ∧ bx = [] ∧ en = []) := by
 refine fn_ 16 Try.func116 rfl rfl rfl (fun base T w0 => ?_)
 rw [impl_IsValidRow.f] at H
 refine gs (rg (so rfl (op_box (cs := [.int .i64 a0_0, .int .i64 a0_1, .int .i64 a0_2]) rfl rfl rfl fun b1 => (sv (EV.as rfl) rfl (re (gs (rg (sv (EV.fa 0 rfl) rfl (sv (EV.ld 0 none rfl rfl rfl) rfl ?_)))))))))
 revert H; refine bdI ?_; rintro t1 A1 H
 refine so rfl (op_call (impl_within.ok a0_0 0 9 _ A1) [] 1 rfl rfl rfl rfl rfl ?_)
 rintro _ _ _ ⟨rfl, rfl, rfl⟩
 refine sv (EV.mv rfl) rfl ?_
 revert H; refine ifsI ?_ ?_ <;> intro c2 H
 ·
  subst c2
  refine ts 6 rfl rfl (sv (EV.fa 1 rfl) rfl (sv (EV.ld 0 none rfl rfl rfl) rfl ?_))
  revert H; refine bdI ?_; rintro t3 A3 H
  refine so rfl (op_call (impl_within.ok a0_1 0 99 _ A3) [] 1 rfl rfl rfl rfl rfl ?_)
  rintro _ _ _ ⟨rfl, rfl, rfl⟩
  refine sv (EV.pt rfl rfl rfl) rfl (sv (EV.mv rfl) rfl ?_)
  revert H; refine ifsI ?_ ?_ <;> intro c4 H
  ·
   subst c4
   refine ts 11 rfl rfl (sv (EV.fa 2 rfl) rfl (sv (EV.ld 0 none rfl rfl rfl) rfl ?_))
   revert H; refine bdI ?_; rintro t5 A5 H
   refine so rfl (op_call (impl_within.ok a0_2 0 3 _ A5) [] 1 rfl rfl rfl rfl rfl ?_)
   rintro _ _ _ ⟨rfl, rfl, rfl⟩
   refine sv (EV.pt rfl rfl rfl) rfl (sv (EV.as rfl) rfl (re (pr [2] [] [] rfl rfl rfl rfl ?_)))
   cases H
   exact rt Try.func116 rfl (.tmp rfl .nil) rfl [] [] rfl rfl rfl rfl rfl ⟨rfl, rfl, rfl⟩
  ·
   obtain rfl := bF c4
   refine ts 11 rfl rfl (sk rfl (sk rfl (sk rfl (sv (EV.pf rfl rfl rfl) rfl (sv (EV.as rfl) rfl (re (pr [2] [] [] rfl rfl rfl rfl ?_)))))))
   cases H
   exact rt Try.func116 rfl (.tmp rfl .nil) rfl [] [] rfl rfl rfl rfl rfl ⟨rfl, rfl, rfl⟩
 ·
  obtain rfl := bF c2
  refine ts 6 rfl rfl (sk rfl (sk rfl (sk rfl (sv (EV.pf rfl rfl rfl) rfl (sv (EV.mv rfl) rfl (sk rfl (sk rfl (sk rfl (sv (EV.pf rfl rfl rfl) rfl (sv (EV.as rfl) rfl (re (pr [2] [] [] rfl rfl rfl rfl ?_))))))))))))
  cases H
  exact rt Try.func116 rfl (.tmp rfl .nil) rfl [] [] rfl rfl rfl rfl rfl ⟨rfl, rfl, rfl⟩
end Go.Proofs.Ytajjeemkdjfilaa.K
namespace Go.Proofs.Ytajjeemkdjfilaa.K
open Go Go.RowKit
set_option linter.unusedVariables false
set_option linter.unusedSimpArgs false
def impl_RowCost.f (a0_0 : Int) (a0_1 : Int) (a0_2 : Int) : Option (Int) := (impl_IsValidRow.f a0_0 a0_1 a0_2).bind fun t1 => (if t1 = true then (some (wrap64 (1 + a0_2))) else (some 0))
set_option maxHeartbeats 4000000 in
set_option maxRecDepth 100000 in
theorem impl_RowCost.ok (a0_0 : Int) (a0_1 : Int) (a0_2 : Int) (r0 : Int) (H : impl_RowCost.f a0_0 a0_1 a0_2 = some r0) : Fn Try.prog 109 [.agg #[.int .i64 a0_0, .int .i64 a0_1, .int .i64 a0_2]] [] [] (fun v bx en => v = .int .i64 r0 ∧ bx = [] ∧ en = []) := by
 refine fn_ 9 Try.func109 rfl rfl rfl (fun base T w0 => ?_)
 rw [impl_RowCost.f] at H
 refine gs (rg (so rfl (op_box (cs := [.int .i64 a0_0, .int .i64 a0_1, .int .i64 a0_2]) rfl rfl rfl fun b1 => (sv (EV.as rfl) rfl (re (gs (gs (rg (sv (EV.ld (v := .agg #[.int .i64 a0_0, .int .i64 a0_1, .int .i64 a0_2]) 0 (some 3) rfl rfl rfl) rfl ?_)))))))))
 revert H; refine bdI ?_; rintro t1 A1 H
 refine so rfl (op_call (impl_IsValidRow.ok a0_0 a0_1 a0_2 _ A1) [] 1 rfl rfl rfl rfl rfl ?_)
 rintro _ _ _ ⟨rfl, rfl, rfl⟩
 refine sv (EV.nt rfl) rfl (re ?_)
 revert H; refine ifsI ?_ ?_ <;> intro c2 H
 ·
  subst c2
  refine gf rfl rfl (gk (gs (rg (sv (EV.fa 2 rfl) rfl (sv (EV.ld 0 none rfl rfl rfl) rfl (sv (EV.add rfl rfl) rfl (sv (EV.as rfl) rfl (re (pr [2] [] [] rfl rfl rfl rfl ?_)))))))))
  cases H
  exact rt Try.func109 rfl (.tmp rfl .nil) rfl [] [] rfl rfl rfl rfl rfl ⟨rfl, rfl, rfl⟩
 ·
  obtain rfl := bF c2
  refine gt rfl rfl (gs (rg (sv (EV.as rfl) rfl (re ?_))))
  cases H
  exact rt Try.func109 rfl (.tmp rfl .nil) rfl [] [] rfl rfl rfl rfl rfl ⟨rfl, rfl, rfl⟩
end Go.Proofs.Ytajjeemkdjfilaa.K
namespace Go.Proofs.Ytajjeemkdjfilaa.K
open Go Go.RowKit
set_option linter.unusedVariables false
set_option linter.unusedSimpArgs false
def impl_TotalCost.l0 : Nat → Int → Int → Int → (List S70) → Option (Int)
 | 0, _, _, _, _ => none
 | k + 1, x2_3, x2_7, x2_8, l0 => if x2_8 < x2_7 then (if 0 ≤ x2_8 then (if x2_8 < (l0.length : Int) then ((impl_RowCost.f ((rd_T70 l0 x2_8).f0) ((rd_T70 l0 x2_8).f1) ((rd_T70 l0 x2_8).f2)).bind fun t4 => (impl_TotalCost.l0 k (wrap64 (x2_3 + t4)) x2_7 (wrap64 (x2_8 + 1)) l0)) else none) else none) else (some x2_3)
def impl_TotalCost.f (k : Nat) (l0 : List S70) : Option (Int) := impl_TotalCost.l0 k 0 (l0.length : Int) 0 l0
set_option maxHeartbeats 4000000 in
set_option maxRecDepth 100000 in
theorem impl_TotalCost.ok (k : Nat) (l0 : List S70) (Al0 : Option Addr) (cl0 : Nat) (r0 : Int) (H : impl_TotalCost.f k l0 = some r0) : Fn Try.prog 75 [.slice Al0 l0.length cl0] [] [.sl 0 k70 Al0 cl0 l0 0 false] (fun v bx en => v = .int .i64 r0 ∧ bx = [] ∧ en = []) := by
 refine fn_ 18 Try.func75 rfl rfl rfl (fun base T w0 => ?_)
 rw [impl_TotalCost.f] at H
 refine gs (rg (sv (EV.as rfl) rfl (re (gs (rg (sv (EV.as rfl) rfl (re (gs (gs (rg (sv (EV.mv rfl) rfl (sv (EV.ln rfl) rfl (sv (EV.mv rfl) rfl (re (gb ?_)))))))))))))))
 refine lo (fun kk S => ∃ (x2_3 : Int) (x2_7 : Int) (x2_8 : Int), impl_TotalCost.l0 kk x2_3 x2_7 x2_8 l0 = some r0 ∧ S = ⟨[(3, .int .i64 x2_3), (6, .slice Al0 l0.length cl0), (7, .int .i64 x2_7), (8, .int .i64 x2_8)], [], [.sl 0 k70 Al0 cl0 l0 0 false]⟩) (fun S hS => ?_) (fun n0 ih0 S hS => ?_) ⟨0, (l0.length : Int), 0, H, rfl⟩ (fun h => wk [3, 6, 7, 8] [] [⟨0, 0, 0, false⟩] h)
 · clear H; obtain ⟨_, _, _, H, _⟩ := hS; rw [impl_TotalCost.l0] at H; cases H
 clear H
 obtain ⟨x2_3, x2_7, x2_8, H, rfl⟩ := hS
 rw [impl_TotalCost.l0] at H
 refine gs (rg (sv (EV.lss rfl rfl) rfl (re (gs ?_))))
 revert H; refine ifsI ?_ ?_ <;> intro c1 H
 ·
  refine gt rfl (dT c1) (gk (gs (gb (gs (rg ?_)))))
  revert H; refine ggI ?_; intro g2 H
  revert H; refine ggI ?_; intro g3 H
  refine sv (EV.ix 0 rfl rfl rfl g2 g3 rfl) rfl (sv (EV.le (v := .agg #[.int .i64 ((rd_T70 l0 x2_8).f0), .int .i64 ((rd_T70 l0 x2_8).f1), .int .i64 ((rd_T70 l0 x2_8).f2)]) x2_8 0 (some 3) 0 z70 rfl rfl rfl g2 g3 rfl rfl rfl) rfl (so rfl (op_alloc (cs := [.int .i64 0, .int .i64 0, .int .i64 0]) (by kernel_rfl) rfl fun b5 => (so rfl (op_st (cs' := [.int .i64 ((rd_T70 l0 x2_8).f0), .int .i64 ((rd_T70 l0 x2_8).f1), .int .i64 ((rd_T70 l0 x2_8).f2)]) 0 rfl rfl rfl rfl rfl rfl (re (rg (sv (EV.mv rfl) rfl (sv (EV.ld (v := .agg #[.int .i64 ((rd_T70 l0 x2_8).f0), .int .i64 ((rd_T70 l0 x2_8).f1), .int .i64 ((rd_T70 l0 x2_8).f2)]) 0 (some 3) rfl rfl rfl) rfl ?_)))))))))
  revert H; refine bdI ?_; rintro t4 A4 H
  refine so rfl (op_call (impl_RowCost.ok ((rd_T70 l0 x2_8).f0) ((rd_T70 l0 x2_8).f1) ((rd_T70 l0 x2_8).f2) _ A4) [] 1 rfl rfl rfl rfl rfl ?_)
  rintro _ _ _ ⟨rfl, rfl, rfl⟩
  exact sv (EV.add rfl rfl) rfl (sv (EV.as rfl) rfl (re (pr [3, 6, 7, 8] [] [0] rfl rfl rfl rfl (ge (rg (sv (EV.add rfl rfl) rfl (sv (EV.mv rfl) rfl (re (wk [3, 6, 7, 8] [] [⟨0, 0, 0, false⟩] (ih0 _ (by omega) _ ⟨wrap64 (x2_3 + t4), x2_7, wrap64 (x2_8 + 1), H, rfl⟩))))))))))
 ·
  refine gf rfl (dF c1) (gx rfl (gs (rg (sv (EV.mv rfl) rfl (sv (EV.as rfl) rfl (re (pr [2] [] [] rfl rfl rfl rfl ?_)))))))
  cases H
  exact rt Try.func75 rfl (.tmp rfl .nil) rfl [] [] rfl rfl rfl rfl rfl ⟨rfl, rfl, rfl⟩
end Go.Proofs.Ytajjeemkdjfilaa.K
namespace Go.Proofs.Ytajjeemkdjfilaa.K
open Go Go.RowKit
set_option linter.unusedVariables false
set_option linter.unusedSimpArgs false
def impl_clone.f (l0 : List S70) : Option ((List S70)) := if l0.length ≤ 5864062014805 then (some l0) else none
set_option maxHeartbeats 4000000 in
set_option maxRecDepth 100000 in
theorem impl_clone.ok (l0 : List S70) (Al0 : Option Addr) (cl0 : Nat) (r0 : List S70) (H : impl_clone.f l0 = some r0) : Fn Try.prog 85 [.slice Al0 l0.length cl0] [] [.sl 0 k70 Al0 cl0 l0 0 false] (fun v bx en => ∃ A0 c0, v = .slice A0 r0.length c0 ∧ bx = [] ∧ en = [.sl 2 k70 A0 c0 r0 1 true]) := by
 refine fn_ 5 Try.func85 rfl rfl rfl (fun base T w0 => ?_)
 rw [impl_clone.f] at H
 refine gs (rg (sv (EV.as rfl) rfl (re (gs (rg (sv (EV.mv rfl) rfl (nil_ k70 1 dq ?_)))))))
 revert H; refine ggI ?_; intro g1 H
 refine so rfl (op_app (k := k70) (s := 3) (by_ := 24) 1 0 rfl rfl rfl rfl (ap0 g1 dq) (ap0n g1 dq) (.inl rfl) true (fun _ => .inl rfl) rfl rfl fun A4_2 c4_2 => (nmE (en := [.sl 0 k70 Al0 cl0 l0 0 false, .sl 2 k70 A4_2 c4_2 l0 1 true]) (by kernel_rfl) (sv (EV.as rfl) rfl (re ?_))))
 cases H
 exact rt Try.func85 rfl (.tmp rfl .nil) rfl [] [⟨1, 2, 1, true⟩] rfl rfl rfl rfl rfl ⟨_, _, rfl, rfl, rfl⟩
end Go.Proofs.Ytajjeemkdjfilaa.K
namespace Go.Proofs.Ytajjeemkdjfilaa.K
open Go Go.RowKit
set_option linter.unusedVariables false
set_option linter.unusedSimpArgs false
mutual
def impl_NextChunk.j0 : Nat → Int → (List S70) → Option ((List S70) × (List S70))
 | 0, _, _ => none
 | k + 1, x2_6, l0 => if 0 ≤ x2_6 then (if x2_6 ≤ (l0.length : Int) then ((impl_clone.f (l0.take x2_6.toNat)).bind fun t4 => ((impl_clone.f (l0.drop x2_6.toNat)).bind fun t5 => (some (t4, t5)))) else none) else none
def impl_NextChunk.l0 : Nat → Int → Int → (List S70) → Option ((List S70) × (List S70))
 | 0, _, _, _ => none
 | k + 1, x3_1, x3_6, l0 => if x3_6 < (l0.length : Int) then (if 0 ≤ (wrap64 (x3_6 + 1)) then (if (wrap64 (x3_6 + 1)) ≤ (l0.length : Int) then ((impl_TotalCost.f k (l0.take (wrap64 (x3_6 + 1)).toNat)).bind fun t9 => (if t9 ≤ x3_1 then (impl_NextChunk.l0 k x3_1 (wrap64 (x3_6 + 1)) l0) else (impl_NextChunk.j0 k x3_6 l0))) else none) else none) else (impl_NextChunk.j0 k x3_6 l0)
end
def impl_NextChunk.f (k : Nat) (l0 : List S70) (a1 : Int) : Option ((List S70) × (List S70)) := impl_NextChunk.l0 k a1 (mn 1 (l0.length : Int)) l0
set_option maxHeartbeats 4000000 in
set_option maxRecDepth 100000 in
theorem impl_NextChunk.ok (k : Nat) (l0 : List S70) (Al0 : Option Addr) (cl0 : Nat) (a1 : Int) (r0 : List S70) (r1 : List S70) (H : impl_NextChunk.f k l0 a1 = some (r0, r1)) : Fn Try.prog 34 [.slice Al0 l0.length cl0, .int .i64 a1] [] [.sl 0 k70 Al0 cl0 l0 0 false] (fun v bx en => ∃ A0 c0 A1 c1, v = .tuple #[.slice A0 r0.length c0, .slice A1 r1.length c1] ∧ bx = [] ∧ en = [.sl 2 k70 A0 c0 r0 1 true, .sl 2 k70 A1 c1 r1 2 true]) := by
 refine fn_ 33 Try.func34 rfl rfl rfl (fun base T w0 => ?_)
 rw [impl_NextChunk.f] at H
 refine gs (rg (sv (EV.as rfl) rfl (sv (EV.as rfl) rfl (re (gs (rg (sv (EV.mv rfl) rfl (sv (EV.ln rfl) rfl (sv (EV.mn rfl rfl) rfl (sv (EV.as rfl) rfl (re ?_)))))))))))
 refine jo (fun S => ∃ (m : Nat) (x2_6 : Int), impl_NextChunk.j0 m x2_6 l0 = some (r0, r1) ∧ S = ⟨[(0, .slice Al0 l0.length cl0), (6, .int .i64 x2_6)], [], [.sl 0 k70 Al0 cl0 l0 0 false]⟩) (fun S hS => ?_) (fun jh0 => ?_)
 ·
  clear H
  obtain ⟨m1, x2_6, H, rfl⟩ := hS
  rcases m1 with _ | m1
  · rw [impl_NextChunk.j0] at H; cases H
  rw [impl_NextChunk.j0] at H
  refine gs ?_
  revert H; refine ggI ?_; intro g2 H
  revert H; refine ggI ?_; intro g3 H
  refine dr [] [0] [] 10 rfl rfl rfl rfl (xv 0 [] [0] rfl (EV.mv rfl) rfl rfl rfl rfl (xv 1 [] [0] rfl (EV.mv rfl) rfl rfl rfl rfl (cutp (l' := l0.take x2_6.toNat) 0 x2_6 0 rfl (Int.le_refl 0) g2 g3 rfl 0 dq (.inr rfl) rfl (xv 2 [] [0] rfl (EV.ct 0 x2_6 0 rfl rfl rfl rfl (Int.le_refl 0) g2 g3 rfl rfl ctnh) rfl rfl rfl rfl (xv 4 [] [0] rfl (EV.mv rfl) rfl rfl rfl rfl (xv 5 [] [0] rfl (EV.mv rfl) rfl rfl rfl rfl (cutp (l' := l0.drop x2_6.toNat) x2_6 (l0.length : Int) 0 rfl g2 g3 (Int.le_refl _) rfl 0 dq (.inl dq) ctl (xv 6 [] [0] rfl (EV.ct x2_6 (l0.length : Int) 0 rfl rfl rfl rfl g2 g3 (Int.le_refl _) rfl rfl ctnl) rfl rfl rfl rfl (one1 3 rfl rfl ?_)))))))))
  revert H; refine bdI ?_; rintro t4 A4 H
  refine op_call (impl_clone.ok (l0.take x2_6.toNat) (cutA Al0 cl0 (0 : Int).toNat 3) (cl0 - (0 : Int).toNat) _ A4) [⟨1, 0, 0, false⟩] 1 rfl rfl rfl rfl rfl ?_
  rintro _ _ _ ⟨At4, ct4, rfl, rfl, rfl⟩
  refine xs [] [0] rfl rfl rfl (one1 7 rfl rfl ?_)
  revert H; refine bdI ?_; rintro t5 A5 H
  refine op_call (impl_clone.ok (l0.drop x2_6.toNat) (cutA Al0 cl0 x2_6.toNat 3) (cl0 - x2_6.toNat) _ A5) [⟨2, 0, 0, false⟩] 3 rfl rfl rfl rfl rfl ?_
  rintro _ _ _ ⟨At5, ct5, rfl, rfl, rfl⟩
  refine xs [] [0] rfl rfl rfl (xv 8 [] [0] rfl (EV.as rfl) rfl rfl rfl rfl (xv 9 [] [0] rfl (EV.as rfl) rfl rfl rfl rfl (xd (pr [4, 5] [] [3, 4] rfl rfl rfl rfl ?_))))
  cases H
  exact rt Try.func34 rfl (.tmp rfl (.tmp rfl .nil)) rfl [] [⟨0, 2, 1, true⟩, ⟨1, 2, 2, true⟩] rfl rfl rfl rfl rfl ⟨_, _, _, _, rfl, rfl, rfl⟩
 ·
  refine gb ?_
  refine lo (fun kk S => ∃ (x3_1 : Int) (x3_6 : Int), impl_NextChunk.l0 kk x3_1 x3_6 l0 = some (r0, r1) ∧ S = ⟨[(0, .slice Al0 l0.length cl0), (1, .int .i64 x3_1), (6, .int .i64 x3_6)], [], [.sl 0 k70 Al0 cl0 l0 0 false]⟩) (fun S hS => ?_) (fun n0 ih0 S hS => ?_) ⟨a1, mn 1 (l0.length : Int), H, rfl⟩ (fun h => wk [0, 1, 6] [] [⟨0, 0, 0, false⟩] h)
  · clear H; obtain ⟨_, _, H, _⟩ := hS; rw [impl_NextChunk.l0] at H; cases H
  clear H
  obtain ⟨x3_1, x3_6, H, rfl⟩ := hS
  rw [impl_NextChunk.l0] at H
  refine gs (gs (rg (sv (EV.mv rfl) rfl (sv (EV.mv rfl) rfl (sv (EV.ln rfl) rfl (sv (EV.lss rfl rfl) rfl (sv (EV.mv rfl) rfl ?_)))))))
  revert H; refine ifsI ?_ ?_ <;> intro c6 H
  ·
   refine ts 14 rfl (dT c6) (sv (EV.mv rfl) rfl (sv (EV.mv rfl) rfl (sv (EV.add rfl rfl) rfl ?_)))
   revert H; refine ggI ?_; intro g7 H
   revert H; refine ggI ?_; intro g8 H
   refine cutp (l' := l0.take (wrap64 (x3_6 + 1)).toNat) 0 (wrap64 (x3_6 + 1)) 0 rfl (Int.le_refl 0) g7 g8 rfl 0 dq (.inr rfl) rfl (sv (EV.ct 0 (wrap64 (x3_6 + 1)) 0 rfl rfl rfl rfl (Int.le_refl 0) g7 g8 rfl rfl ctnh) rfl ?_)
   revert H; refine bdI ?_; rintro t9 A9 H
   refine so rfl (op_call (impl_TotalCost.ok n0 (l0.take (wrap64 (x3_6 + 1)).toNat) (cutA Al0 cl0 (0 : Int).toNat 3) (cl0 - (0 : Int).toNat) _ A9) [⟨1, 0, 0, false⟩] 1 rfl rfl rfl rfl rfl ?_)
   rintro _ _ _ ⟨rfl, rfl, rfl⟩
   refine sv (EV.mv rfl) rfl (sv (EV.leq rfl rfl) rfl (sv (EV.pt rfl rfl rfl) rfl (re ?_)))
   revert H; refine ifsI ?_ ?_ <;> intro c10 H
   ·
    exact gt rfl (dT c10) (gk (gb (rg (sv (EV.mv rfl) rfl (sv (EV.add rfl rfl) rfl (sv (EV.as rfl) rfl (re (pr [0, 1, 6, 15, 16, 17, 18, 19, 20, 21] [] [0, 1] rfl rfl rfl rfl (ge (wk [0, 1, 6] [] [⟨0, 0, 0, false⟩] (ih0 _ (by omega) _ ⟨x3_1, wrap64 (x3_6 + 1), H, rfl⟩)))))))))))
   ·
    exact gf rfl (dF c10) (gx rfl (wk [0, 6] [] [⟨0, 0, 0, false⟩] (jh0 _ ⟨_, x3_6, H, rfl⟩)))
  ·
   exact ts 14 rfl (dF c6) (sk rfl (sk rfl (sk rfl (sk rfl (sk rfl (sk rfl (sk rfl (sv (EV.pf rfl rfl rfl) rfl (re (pr [0, 1, 6, 22] [] [0] rfl rfl rfl rfl (gf rfl rfl (gx rfl (wk [0, 6] [] [⟨0, 0, 0, false⟩] (jh0 _ ⟨_, x3_6, H, rfl⟩))))))))))))))
end Go.Proofs.Ytajjeemkdjfilaa.K
namespace Go.Proofs.Ytajjeemkdjfilaa.K
open Go Go.RowKit
set_option linter.unusedVariables false
set_option linter.unusedSimpArgs false
def spec_IsValidRow.f (a0_0 : Int) (a0_1 : Int) (a0_2 : Int) : Option (Bool) := (spec_l1In.f a0_0 0 9).bind fun t1 => (if t1 = true then ((spec_l1In.f a0_1 0 99).bind fun t3 => (if t3 = true then ((spec_l1In.f a0_2 0 3).bind fun t5 => (some t5)) else (some false))) else (some false))
set_option maxHeartbeats 4000000 in
set_option maxRecDepth 100000 in
theorem spec_IsValidRow.ok (a0_0 : Int) (a0_1 : Int) (a0_2 : Int) (r0 : Bool) (H : spec_IsValidRow.f a0_0 a0_1 a0_2 = some r0) : Fn Try.prog 73 [.agg #[.int .i64 a0_0, .int .i64 a0_1, .int .i64 a0_2]] [] [] (fun v bx en => v = .bool r0 ∧ bx = [] ∧ en = []) := by
 refine fn_ 16 Try.func73 rfl rfl rfl (fun base T w0 => ?_)
 rw [spec_IsValidRow.f] at H
 refine gs (rg (so rfl (op_box (cs := [.int .i64 a0_0, .int .i64 a0_1, .int .i64 a0_2]) rfl rfl rfl fun b1 => (sv (EV.as rfl) rfl (re (gs (rg (sv (EV.fa 0 rfl) rfl (sv (EV.ld 0 none rfl rfl rfl) rfl ?_)))))))))
 revert H; refine bdI ?_; rintro t1 A1 H
 refine so rfl (op_call (spec_l1In.ok a0_0 0 9 _ A1) [] 1 rfl rfl rfl rfl rfl ?_)
 rintro _ _ _ ⟨rfl, rfl, rfl⟩
 refine sv (EV.mv rfl) rfl ?_
 revert H; refine ifsI ?_ ?_ <;> intro c2 H
 ·
  subst c2
  refine ts 6 rfl rfl (sv (EV.fa 1 rfl) rfl (sv (EV.ld 0 none rfl rfl rfl) rfl ?_))
  revert H; refine bdI ?_; rintro t3 A3 H
  refine so rfl (op_call (spec_l1In.ok a0_1 0 99 _ A3) [] 1 rfl rfl rfl rfl rfl ?_)
  rintro _ _ _ ⟨rfl, rfl, rfl⟩
  refine sv (EV.pt rfl rfl rfl) rfl (sv (EV.mv rfl) rfl ?_)
  revert H; refine ifsI ?_ ?_ <;> intro c4 H
  ·
   subst c4
   refine ts 11 rfl rfl (sv (EV.fa 2 rfl) rfl (sv (EV.ld 0 none rfl rfl rfl) rfl ?_))
   revert H; refine bdI ?_; rintro t5 A5 H
   refine so rfl (op_call (spec_l1In.ok a0_2 0 3 _ A5) [] 1 rfl rfl rfl rfl rfl ?_)
   rintro _ _ _ ⟨rfl, rfl, rfl⟩
   refine sv (EV.pt rfl rfl rfl) rfl (sv (EV.as rfl) rfl (re (pr [2] [] [] rfl rfl rfl rfl ?_)))
   cases H
   exact rt Try.func73 rfl (.tmp rfl .nil) rfl [] [] rfl rfl rfl rfl rfl ⟨rfl, rfl, rfl⟩
  ·
   obtain rfl := bF c4
   refine ts 11 rfl rfl (sk rfl (sk rfl (sk rfl (sv (EV.pf rfl rfl rfl) rfl (sv (EV.as rfl) rfl (re (pr [2] [] [] rfl rfl rfl rfl ?_)))))))
   cases H
   exact rt Try.func73 rfl (.tmp rfl .nil) rfl [] [] rfl rfl rfl rfl rfl ⟨rfl, rfl, rfl⟩
 ·
  obtain rfl := bF c2
  refine ts 6 rfl rfl (sk rfl (sk rfl (sk rfl (sv (EV.pf rfl rfl rfl) rfl (sv (EV.mv rfl) rfl (sk rfl (sk rfl (sk rfl (sv (EV.pf rfl rfl rfl) rfl (sv (EV.as rfl) rfl (re (pr [2] [] [] rfl rfl rfl rfl ?_))))))))))))
  cases H
  exact rt Try.func73 rfl (.tmp rfl .nil) rfl [] [] rfl rfl rfl rfl rfl ⟨rfl, rfl, rfl⟩
end Go.Proofs.Ytajjeemkdjfilaa.K
namespace Go.Proofs.Ytajjeemkdjfilaa.K
open Go Go.RowKit
set_option linter.unusedVariables false
set_option linter.unusedSimpArgs false
def spec_RowCost.f (a0_0 : Int) (a0_1 : Int) (a0_2 : Int) : Option (Int) := (spec_IsValidRow.f a0_0 a0_1 a0_2).bind fun t1 => (if t1 = true then (some (wrap64 (1 + a0_2))) else (some 0))
set_option maxHeartbeats 4000000 in
set_option maxRecDepth 100000 in
theorem spec_RowCost.ok (a0_0 : Int) (a0_1 : Int) (a0_2 : Int) (r0 : Int) (H : spec_RowCost.f a0_0 a0_1 a0_2 = some r0) : Fn Try.prog 86 [.agg #[.int .i64 a0_0, .int .i64 a0_1, .int .i64 a0_2]] [] [] (fun v bx en => v = .int .i64 r0 ∧ bx = [] ∧ en = []) := by
 refine fn_ 9 Try.func86 rfl rfl rfl (fun base T w0 => ?_)
 rw [spec_RowCost.f] at H
 refine gs (rg (so rfl (op_box (cs := [.int .i64 a0_0, .int .i64 a0_1, .int .i64 a0_2]) rfl rfl rfl fun b1 => (sv (EV.as rfl) rfl (re (gs (gs (rg (sv (EV.ld (v := .agg #[.int .i64 a0_0, .int .i64 a0_1, .int .i64 a0_2]) 0 (some 3) rfl rfl rfl) rfl ?_)))))))))
 revert H; refine bdI ?_; rintro t1 A1 H
 refine so rfl (op_call (spec_IsValidRow.ok a0_0 a0_1 a0_2 _ A1) [] 1 rfl rfl rfl rfl rfl ?_)
 rintro _ _ _ ⟨rfl, rfl, rfl⟩
 refine sv (EV.nt rfl) rfl (re ?_)
 revert H; refine ifsI ?_ ?_ <;> intro c2 H
 ·
  subst c2
  refine gf rfl rfl (gk (gs (rg (sv (EV.fa 2 rfl) rfl (sv (EV.ld 0 none rfl rfl rfl) rfl (sv (EV.add rfl rfl) rfl (sv (EV.as rfl) rfl (re (pr [2] [] [] rfl rfl rfl rfl ?_)))))))))
  cases H
  exact rt Try.func86 rfl (.tmp rfl .nil) rfl [] [] rfl rfl rfl rfl rfl ⟨rfl, rfl, rfl⟩
 ·
  obtain rfl := bF c2
  refine gt rfl rfl (gs (rg (sv (EV.as rfl) rfl (re ?_))))
  cases H
  exact rt Try.func86 rfl (.tmp rfl .nil) rfl [] [] rfl rfl rfl rfl rfl ⟨rfl, rfl, rfl⟩
end Go.Proofs.Ytajjeemkdjfilaa.K
namespace Go.Proofs.Ytajjeemkdjfilaa.K
open Go Go.RowKit
set_option linter.unusedVariables false
set_option linter.unusedSimpArgs false
mutual
def spec_NextChunk.j0 : Nat → Int → (List S70) → Option ((List S70) × (List S70))
 | 0, _, _ => none
 | k + 1, x4_7, l0 => if 0 ≤ x4_7 then (if x4_7 ≤ (l0.length : Int) then (if (l0.take x4_7.toNat).length ≤ 5864062014805 then (if (l0.drop x4_7.toNat).length ≤ 5864062014805 then (some (l0.take x4_7.toNat, l0.drop x4_7.toNat)) else none) else none) else none) else none
def spec_NextChunk.j1 : Nat → Int → Int → Int → Int → Bool → Bool → Bool → (List S70) → Option ((List S70) × (List S70))
 | 0, _, _, _, _, _, _, _, _ => none
 | k + 1, x7_1, x7_6, x7_7, x7_13, x7_14, x7_15, x7_25, l0 => if 0 ≤ x7_7 then (if x7_7 < (l0.length : Int) then ((spec_RowCost.f ((rd_T70 l0 x7_7).f0) ((rd_T70 l0 x7_7).f1) ((rd_T70 l0 x7_7).f2)).bind fun t24 => (spec_NextChunk.l0 k x7_1 (wrap64 (x7_6 + t24)) (wrap64 (x7_7 + 1)) l0)) else none) else none
def spec_NextChunk.l0 : Nat → Int → Int → Int → (List S70) → Option ((List S70) × (List S70))
 | 0, _, _, _, _ => none
 | k + 1, x5_1, x5_6, x5_7, l0 => if x5_7 < (l0.length : Int) then (if x5_7 = 0 then (spec_NextChunk.j1 k x5_1 x5_6 x5_7 x5_7 (decide (x5_7 = 0)) true true l0) else (if 0 ≤ x5_7 then ((spec_RowCost.f ((rd_T70 l0 x5_7).f0) ((rd_T70 l0 x5_7).f1) ((rd_T70 l0 x5_7).f2)).bind fun t28 => (if (wrap64 (x5_6 + t28)) ≤ x5_1 then (spec_NextChunk.j1 k x5_1 x5_6 x5_7 x5_7 (decide (x5_7 = 0)) false (decide ((wrap64 (x5_6 + t28)) ≤ x5_1)) l0) else (spec_NextChunk.j0 k x5_7 l0))) else none)) else (spec_NextChunk.j0 k x5_7 l0)
end
def spec_NextChunk.f (k : Nat) (l0 : List S70) (a1 : Int) : Option ((List S70) × (List S70)) := spec_NextChunk.l0 k a1 0 0 l0
set_option maxHeartbeats 4000000 in
set_option maxRecDepth 100000 in
theorem spec_NextChunk.ok (k : Nat) (l0 : List S70) (Al0 : Option Addr) (cl0 : Nat) (a1 : Int) (r0 : List S70) (r1 : List S70) (H : spec_NextChunk.f k l0 a1 = some (r0, r1)) : Fn Try.prog 35 [.slice Al0 l0.length cl0, .int .i64 a1] [] [.sl 0 k70 Al0 cl0 l0 0 false] (fun v bx en => ∃ A0 c0 A1 c1, v = .tuple #[.slice A0 r0.length c0, .slice A1 r1.length c1] ∧ bx = [] ∧ en = [.sl 2 k70 A0 c0 r0 1 true, .sl 2 k70 A1 c1 r1 2 true]) := by
 refine fn_ 46 Try.func35 rfl rfl rfl (fun base T w0 => ?_)
 rw [spec_NextChunk.f] at H
 refine gs (rg (sv (EV.as rfl) rfl (sv (EV.as rfl) rfl (re (gs (rg (sv (EV.as rfl) rfl (re (gs (rg (sv (EV.as rfl) rfl (re ?_))))))))))))
 refine jo (fun S => ∃ (m : Nat) (x4_7 : Int), spec_NextChunk.j0 m x4_7 l0 = some (r0, r1) ∧ S = ⟨[(0, .slice Al0 l0.length cl0), (7, .int .i64 x4_7)], [], [.sl 0 k70 Al0 cl0 l0 0 false]⟩) (fun S hS => ?_) (fun jh0 => ?_)
 ·
  clear H
  obtain ⟨m1, x4_7, H, rfl⟩ := hS
  rcases m1 with _ | m1
  · rw [spec_NextChunk.j0] at H; cases H
  rw [spec_NextChunk.j0] at H
  refine gs ?_
  revert H; refine ggI ?_; intro g2 H
  revert H; refine ggI ?_; intro g3 H
  refine dr [] [0] [11] 12 rfl rfl rfl rfl (xv 1 [] [0] rfl (EV.mv rfl) rfl rfl rfl rfl (xv 2 [] [0] rfl (EV.mv rfl) rfl rfl rfl rfl (cutp (l' := l0.take x4_7.toNat) 0 x4_7 0 rfl (Int.le_refl 0) g2 g3 rfl 0 dq (.inr rfl) rfl (xv 3 [] [0] rfl (EV.ct 0 x4_7 0 rfl rfl rfl rfl (Int.le_refl 0) g2 g3 rfl rfl ctnh) rfl rfl rfl rfl (xv 6 [] [0] rfl (EV.mv rfl) rfl rfl rfl rfl (xv 7 [] [0] rfl (EV.mv rfl) rfl rfl rfl rfl (cutp (l' := l0.drop x4_7.toNat) x4_7 (l0.length : Int) 0 rfl g2 g3 (Int.le_refl _) rfl 0 dq (.inl dq) ctl (xv 8 [] [0] rfl (EV.ct x4_7 (l0.length : Int) 0 rfl rfl rfl rfl g2 g3 (Int.le_refl _) rfl rfl ctnl) rfl rfl rfl rfl ?_))))))))
  refine one2 0 5 rfl rfl rfl rfl ?_ ?_
  ·
   refine op_lit (s := 3) (by_ := 24) k70 ([] : List S70) [] [] 1 [] rfl rfl rfl rfl rfl rfl rfl rfl rfl rfl rfl rfl rfl dq rfl fun A36_4 c36_4 => (xs [] [0] rfl rfl rfl ?_)
   refine one2 4 5 rfl rfl rfl rfl ?_ ?_
   ·
    revert H; refine ggI ?_; intro g5 H
    refine op_app (k := k70) (s := 3) (by_ := 24) 3 1 rfl rfl rfl rfl (ap0 g5 dq) (ap0n g5 dq) (.inl rfl) true (fun _ => .inl rfl) rfl rfl fun A40_6 c40_6 => (nmE (en := [.sl 0 k70 Al0 cl0 l0 0 false, .sl 0 k70 (cutA Al0 cl0 (0 : Int).toNat 3) (cl0 - (0 : Int).toNat) (l0.take x4_7.toNat) 0 false, .sl 0 k70 (cutA Al0 cl0 x4_7.toNat 3) (cl0 - x4_7.toNat) (l0.drop x4_7.toNat) 0 false, .sl 2 k70 A40_6 c40_6 (l0.take x4_7.toNat) 1 true]) (by kernel_rfl) (xs [] [0] rfl rfl rfl (one1 5 rfl rfl (op_lit (s := 3) (by_ := 24) k70 ([] : List S70) [] [] 2 [] rfl rfl rfl rfl rfl rfl rfl rfl rfl rfl rfl rfl rfl dq rfl fun A41_7 c41_7 => (xs [] [0] rfl rfl rfl (one1 9 rfl rfl ?_))))))
    revert H; refine ggI ?_; intro g8 H
    refine op_app (k := k70) (s := 3) (by_ := 24) 4 2 rfl rfl rfl rfl (ap0 g8 dq) (ap0n g8 dq) (.inl rfl) true (fun _ => .inl rfl) rfl rfl fun A45_9 c45_9 => (nmE (en := [.sl 0 k70 Al0 cl0 l0 0 false, .sl 0 k70 (cutA Al0 cl0 (0 : Int).toNat 3) (cl0 - (0 : Int).toNat) (l0.take x4_7.toNat) 0 false, .sl 0 k70 (cutA Al0 cl0 x4_7.toNat 3) (cl0 - x4_7.toNat) (l0.drop x4_7.toNat) 0 false, .sl 2 k70 A40_6 c40_6 (l0.take x4_7.toNat) 1 true, .sl 2 k70 A45_9 c45_9 (l0.drop x4_7.toNat) 2 true]) (by kernel_rfl) (xs [] [0] rfl rfl rfl (one1 10 rfl rfl (ov (EV.as rfl) rfl (xs [] [0] rfl rfl rfl (one1 11 rfl rfl (ov (EV.as rfl) rfl (xn rfl (xd (pr [4, 5] [] [3, 4] rfl rfl rfl rfl ?_))))))))))
    cases H
    exact rt Try.func35 rfl (.tmp rfl (.tmp rfl .nil)) rfl [] [⟨0, 2, 1, true⟩, ⟨1, 2, 2, true⟩] rfl rfl rfl rfl rfl ⟨_, _, _, _, rfl, rfl, rfl⟩
   ·
    refine op_lit (s := 3) (by_ := 24) k70 ([] : List S70) [] [] 2 [] rfl rfl rfl rfl rfl rfl rfl rfl rfl rfl rfl rfl rfl dq rfl fun A41_10 c41_10 => (xs [] [0] rfl rfl rfl (one1 4 rfl rfl ?_))
    revert H; refine ggI ?_; intro g11 H
    refine op_app (k := k70) (s := 3) (by_ := 24) 3 1 rfl rfl rfl rfl (ap0 g11 dq) (ap0n g11 dq) (.inl rfl) true (fun _ => .inl rfl) rfl rfl fun A40_12 c40_12 => (nmE (en := [.sl 0 k70 Al0 cl0 l0 0 false, .sl 0 k70 (cutA Al0 cl0 (0 : Int).toNat 3) (cl0 - (0 : Int).toNat) (l0.take x4_7.toNat) 0 false, .sl 0 k70 (cutA Al0 cl0 x4_7.toNat 3) (cl0 - x4_7.toNat) (l0.drop x4_7.toNat) 0 false, .sl 2 k70 A41_10 c41_10 [] 2 true, .sl 2 k70 A40_12 c40_12 (l0.take x4_7.toNat) 1 true]) (by kernel_rfl) (xs [] [0] rfl rfl rfl (one1 9 rfl rfl ?_)))
    revert H; refine ggI ?_; intro g13 H
    refine op_app (k := k70) (s := 3) (by_ := 24) 3 2 rfl rfl rfl rfl (ap0 g13 dq) (ap0n g13 dq) (.inl rfl) true (fun _ => .inl rfl) rfl rfl fun A45_14 c45_14 => (nmE (en := [.sl 0 k70 Al0 cl0 l0 0 false, .sl 0 k70 (cutA Al0 cl0 (0 : Int).toNat 3) (cl0 - (0 : Int).toNat) (l0.take x4_7.toNat) 0 false, .sl 0 k70 (cutA Al0 cl0 x4_7.toNat 3) (cl0 - x4_7.toNat) (l0.drop x4_7.toNat) 0 false, .sl 2 k70 A40_12 c40_12 (l0.take x4_7.toNat) 1 true, .sl 2 k70 A45_14 c45_14 (l0.drop x4_7.toNat) 2 true]) (by kernel_rfl) (xs [] [0] rfl rfl rfl (one1 10 rfl rfl (ov (EV.as rfl) rfl (xs [] [0] rfl rfl rfl (one1 11 rfl rfl (ov (EV.as rfl) rfl (xn rfl (xd (pr [4, 5] [] [3, 4] rfl rfl rfl rfl ?_))))))))))
    cases H
    exact rt Try.func35 rfl (.tmp rfl (.tmp rfl .nil)) rfl [] [⟨0, 2, 1, true⟩, ⟨1, 2, 2, true⟩] rfl rfl rfl rfl rfl ⟨_, _, _, _, rfl, rfl, rfl⟩
  ·
   refine op_lit (s := 3) (by_ := 24) k70 ([] : List S70) [] [] 1 [] rfl rfl rfl rfl rfl rfl rfl rfl rfl rfl rfl rfl rfl dq rfl fun A41_15 c41_15 => (xs [] [0] rfl rfl rfl (one1 0 rfl rfl (op_lit (s := 3) (by_ := 24) k70 ([] : List S70) [] [] 2 [] rfl rfl rfl rfl rfl rfl rfl rfl rfl rfl rfl rfl rfl dq rfl fun A36_16 c36_16 => (xs [] [0] rfl rfl rfl (one1 4 rfl rfl ?_)))))
   revert H; refine ggI ?_; intro g17 H
   refine op_app (k := k70) (s := 3) (by_ := 24) 4 1 rfl rfl rfl rfl (ap0 g17 dq) (ap0n g17 dq) (.inl rfl) true (fun _ => .inl rfl) rfl rfl fun A40_18 c40_18 => (nmE (en := [.sl 0 k70 Al0 cl0 l0 0 false, .sl 0 k70 (cutA Al0 cl0 (0 : Int).toNat 3) (cl0 - (0 : Int).toNat) (l0.take x4_7.toNat) 0 false, .sl 0 k70 (cutA Al0 cl0 x4_7.toNat 3) (cl0 - x4_7.toNat) (l0.drop x4_7.toNat) 0 false, .sl 2 k70 A41_15 c41_15 [] 1 true, .sl 2 k70 A40_18 c40_18 (l0.take x4_7.toNat) 2 true]) (by kernel_rfl) (xs [] [0] rfl rfl rfl (one1 9 rfl rfl ?_)))
   revert H; refine ggI ?_; intro g19 H
   refine op_app (k := k70) (s := 3) (by_ := 24) 3 2 rfl rfl rfl rfl (ap0 g19 dq) (ap0n g19 dq) (.inl rfl) true (fun _ => .inl rfl) rfl rfl fun A45_20 c45_20 => (nmE (en := [.sl 0 k70 Al0 cl0 l0 0 false, .sl 0 k70 (cutA Al0 cl0 (0 : Int).toNat 3) (cl0 - (0 : Int).toNat) (l0.take x4_7.toNat) 0 false, .sl 0 k70 (cutA Al0 cl0 x4_7.toNat 3) (cl0 - x4_7.toNat) (l0.drop x4_7.toNat) 0 false, .sl 2 k70 A40_18 c40_18 (l0.take x4_7.toNat) 2 true, .sl 2 k70 A45_20 c45_20 (l0.drop x4_7.toNat) 1 true]) (by kernel_rfl) (xs [] [0] rfl rfl rfl (one1 10 rfl rfl (ov (EV.as rfl) rfl (xs [] [0] rfl rfl rfl (one1 11 rfl rfl (ov (EV.as rfl) rfl (xn rfl (xd (pr [4, 5] [] [3, 4] rfl rfl rfl rfl ?_))))))))))
   cases H
   exact rt Try.func35 rfl (.tmp rfl (.tmp rfl .nil)) rfl [] [⟨0, 2, 1, true⟩, ⟨1, 2, 2, true⟩] rfl rfl rfl rfl rfl ⟨_, _, _, _, rfl, rfl, rfl⟩
 ·
  refine gb ?_
  refine lo (fun kk S => ∃ (x5_1 : Int) (x5_6 : Int) (x5_7 : Int), spec_NextChunk.l0 kk x5_1 x5_6 x5_7 l0 = some (r0, r1) ∧ S = ⟨[(0, .slice Al0 l0.length cl0), (1, .int .i64 x5_1), (6, .int .i64 x5_6), (7, .int .i64 x5_7)], [], [.sl 0 k70 Al0 cl0 l0 0 false]⟩) (fun S hS => ?_) (fun n0 ih0 S hS => ?_) ⟨a1, 0, 0, H, rfl⟩ (fun h => wk [0, 1, 6, 7] [] [⟨0, 0, 0, false⟩] h)
  · clear H; obtain ⟨_, _, _, H, _⟩ := hS; rw [spec_NextChunk.l0] at H; cases H
  clear H
  obtain ⟨x5_1, x5_6, x5_7, H, rfl⟩ := hS
  rw [spec_NextChunk.l0] at H
  refine jo (fun S => ∃ (m : Nat) (x7_1 : Int) (x7_6 : Int) (x7_7 : Int) (x7_13 : Int) (x7_14 : Bool) (x7_15 : Bool) (x7_25 : Bool), m ≤ n0 ∧ spec_NextChunk.j1 m x7_1 x7_6 x7_7 x7_13 x7_14 x7_15 x7_25 l0 = some (r0, r1) ∧ S = ⟨[(0, .slice Al0 l0.length cl0), (1, .int .i64 x7_1), (6, .int .i64 x7_6), (7, .int .i64 x7_7), (13, .int .i64 x7_13), (14, .bool x7_14), (15, .bool x7_15), (25, .bool x7_25)], [], [.sl 0 k70 Al0 cl0 l0 0 false]⟩) (fun S hS => ?_) (fun jh1 => ?_)
  ·
   clear H
   obtain ⟨m21, x7_1, x7_6, x7_7, x7_13, x7_14, x7_15, x7_25, lm21, H, rfl⟩ := hS
   rcases m21 with _ | m21
   · rw [spec_NextChunk.j1] at H; cases H
   rw [spec_NextChunk.j1] at H
   refine gb (gs (rg (sv (EV.mv rfl) rfl (sv (EV.mv rfl) rfl (sv (EV.mv rfl) rfl ?_)))))
   revert H; refine ggI ?_; intro g22 H
   revert H; refine ggI ?_; intro g23 H
   refine sv (EV.ix 0 rfl rfl rfl g22 g23 rfl) rfl (sv (EV.le (v := .agg #[.int .i64 ((rd_T70 l0 x7_7).f0), .int .i64 ((rd_T70 l0 x7_7).f1), .int .i64 ((rd_T70 l0 x7_7).f2)]) x7_7 0 (some 3) 0 z70 rfl rfl rfl g22 g23 rfl rfl rfl) rfl ?_)
   revert H; refine bdI ?_; rintro t24 A24 H
   refine so rfl (op_call (spec_RowCost.ok ((rd_T70 l0 x7_7).f0) ((rd_T70 l0 x7_7).f1) ((rd_T70 l0 x7_7).f2) _ A24) [] 1 rfl rfl rfl rfl rfl ?_)
   rintro _ _ _ ⟨rfl, rfl, rfl⟩
   exact sv (EV.add rfl rfl) rfl (sv (EV.as rfl) rfl (re (pr [0, 1, 6, 7, 13, 14, 15, 25] [] [0] rfl rfl rfl rfl (rg (sv (EV.mv rfl) rfl (sv (EV.add rfl rfl) rfl (sv (EV.as rfl) rfl (re (ge (wk [0, 1, 6, 7] [] [⟨0, 0, 0, false⟩] (ih0 _ (by omega) _ ⟨x7_1, wrap64 (x7_6 + t24), wrap64 (x7_7 + 1), H, rfl⟩)))))))))))
  ·
   refine gs (rg (sv (EV.mv rfl) rfl (sv (EV.mv rfl) rfl (sv (EV.ln rfl) rfl (sv (EV.lss rfl rfl) rfl (sv (EV.mv rfl) rfl ?_))))))
   revert H; refine ifsI ?_ ?_ <;> intro c25 H
   ·
    refine ts 12 rfl (dT c25) (sv (EV.mv rfl) rfl (sv (EV.eql rfl rfl) rfl (sv (EV.mv rfl) rfl ?_)))
    revert H; refine ifsI ?_ ?_ <;> intro c26 H
    ·
     exact ts 15 rfl (dT c26) (sk rfl (sk rfl (sk rfl (sk rfl (sk rfl (sk rfl (sk rfl (sk rfl (sk rfl (sv (EV.pt rfl rfl rfl) rfl (sv (EV.pt rfl rfl rfl) rfl (re (pr [0, 1, 6, 7, 13, 14, 15, 25, 26] [] [0] rfl rfl rfl rfl (gt rfl rfl (gk (wk [0, 1, 6, 7, 13, 14, 15, 25] [] [⟨0, 0, 0, false⟩] (jh1 _ ⟨_, x5_1, x5_6, x5_7, x5_7, decide (x5_7 = 0), true, true, by omega, H, rfl⟩)))))))))))))))))
    ·
     refine ts 15 rfl (dF c26) (sv (EV.mv rfl) rfl (sv (EV.mv rfl) rfl (sv (EV.mv rfl) rfl ?_)))
     revert H; refine ggI ?_; intro g27 H
     refine sv (EV.ix 0 rfl rfl rfl g27 c25 rfl) rfl (sv (EV.le (v := .agg #[.int .i64 ((rd_T70 l0 x5_7).f0), .int .i64 ((rd_T70 l0 x5_7).f1), .int .i64 ((rd_T70 l0 x5_7).f2)]) x5_7 0 (some 3) 0 z70 rfl rfl rfl g27 c25 rfl rfl rfl) rfl ?_)
     revert H; refine bdI ?_; rintro t28 A28 H
     refine so rfl (op_call (spec_RowCost.ok ((rd_T70 l0 x5_7).f0) ((rd_T70 l0 x5_7).f1) ((rd_T70 l0 x5_7).f2) _ A28) [] 1 rfl rfl rfl rfl rfl ?_)
     rintro _ _ _ ⟨rfl, rfl, rfl⟩
     refine sv (EV.add rfl rfl) rfl (sv (EV.mv rfl) rfl (sv (EV.leq rfl rfl) rfl (sv (EV.pf rfl rfl rfl) rfl (sv (EV.pt rfl rfl rfl) rfl (re ?_)))))
     revert H; refine ifsI ?_ ?_ <;> intro c29 H
     ·
      exact gt rfl (dT c29) (gk (wk [0, 1, 6, 7, 13, 14, 15, 25] [] [⟨0, 0, 0, false⟩] (jh1 _ ⟨_, x5_1, x5_6, x5_7, x5_7, decide (x5_7 = 0), false, decide ((wrap64 (x5_6 + t28)) ≤ x5_1), by omega, H, rfl⟩)))
     ·
      exact gf rfl (dF c29) (gx rfl (wk [0, 7] [] [⟨0, 0, 0, false⟩] (jh0 _ ⟨_, x5_7, H, rfl⟩)))
   ·
    exact ts 12 rfl (dF c25) (sk rfl (sk rfl (sk rfl (sk rfl (sk rfl (sk rfl (sk rfl (sk rfl (sk rfl (sk rfl (sk rfl (sk rfl (sk rfl (sv (EV.pf rfl rfl rfl) rfl (re (pr [0, 1, 6, 7, 26] [] [0] rfl rfl rfl rfl (gf rfl rfl (gx rfl (wk [0, 7] [] [⟨0, 0, 0, false⟩] (jh0 _ ⟨_, x5_7, H, rfl⟩))))))))))))))))))))
end Go.Proofs.Ytajjeemkdjfilaa.K
namespace Go.Proofs.Ytajjeemkdjfilaa.K
open Go Go.RowKit
set_option linter.unusedVariables false
set_option linter.unusedSimpArgs false
def laws_sameRows.l0 : Nat → Int → (List S70) → (List S70) → Option (Bool)
 | 0, _, _, _ => none
 | k + 1, x2_5, l0, l1 => if x2_5 < (l0.length : Int) then (if 0 ≤ x2_5 then (if x2_5 < (l1.length : Int) then (if (((rd_T70 l0 x2_5).f0) == ((rd_T70 l1 x2_5).f0) && (((rd_T70 l0 x2_5).f1) == ((rd_T70 l1 x2_5).f1) && (((rd_T70 l0 x2_5).f2) == ((rd_T70 l1 x2_5).f2)))) = true then (laws_sameRows.l0 k (wrap64 (x2_5 + 1)) l0 l1) else (some false)) else none) else none) else (some true)
def laws_sameRows.f (k : Nat) (l0 : List S70) (l1 : List S70) : Option (Bool) := if (l0.length : Int) = (l1.length : Int) then (laws_sameRows.l0 k 0 l0 l1) else (some false)
set_option maxHeartbeats 4000000 in
set_option maxRecDepth 100000 in
theorem laws_sameRows.ok (k : Nat) (l0 : List S70) (Al0 : Option Addr) (cl0 : Nat) (l1 : List S70) (Al1 : Option Addr) (cl1 : Nat) (r0 : Bool) (H : laws_sameRows.f k l0 l1 = some r0) : Fn Try.prog 36 [.slice Al0 l0.length cl0, .slice Al1 l1.length cl1] [] [.sl 0 k70 Al0 cl0 l0 0 false, .sl 0 k70 Al1 cl1 l1 0 false] (fun v bx en => v = .bool r0 ∧ bx = [] ∧ en = []) := by
 refine fn_ 26 Try.func36 rfl rfl rfl (fun base T w0 => ?_)
 rw [laws_sameRows.f] at H
 refine gs (rg (sv (EV.as rfl) rfl (re (gs (gs (rg (sv (EV.mv rfl) rfl (sv (EV.ln rfl) rfl (sv (EV.mv rfl) rfl (sv (EV.ln rfl) rfl (sv (EV.neq rfl rfl) rfl (re ?_))))))))))))
 revert H; refine ifsI ?_ ?_ <;> intro c1 H
 ·
  refine gf rfl (nF c1) (gk (gs (gs (rg (sv (EV.as rfl) rfl (re (pr [0, 1, 5] [] [0, 1] rfl rfl rfl rfl (gb ?_))))))))
  refine lo (fun kk S => ∃ (x2_5 : Int), laws_sameRows.l0 kk x2_5 l0 l1 = some r0 ∧ S = ⟨[(0, .slice Al0 l0.length cl0), (1, .slice Al1 l1.length cl1), (5, .int .i64 x2_5)], [], [.sl 0 k70 Al0 cl0 l0 0 false, .sl 0 k70 Al1 cl1 l1 0 false]⟩) (fun S hS => ?_) (fun n0 ih0 S hS => ?_) ⟨0, H, rfl⟩ (fun h => wk [0, 1, 5] [] [⟨0, 0, 0, false⟩, ⟨1, 0, 0, false⟩] h)
  · clear H; obtain ⟨_, H, _⟩ := hS; rw [laws_sameRows.l0] at H; cases H
  clear H
  obtain ⟨x2_5, H, rfl⟩ := hS
  rw [laws_sameRows.l0] at H
  refine gs (gs (rg (sv (EV.mv rfl) rfl (sv (EV.mv rfl) rfl (sv (EV.ln rfl) rfl (sv (EV.lss rfl rfl) rfl (re ?_)))))))
  revert H; refine ifsI ?_ ?_ <;> intro c2 H
  ·
   refine gt rfl (dT c2) (gk (gs (gb (gs ?_))))
   revert H; refine ggI ?_; intro g3 H
   revert H; refine ggI ?_; intro g4 H
   refine dr [] [0, 1] [] 9 rfl rfl rfl rfl (xv 0 [] [0, 1] rfl (EV.mv rfl) rfl rfl rfl rfl (xv 1 [] [0, 1] rfl (EV.mv rfl) rfl rfl rfl rfl (xv 2 [] [0, 1] rfl (EV.ix 0 rfl rfl rfl g3 c2 rfl) rfl rfl rfl rfl (xv 3 [] [0, 1] rfl (EV.le (v := .agg #[.int .i64 ((rd_T70 l0 x2_5).f0), .int .i64 ((rd_T70 l0 x2_5).f1), .int .i64 ((rd_T70 l0 x2_5).f2)]) x2_5 0 (some 3) 0 z70 rfl rfl rfl g3 c2 rfl rfl rfl) rfl rfl rfl rfl (xv 4 [] [0, 1] rfl (EV.mv rfl) rfl rfl rfl rfl (xv 5 [] [0, 1] rfl (EV.mv rfl) rfl rfl rfl rfl (xv 6 [] [0, 1] rfl (EV.ix 1 rfl rfl rfl g3 g4 rfl) rfl rfl rfl rfl (xv 7 [] [0, 1] rfl (EV.le (v := .agg #[.int .i64 ((rd_T70 l1 x2_5).f0), .int .i64 ((rd_T70 l1 x2_5).f1), .int .i64 ((rd_T70 l1 x2_5).f2)]) x2_5 0 (some 3) 1 z70 rfl rfl rfl g3 g4 rfl rfl rfl) rfl rfl rfl rfl (xv 8 [] [0, 1] rfl (EV.neS rfl rfl (fun d w => eq70 d w ((rd_T70 l0 x2_5).f0) ((rd_T70 l1 x2_5).f0) ((rd_T70 l0 x2_5).f1) ((rd_T70 l1 x2_5).f1) ((rd_T70 l0 x2_5).f2) ((rd_T70 l1 x2_5).f2))) rfl rfl rfl rfl (xd (pr [0, 1, 5, 25] [] [0, 1] rfl rfl rfl rfl ?_)))))))))))
   revert H; refine ifsI ?_ ?_ <;> intro c5 H
   ·
    exact gf rfl (bN c5) (gk (ge (rg (sv (EV.mv rfl) rfl (sv (EV.add rfl rfl) rfl (sv (EV.as rfl) rfl (re (wk [0, 1, 5] [] [⟨0, 0, 0, false⟩, ⟨1, 0, 0, false⟩] (ih0 _ (by omega) _ ⟨wrap64 (x2_5 + 1), H, rfl⟩)))))))))
   ·
    refine gt rfl (bM c5) (gs (rg (sv (EV.as rfl) rfl (re ?_))))
    cases H
    exact rt Try.func36 rfl (.tmp rfl .nil) rfl [] [] rfl rfl rfl rfl rfl ⟨rfl, rfl, rfl⟩
  ·
   refine gf rfl (dF c2) (gx rfl (gs (rg (sv (EV.as rfl) rfl (re (pr [4] [] [] rfl rfl rfl rfl ?_))))))
   cases H
   exact rt Try.func36 rfl (.tmp rfl .nil) rfl [] [] rfl rfl rfl rfl rfl ⟨rfl, rfl, rfl⟩
 ·
  refine gt rfl (nT c1) (gs (rg (sv (EV.as rfl) rfl (re (pr [4] [] [] rfl rfl rfl rfl ?_)))))
  cases H
  exact rt Try.func36 rfl (.tmp rfl .nil) rfl [] [] rfl rfl rfl rfl rfl ⟨rfl, rfl, rfl⟩
end Go.Proofs.Ytajjeemkdjfilaa.K
namespace Go.Proofs.Ytajjeemkdjfilaa.K
open Go Go.RowKit
set_option linter.unusedVariables false
set_option linter.unusedSimpArgs false
def spec_TotalCost.l0 : Nat → Int → Int → (List S70) → Option (Int)
 | 0, _, _, _ => none
 | k + 1, x2_3, x2_4, l0 => if x2_4 < (l0.length : Int) then (if 0 ≤ x2_4 then ((spec_RowCost.f ((rd_T70 l0 x2_4).f0) ((rd_T70 l0 x2_4).f1) ((rd_T70 l0 x2_4).f2)).bind fun t3 => (spec_TotalCost.l0 k (wrap64 (x2_3 + t3)) (wrap64 (x2_4 + 1)) l0)) else none) else (some x2_3)
def spec_TotalCost.f (k : Nat) (l0 : List S70) : Option (Int) := spec_TotalCost.l0 k 0 0 l0
set_option maxHeartbeats 4000000 in
set_option maxRecDepth 100000 in
theorem spec_TotalCost.ok (k : Nat) (l0 : List S70) (Al0 : Option Addr) (cl0 : Nat) (r0 : Int) (H : spec_TotalCost.f k l0 = some r0) : Fn Try.prog 37 [.slice Al0 l0.length cl0] [] [.sl 0 k70 Al0 cl0 l0 0 false] (fun v bx en => v = .int .i64 r0 ∧ bx = [] ∧ en = []) := by
 refine fn_ 19 Try.func37 rfl rfl rfl (fun base T w0 => ?_)
 rw [spec_TotalCost.f] at H
 refine gs (rg (sv (EV.as rfl) rfl (re (gs (rg (sv (EV.as rfl) rfl (re (gs (gs (rg (sv (EV.as rfl) rfl (re (gb ?_)))))))))))))
 refine lo (fun kk S => ∃ (x2_3 : Int) (x2_4 : Int), spec_TotalCost.l0 kk x2_3 x2_4 l0 = some r0 ∧ S = ⟨[(0, .slice Al0 l0.length cl0), (3, .int .i64 x2_3), (4, .int .i64 x2_4)], [], [.sl 0 k70 Al0 cl0 l0 0 false]⟩) (fun S hS => ?_) (fun n0 ih0 S hS => ?_) ⟨0, 0, H, rfl⟩ (fun h => wk [0, 3, 4] [] [⟨0, 0, 0, false⟩] h)
 · clear H; obtain ⟨_, _, H, _⟩ := hS; rw [spec_TotalCost.l0] at H; cases H
 clear H
 obtain ⟨x2_3, x2_4, H, rfl⟩ := hS
 rw [spec_TotalCost.l0] at H
 refine gs (gs (rg (sv (EV.mv rfl) rfl (sv (EV.mv rfl) rfl (sv (EV.ln rfl) rfl (sv (EV.lss rfl rfl) rfl (re ?_)))))))
 revert H; refine ifsI ?_ ?_ <;> intro c1 H
 ·
  refine gt rfl (dT c1) (gk (gs (gb (rg (sv (EV.mv rfl) rfl (sv (EV.mv rfl) rfl (sv (EV.mv rfl) rfl ?_)))))))
  revert H; refine ggI ?_; intro g2 H
  refine sv (EV.ix 0 rfl rfl rfl g2 c1 rfl) rfl (sv (EV.le (v := .agg #[.int .i64 ((rd_T70 l0 x2_4).f0), .int .i64 ((rd_T70 l0 x2_4).f1), .int .i64 ((rd_T70 l0 x2_4).f2)]) x2_4 0 (some 3) 0 z70 rfl rfl rfl g2 c1 rfl rfl rfl) rfl ?_)
  revert H; refine bdI ?_; rintro t3 A3 H
  refine so rfl (op_call (spec_RowCost.ok ((rd_T70 l0 x2_4).f0) ((rd_T70 l0 x2_4).f1) ((rd_T70 l0 x2_4).f2) _ A3) [] 1 rfl rfl rfl rfl rfl ?_)
  rintro _ _ _ ⟨rfl, rfl, rfl⟩
  exact sv (EV.add rfl rfl) rfl (sv (EV.as rfl) rfl (re (pr [0, 3, 4] [] [0] rfl rfl rfl rfl (ge (rg (sv (EV.mv rfl) rfl (sv (EV.add rfl rfl) rfl (sv (EV.as rfl) rfl (re (wk [0, 3, 4] [] [⟨0, 0, 0, false⟩] (ih0 _ (by omega) _ ⟨wrap64 (x2_3 + t3), wrap64 (x2_4 + 1), H, rfl⟩)))))))))))
 ·
  refine gf rfl (dF c1) (gx rfl (gs (rg (sv (EV.mv rfl) rfl (sv (EV.as rfl) rfl (re (pr [2] [] [] rfl rfl rfl rfl ?_)))))))
  cases H
  exact rt Try.func37 rfl (.tmp rfl .nil) rfl [] [] rfl rfl rfl rfl rfl ⟨rfl, rfl, rfl⟩
end Go.Proofs.Ytajjeemkdjfilaa.K
namespace Go.Proofs.Ytajjeemkdjfilaa.K
open Go Go.RowKit
set_option linter.unusedVariables false
set_option linter.unusedSimpArgs false
def spec_l7Kind.f (l0_0 : List Int) (a0_1 : Int) (a0_2 : Int) : Option (Int × Int × Int) := (spec_l1Once.f l0_0 a0_1 a0_2 14).bind fun bt1 => (if bt1.1 = true then ((spec_l1PickInt.f l0_0 bt1.2.1 bt1.2.2 ([0, 5] : List Int)).bind fun bt4 => (some (bt4.1, bt4.2.1, bt4.2.2))) else ((spec_l1Below.f l0_0 bt1.2.1 bt1.2.2 4).bind fun bt5 => (some (wrap64 (1 + bt5.1), bt5.2.1, bt5.2.2))))
set_option maxHeartbeats 4000000 in
set_option maxRecDepth 100000 in
theorem spec_l7Kind.ok (b1000 : Nat) (l0_0 : List Int) (Al0_0 : Option Addr) (cl0_0 : Nat) (a0_1 : Int) (a0_2 : Int) (r0 : Int) (r1 : Int) (r2 : Int) (H : spec_l7Kind.f l0_0 a0_1 a0_2 = some (r0, r1, r2)) : Fn Try.prog 62 [.pointer (some ⟨b1000, 0, none⟩)] [⟨b1000, 111, [.slice Al0_0 l0_0.length cl0_0, .int .i64 a0_1, .int .i64 a0_2]⟩] [.sl 0 (.int .u8) Al0_0 cl0_0 l0_0 0 false] (fun v bx en => v = .int .i64 r0 ∧ bx = [⟨b1000, 111, [.slice Al0_0 l0_0.length cl0_0, .int .i64 r1, .int .i64 r2]⟩] ∧ en = []) := by
 refine fn_ 11 Try.func62 rfl rfl rfl (fun base T w0 => ?_)
 rw [spec_l7Kind.f] at H
 refine gs (rg (sv (EV.as rfl) rfl (re (gs (gs (rg (sv (EV.mv rfl) rfl ?_)))))))
 revert H; refine bdI ?_; rintro ⟨t1_0, t1_1, t1_2⟩ A1 H
 refine so rfl (op_callM (spec_l1Once.ok b1000 l0_0 Al0_0 cl0_0 a0_1 a0_2 14 _ _ _ A1) [⟨0, 0, 0, false⟩] [0] [] 1 rfl rfl rfl rfl rfl rfl rfl rfl ?_)
 rintro _ _ _ ⟨rfl, rfl, rfl⟩
 refine nmE (en := [.sl 0 (.int .u8) Al0_0 cl0_0 l0_0 0 false]) (by kernel_rfl) (re ?_)
 revert H; refine ifsI ?_ ?_ <;> intro c2 H
 ·
  subst c2
  refine gt rfl rfl (gs (rg (sv (EV.mv rfl) rfl (so rfl (op_lit (s := 1) (by_ := 8) (.int .i64) ([0, 5] : List Int) [[], []] [] 1 [.const (.int .i64 0), .const (.int .i64 5)] rfl rfl rfl rfl rfl rfl rfl rfl rfl rfl rfl rfl rfl dq rfl fun A6_3 c6_3 => ?_)))))
  revert H; refine bdI ?_; rintro ⟨t4_0, t4_1, t4_2⟩ A4 H
  refine so rfl (op_callM (spec_l1PickInt.ok b1000 l0_0 Al0_0 cl0_0 t1_1 t1_2 ([0, 5] : List Int) A6_3 c6_3 _ _ _ A4) [⟨0, 0, 0, false⟩, ⟨1, 0, 0, false⟩] [0] [] 2 rfl rfl rfl rfl rfl rfl rfl rfl ?_)
  rintro _ _ _ ⟨rfl, rfl, rfl⟩
  refine nmE (en := [.sl 0 (.int .u8) Al0_0 cl0_0 l0_0 0 false, .sl 2 (.int .i64) A6_3 c6_3 ([0, 5] : List Int) 1 true]) (by kernel_rfl) (sv (EV.as rfl) rfl (re (pr [2] [0] [0] rfl rfl rfl rfl ?_)))
  cases H
  exact rt Try.func62 rfl (.tmp rfl .nil) rfl [0] [] rfl rfl rfl rfl rfl ⟨rfl, rfl, rfl⟩
 ·
  obtain rfl := bF c2
  refine gf rfl rfl (gk (gs (rg (sv (EV.mv rfl) rfl ?_))))
  revert H; refine bdI ?_; rintro ⟨t5_0, t5_1, t5_2⟩ A5 H
  refine so rfl (op_callM (spec_l1Below.ok b1000 l0_0 Al0_0 cl0_0 t1_1 t1_2 4 _ _ _ A5) [⟨0, 0, 0, false⟩] [0] [] 1 rfl rfl rfl rfl rfl rfl rfl rfl ?_)
  rintro _ _ _ ⟨rfl, rfl, rfl⟩
  refine nmE (en := [.sl 0 (.int .u8) Al0_0 cl0_0 l0_0 0 false]) (by kernel_rfl) (sv (EV.add rfl rfl) rfl (sv (EV.as rfl) rfl (re (pr [2] [0] [0] rfl rfl rfl rfl ?_))))
  cases H
  exact rt Try.func62 rfl (.tmp rfl .nil) rfl [0] [] rfl rfl rfl rfl rfl ⟨rfl, rfl, rfl⟩
end Go.Proofs.Ytajjeemkdjfilaa.K
namespace Go.Proofs.Ytajjeemkdjfilaa.K
open Go Go.RowKit
set_option linter.unusedVariables false
set_option linter.unusedSimpArgs false
def spec_l11Grant.f (l0_0 : List Int) (a0_1 : Int) (a0_2 : Int) : Option (Int × Int × Int) := (spec_l1Once.f l0_0 a0_1 a0_2 14).bind fun bt1 => (if bt1.1 = true then ((spec_l1PickInt.f l0_0 bt1.2.1 bt1.2.2 ([7, 61] : List Int)).bind fun bt4 => (some (bt4.1, bt4.2.1, bt4.2.2))) else ((spec_l1PickInt.f l0_0 bt1.2.1 bt1.2.2 ([8, 8, 9, 12, 20, 60] : List Int)).bind fun bt6 => (some (bt6.1, bt6.2.1, bt6.2.2))))
set_option maxHeartbeats 4000000 in
set_option maxRecDepth 100000 in
theorem spec_l11Grant.ok (b1000 : Nat) (l0_0 : List Int) (Al0_0 : Option Addr) (cl0_0 : Nat) (a0_1 : Int) (a0_2 : Int) (r0 : Int) (r1 : Int) (r2 : Int) (H : spec_l11Grant.f l0_0 a0_1 a0_2 = some (r0, r1, r2)) : Fn Try.prog 87 [.pointer (some ⟨b1000, 0, none⟩)] [⟨b1000, 111, [.slice Al0_0 l0_0.length cl0_0, .int .i64 a0_1, .int .i64 a0_2]⟩] [.sl 0 (.int .u8) Al0_0 cl0_0 l0_0 0 false] (fun v bx en => v = .int .i64 r0 ∧ bx = [⟨b1000, 111, [.slice Al0_0 l0_0.length cl0_0, .int .i64 r1, .int .i64 r2]⟩] ∧ en = []) := by
 refine fn_ 11 Try.func87 rfl rfl rfl (fun base T w0 => ?_)
 rw [spec_l11Grant.f] at H
 refine gs (rg (sv (EV.as rfl) rfl (re (gs (gs (rg (sv (EV.mv rfl) rfl ?_)))))))
 revert H; refine bdI ?_; rintro ⟨t1_0, t1_1, t1_2⟩ A1 H
 refine so rfl (op_callM (spec_l1Once.ok b1000 l0_0 Al0_0 cl0_0 a0_1 a0_2 14 _ _ _ A1) [⟨0, 0, 0, false⟩] [0] [] 1 rfl rfl rfl rfl rfl rfl rfl rfl ?_)
 rintro _ _ _ ⟨rfl, rfl, rfl⟩
 refine nmE (en := [.sl 0 (.int .u8) Al0_0 cl0_0 l0_0 0 false]) (by kernel_rfl) (re ?_)
 revert H; refine ifsI ?_ ?_ <;> intro c2 H
 ·
  subst c2
  refine gt rfl rfl (gs (rg (sv (EV.mv rfl) rfl (so rfl (op_lit (s := 1) (by_ := 8) (.int .i64) ([7, 61] : List Int) [[], []] [] 1 [.const (.int .i64 7), .const (.int .i64 61)] rfl rfl rfl rfl rfl rfl rfl rfl rfl rfl rfl rfl rfl dq rfl fun A6_3 c6_3 => ?_)))))
  revert H; refine bdI ?_; rintro ⟨t4_0, t4_1, t4_2⟩ A4 H
  refine so rfl (op_callM (spec_l1PickInt.ok b1000 l0_0 Al0_0 cl0_0 t1_1 t1_2 ([7, 61] : List Int) A6_3 c6_3 _ _ _ A4) [⟨0, 0, 0, false⟩, ⟨1, 0, 0, false⟩] [0] [] 2 rfl rfl rfl rfl rfl rfl rfl rfl ?_)
  rintro _ _ _ ⟨rfl, rfl, rfl⟩
  refine nmE (en := [.sl 0 (.int .u8) Al0_0 cl0_0 l0_0 0 false, .sl 2 (.int .i64) A6_3 c6_3 ([7, 61] : List Int) 1 true]) (by kernel_rfl) (sv (EV.as rfl) rfl (re (pr [2] [0] [0] rfl rfl rfl rfl ?_)))
  cases H
  exact rt Try.func87 rfl (.tmp rfl .nil) rfl [0] [] rfl rfl rfl rfl rfl ⟨rfl, rfl, rfl⟩
 ·
  obtain rfl := bF c2
  refine gf rfl rfl (gk (gs (rg (sv (EV.mv rfl) rfl (so rfl (op_lit (s := 1) (by_ := 8) (.int .i64) ([8, 8, 9, 12, 20, 60] : List Int) [[], [], [], [], [], []] [] 1 [.const (.int .i64 8), .const (.int .i64 8), .const (.int .i64 9), .const (.int .i64 12), .const (.int .i64 20), .const (.int .i64 60)] rfl rfl rfl rfl rfl rfl rfl rfl rfl rfl rfl rfl rfl dq rfl fun A9_5 c9_5 => ?_))))))
  revert H; refine bdI ?_; rintro ⟨t6_0, t6_1, t6_2⟩ A6 H
  refine so rfl (op_callM (spec_l1PickInt.ok b1000 l0_0 Al0_0 cl0_0 t1_1 t1_2 ([8, 8, 9, 12, 20, 60] : List Int) A9_5 c9_5 _ _ _ A6) [⟨0, 0, 0, false⟩, ⟨1, 0, 0, false⟩] [0] [] 2 rfl rfl rfl rfl rfl rfl rfl rfl ?_)
  rintro _ _ _ ⟨rfl, rfl, rfl⟩
  refine nmE (en := [.sl 0 (.int .u8) Al0_0 cl0_0 l0_0 0 false, .sl 2 (.int .i64) A9_5 c9_5 ([8, 8, 9, 12, 20, 60] : List Int) 1 true]) (by kernel_rfl) (sv (EV.as rfl) rfl (re (pr [2] [0] [0] rfl rfl rfl rfl ?_)))
  cases H
  exact rt Try.func87 rfl (.tmp rfl .nil) rfl [0] [] rfl rfl rfl rfl rfl ⟨rfl, rfl, rfl⟩
end Go.Proofs.Ytajjeemkdjfilaa.K
namespace Go.Proofs.Ytajjeemkdjfilaa.K
open Go Go.RowKit
set_option linter.unusedVariables false
set_option linter.unusedSimpArgs false
def spec_DrawBlockNestedLoopJoin.f (k : Nat) (l0 : List Int) : Option (Int × (List S70) × (List S70) × Int) := (spec_l1New.f k l0).bind fun bt1 => ((spec_l7Kind.f l0 bt1.1 bt1.2).bind fun bt2 => ((spec_l2Bent.f k l0 bt2.2.1 bt2.2.2 7).bind fun bt3 => ((spec_l2Bent.f k l0 bt3.2.1 bt3.2.2 9).bind fun bt4 => ((spec_l11Grant.f l0 bt4.2.1 bt4.2.2).bind fun bt5 => (some (bt2.1, bt3.1, bt4.1, bt5.1))))))
set_option maxHeartbeats 4000000 in
set_option maxRecDepth 100000 in
theorem spec_DrawBlockNestedLoopJoin.ok (k : Nat) (l0 : List Int) (Al0 : Option Addr) (cl0 : Nat) (r0 : Int) (r1 : List S70) (r2 : List S70) (r3 : Int) (H : spec_DrawBlockNestedLoopJoin.f k l0 = some (r0, r1, r2, r3)) : Fn Try.prog 38 [.slice Al0 l0.length cl0] [] [.sl 0 (.int .u8) Al0 cl0 l0 0 false] (fun v bx en => ∃ A1 c1 A2 c2, v = .tuple #[.int .i64 r0, .slice A1 r1.length c1, .slice A2 r2.length c2, .int .i64 r3] ∧ bx = [] ∧ en = [.sl 2 k70 A1 c1 r1 1 true, .sl 2 k70 A2 c2 r2 2 true]) := by
 refine fn_ 23 Try.func38 rfl rfl rfl (fun base T w0 => ?_)
 rw [spec_DrawBlockNestedLoopJoin.f] at H
 refine gs (rg (sv (EV.as rfl) rfl (sv (EV.as rfl) rfl (sv (EV.as rfl) rfl (sv (EV.as rfl) rfl (re (gs (rg (sv (EV.mv rfl) rfl ?_)))))))))
 revert H; refine bdI ?_; rintro ⟨t1_0, t1_1⟩ A1 H
 refine so rfl (op_callM (spec_l1New.ok k l0 Al0 cl0 _ _ A1) [⟨0, 0, 0, false⟩] [] [] 1 rfl rfl rfl rfl rfl rfl rfl rfl ?_)
 rintro _ _ _ ⟨b2001, rfl, rfl, rfl⟩
 refine nmE (en := [.sl 0 (.int .u8) Al0 cl0 l0 0 false]) (by kernel_rfl) (sv (EV.as rfl) rfl (re (pr [6] [0] [0] rfl rfl rfl rfl (gs (rg (sv (EV.mv rfl) rfl ?_))))))
 revert H; refine bdI ?_; rintro ⟨t2_0, t2_1, t2_2⟩ A2 H
 refine so rfl (op_callM (spec_l7Kind.ok b2001 l0 Al0 cl0 t1_0 t1_1 _ _ _ A2) [⟨0, 0, 0, false⟩] [0] [] 1 rfl rfl rfl rfl rfl rfl rfl rfl ?_)
 rintro _ _ _ ⟨rfl, rfl, rfl⟩
 refine nmE (en := [.sl 0 (.int .u8) Al0 cl0 l0 0 false]) (by kernel_rfl) (sv (EV.as rfl) rfl (re (gs (rg (sv (EV.mv rfl) rfl ?_)))))
 revert H; refine bdI ?_; rintro ⟨t3_0, t3_1, t3_2⟩ A3 H
 refine so rfl (op_callM (spec_l2Bent.ok k b2001 l0 Al0 cl0 t2_1 t2_2 7 _ _ _ A3) [⟨0, 0, 0, false⟩] [0] [] 1 rfl rfl rfl rfl rfl rfl rfl rfl ?_)
 rintro _ _ _ ⟨At3_0, ct3_0, rfl, rfl, rfl⟩
 refine nmE (en := [.sl 0 (.int .u8) Al0 cl0 l0 0 false, .sl 2 k70 At3_0 ct3_0 t3_0 2 true]) (by kernel_rfl) (sv (EV.as rfl) rfl (re (gs (rg (sv (EV.mv rfl) rfl ?_)))))
 revert H; refine bdI ?_; rintro ⟨t4_0, t4_1, t4_2⟩ A4 H
 refine so rfl (op_callM (spec_l2Bent.ok k b2001 l0 Al0 cl0 t3_1 t3_2 9 _ _ _ A4) [⟨0, 0, 0, false⟩] [0] [] 3 rfl rfl rfl rfl rfl rfl rfl rfl ?_)
 rintro _ _ _ ⟨At4_0, ct4_0, rfl, rfl, rfl⟩
 refine nmE (en := [.sl 0 (.int .u8) Al0 cl0 l0 0 false, .sl 2 k70 At3_0 ct3_0 t3_0 2 true, .sl 2 k70 At4_0 ct4_0 t4_0 4 true]) (by kernel_rfl) (sv (EV.as rfl) rfl (re (pr [6, 7, 8, 9] [0] [0, 1, 2] rfl rfl rfl rfl (gs (rg (sv (EV.mv rfl) rfl (sv (EV.mv rfl) rfl (sv (EV.mv rfl) rfl (sv (EV.mv rfl) rfl ?_)))))))))
 revert H; refine bdI ?_; rintro ⟨t5_0, t5_1, t5_2⟩ A5 H
 refine so rfl (op_callM (spec_l11Grant.ok b2001 l0 Al0 cl0 t4_1 t4_2 _ _ _ A5) [⟨0, 0, 0, false⟩] [0] [] 5 rfl rfl rfl rfl rfl rfl rfl rfl ?_)
 rintro _ _ _ ⟨rfl, rfl, rfl⟩
 refine nmE (en := [.sl 0 (.int .u8) Al0 cl0 l0 0 false, .sl 2 k70 At3_0 ct3_0 t3_0 2 true, .sl 2 k70 At4_0 ct4_0 t4_0 4 true]) (by kernel_rfl) (sv (EV.as rfl) rfl (sv (EV.as rfl) rfl (sv (EV.as rfl) rfl (sv (EV.as rfl) rfl (re (pr [2, 3, 4, 5] [] [1, 2] rfl rfl rfl rfl ?_))))))
 cases H
 exact rt Try.func38 rfl (.tmp rfl (.tmp rfl (.tmp rfl (.tmp rfl .nil)))) rfl [] [⟨0, 2, 1, true⟩, ⟨1, 2, 2, true⟩] rfl rfl rfl rfl rfl ⟨_, _, _, _, rfl, rfl, rfl⟩
end Go.Proofs.Ytajjeemkdjfilaa.K
namespace Go.Proofs.Ytajjeemkdjfilaa.K
open Go Go.RowKit
set_option linter.unusedVariables false
set_option linter.unusedSimpArgs false
def impl_allValid.l0 : Nat → Int → Int → (List S70) → Option (Bool)
 | 0, _, _, _ => none
 | k + 1, x2_6, x2_7, l0 => if x2_7 < x2_6 then (if 0 ≤ x2_7 then (if x2_7 < (l0.length : Int) then ((impl_IsValidRow.f ((rd_T70 l0 x2_7).f0) ((rd_T70 l0 x2_7).f1) ((rd_T70 l0 x2_7).f2)).bind fun t4 => (if t4 = true then (impl_allValid.l0 k x2_6 (wrap64 (x2_7 + 1)) l0) else (some false))) else none) else none) else (some true)
def impl_allValid.f (k : Nat) (l0 : List S70) : Option (Bool) := impl_allValid.l0 k (l0.length : Int) 0 l0
set_option maxHeartbeats 4000000 in
set_option maxRecDepth 100000 in
theorem impl_allValid.ok (k : Nat) (l0 : List S70) (Al0 : Option Addr) (cl0 : Nat) (r0 : Bool) (H : impl_allValid.f k l0 = some r0) : Fn Try.prog 112 [.slice Al0 l0.length cl0] [] [.sl 0 k70 Al0 cl0 l0 0 false] (fun v bx en => v = .bool r0 ∧ bx = [] ∧ en = []) := by
 refine fn_ 15 Try.func112 rfl rfl rfl (fun base T w0 => ?_)
 rw [impl_allValid.f] at H
 refine gs (rg (sv (EV.as rfl) rfl (re (gs (gs (rg (sv (EV.mv rfl) rfl (sv (EV.ln rfl) rfl (sv (EV.mv rfl) rfl (re (gb ?_)))))))))))
 refine lo (fun kk S => ∃ (x2_6 : Int) (x2_7 : Int), impl_allValid.l0 kk x2_6 x2_7 l0 = some r0 ∧ S = ⟨[(5, .slice Al0 l0.length cl0), (6, .int .i64 x2_6), (7, .int .i64 x2_7)], [], [.sl 0 k70 Al0 cl0 l0 0 false]⟩) (fun S hS => ?_) (fun n0 ih0 S hS => ?_) ⟨(l0.length : Int), 0, H, rfl⟩ (fun h => wk [5, 6, 7] [] [⟨0, 0, 0, false⟩] h)
 · clear H; obtain ⟨_, _, H, _⟩ := hS; rw [impl_allValid.l0] at H; cases H
 clear H
 obtain ⟨x2_6, x2_7, H, rfl⟩ := hS
 rw [impl_allValid.l0] at H
 refine gs (rg (sv (EV.lss rfl rfl) rfl (re (gs ?_))))
 revert H; refine ifsI ?_ ?_ <;> intro c1 H
 ·
  refine gt rfl (dT c1) (gk (gs (gb (gs (rg ?_)))))
  revert H; refine ggI ?_; intro g2 H
  revert H; refine ggI ?_; intro g3 H
  refine sv (EV.ix 0 rfl rfl rfl g2 g3 rfl) rfl (sv (EV.le (v := .agg #[.int .i64 ((rd_T70 l0 x2_7).f0), .int .i64 ((rd_T70 l0 x2_7).f1), .int .i64 ((rd_T70 l0 x2_7).f2)]) x2_7 0 (some 3) 0 z70 rfl rfl rfl g2 g3 rfl rfl rfl) rfl (so rfl (op_alloc (cs := [.int .i64 0, .int .i64 0, .int .i64 0]) (by kernel_rfl) rfl fun b4 => (so rfl (op_st (cs' := [.int .i64 ((rd_T70 l0 x2_7).f0), .int .i64 ((rd_T70 l0 x2_7).f1), .int .i64 ((rd_T70 l0 x2_7).f2)]) 0 rfl rfl rfl rfl rfl rfl (re (gs (rg (sv (EV.ld (v := .agg #[.int .i64 ((rd_T70 l0 x2_7).f0), .int .i64 ((rd_T70 l0 x2_7).f1), .int .i64 ((rd_T70 l0 x2_7).f2)]) 0 (some 3) rfl rfl rfl) rfl ?_)))))))))
  revert H; refine bdI ?_; rintro t4 A4 H
  refine so rfl (op_call (impl_IsValidRow.ok ((rd_T70 l0 x2_7).f0) ((rd_T70 l0 x2_7).f1) ((rd_T70 l0 x2_7).f2) _ A4) [] 1 rfl rfl rfl rfl rfl ?_)
  rintro _ _ _ ⟨rfl, rfl, rfl⟩
  refine sv (EV.nt rfl) rfl (re (pr [5, 6, 7, 13] [] [0] rfl rfl rfl rfl ?_))
  revert H; refine ifsI ?_ ?_ <;> intro c5 H
  ·
   subst c5
   exact gf rfl rfl (gk (ge (rg (sv (EV.add rfl rfl) rfl (sv (EV.mv rfl) rfl (re (wk [5, 6, 7] [] [⟨0, 0, 0, false⟩] (ih0 _ (by omega) _ ⟨x2_6, wrap64 (x2_7 + 1), H, rfl⟩))))))))
  ·
   obtain rfl := bF c5
   refine gt rfl rfl (gs (rg (sv (EV.as rfl) rfl (re ?_))))
   cases H
   exact rt Try.func112 rfl (.tmp rfl .nil) rfl [] [] rfl rfl rfl rfl rfl ⟨rfl, rfl, rfl⟩
 ·
  refine gf rfl (dF c1) (gx rfl (gs (rg (sv (EV.as rfl) rfl (re ?_)))))
  cases H
  exact rt Try.func112 rfl (.tmp rfl .nil) rfl [] [] rfl rfl rfl rfl rfl ⟨rfl, rfl, rfl⟩
end Go.Proofs.Ytajjeemkdjfilaa.K
namespace Go.Proofs.Ytajjeemkdjfilaa.K
open Go Go.RowKit
set_option linter.unusedVariables false
set_option linter.unusedSimpArgs false
def impl_AreValidRows.f (k : Nat) (l0 : List S70) : Option (Bool) := if (l0.length : Int) ≤ 24 then ((impl_allValid.f k l0).bind fun t2 => (some t2)) else (some false)
set_option maxHeartbeats 4000000 in
set_option maxRecDepth 100000 in
theorem impl_AreValidRows.ok (k : Nat) (l0 : List S70) (Al0 : Option Addr) (cl0 : Nat) (r0 : Bool) (H : impl_AreValidRows.f k l0 = some r0) : Fn Try.prog 100 [.slice Al0 l0.length cl0] [] [.sl 0 k70 Al0 cl0 l0 0 false] (fun v bx en => v = .bool r0 ∧ bx = [] ∧ en = []) := by
 refine fn_ 10 Try.func100 rfl rfl rfl (fun base T w0 => ?_)
 rw [impl_AreValidRows.f] at H
 refine gs (rg (sv (EV.as rfl) rfl (re (gs (rg (sv (EV.mv rfl) rfl (sv (EV.ln rfl) rfl (sv (EV.leq rfl rfl) rfl (sv (EV.mv rfl) rfl ?_)))))))))
 revert H; refine ifsI ?_ ?_ <;> intro c1 H
 ·
  refine ts 6 rfl (dT c1) (sv (EV.mv rfl) rfl ?_)
  revert H; refine bdI ?_; rintro t2 A2 H
  refine so rfl (op_call (impl_allValid.ok k l0 Al0 cl0 _ A2) [⟨0, 0, 0, false⟩] 1 rfl rfl rfl rfl rfl ?_)
  rintro _ _ _ ⟨rfl, rfl, rfl⟩
  refine sv (EV.pt rfl rfl rfl) rfl (sv (EV.as rfl) rfl (re (pr [2] [] [] rfl rfl rfl rfl ?_)))
  cases H
  exact rt Try.func100 rfl (.tmp rfl .nil) rfl [] [] rfl rfl rfl rfl rfl ⟨rfl, rfl, rfl⟩
 ·
  refine ts 6 rfl (dF c1) (sk rfl (sk rfl (sv (EV.pf rfl rfl rfl) rfl (sv (EV.as rfl) rfl (re (pr [2] [] [] rfl rfl rfl rfl ?_))))))
  cases H
  exact rt Try.func100 rfl (.tmp rfl .nil) rfl [] [] rfl rfl rfl rfl rfl ⟨rfl, rfl, rfl⟩
end Go.Proofs.Ytajjeemkdjfilaa.K
namespace Go.Proofs.Ytajjeemkdjfilaa.K
open Go Go.RowKit
set_option linter.unusedVariables false
set_option linter.unusedSimpArgs false
def impl_IsValidJoinKind.f (a0 : Int) : Option (Bool) := (impl_within.f a0 1 4).bind fun t1 => (some t1)
set_option maxHeartbeats 4000000 in
set_option maxRecDepth 100000 in
theorem impl_IsValidJoinKind.ok (a0 : Int) (r0 : Bool) (H : impl_IsValidJoinKind.f a0 = some r0) : Fn Try.prog 99 [.int .i64 a0] [] [] (fun v bx en => v = .bool r0 ∧ bx = [] ∧ en = []) := by
 refine fn_ 5 Try.func99 rfl rfl rfl (fun base T w0 => ?_)
 rw [impl_IsValidJoinKind.f] at H
 refine gs (rg (sv (EV.as rfl) rfl (re (gs (rg (sv (EV.mv rfl) rfl ?_))))))
 revert H; refine bdI ?_; rintro t1 A1 H
 refine so rfl (op_call (impl_within.ok a0 1 4 _ A1) [] 1 rfl rfl rfl rfl rfl ?_)
 rintro _ _ _ ⟨rfl, rfl, rfl⟩
 refine sv (EV.as rfl) rfl (re ?_)
 cases H
 exact rt Try.func99 rfl (.tmp rfl .nil) rfl [] [] rfl rfl rfl rfl rfl ⟨rfl, rfl, rfl⟩
end Go.Proofs.Ytajjeemkdjfilaa.K
namespace Go.Proofs.Ytajjeemkdjfilaa.K
open Go Go.RowKit
set_option linter.unusedVariables false
set_option linter.unusedSimpArgs false
def impl_IsValidTask.f (k : Nat) (a0_0 : Int) (l0_1 : List S70) (l0_2 : List S70) (l0_3 : List Bool) (a0_4 : Int) : Option (Bool) := (impl_IsValidJoinKind.f a0_0).bind fun t1 => (if t1 = true then ((impl_AreValidRows.f k l0_1).bind fun t3 => (if t3 = true then ((impl_AreValidRows.f k l0_2).bind fun t5 => (if t5 = true then (if (l0_3.length : Int) = (l0_1.length : Int) then ((impl_within.f a0_4 0 4).bind fun t8 => (some t8)) else (some false)) else (some false))) else (some false))) else (some false))
set_option maxHeartbeats 4000000 in
set_option maxRecDepth 100000 in
theorem impl_IsValidTask.ok (k : Nat) (a0_0 : Int) (l0_1 : List S70) (Al0_1 : Option Addr) (cl0_1 : Nat) (l0_2 : List S70) (Al0_2 : Option Addr) (cl0_2 : Nat) (l0_3 : List Bool) (Al0_3 : Option Addr) (cl0_3 : Nat) (a0_4 : Int) (r0 : Bool) (H : impl_IsValidTask.f k a0_0 l0_1 l0_2 l0_3 a0_4 = some r0) : Fn Try.prog 52 [.agg #[.int .i64 a0_0, .slice Al0_1 l0_1.length cl0_1, .slice Al0_2 l0_2.length cl0_2, .slice Al0_3 l0_3.length cl0_3, .int .i64 a0_4]] [] [.sl 0 k70 Al0_1 cl0_1 l0_1 0 false, .sl 0 k70 Al0_2 cl0_2 l0_2 0 false, .sl 0 .bool Al0_3 cl0_3 l0_3 0 false] (fun v bx en => v = .bool r0 ∧ bx = [] ∧ en = []) := by
 refine fn_ 30 Try.func52 rfl rfl rfl (fun base T w0 => ?_)
 rw [impl_IsValidTask.f] at H
 refine gs (rg (so rfl (op_box (cs := [.int .i64 a0_0, .slice Al0_1 l0_1.length cl0_1, .slice Al0_2 l0_2.length cl0_2, .slice Al0_3 l0_3.length cl0_3, .int .i64 a0_4]) rfl rfl rfl fun b1 => (sv (EV.as rfl) rfl (re (gs (rg (sv (EV.fa 0 rfl) rfl (sv (EV.ld 0 none rfl rfl rfl) rfl ?_)))))))))
 revert H; refine bdI ?_; rintro t1 A1 H
 refine so rfl (op_call (impl_IsValidJoinKind.ok a0_0 _ A1) [] 1 rfl rfl rfl rfl rfl ?_)
 rintro _ _ _ ⟨rfl, rfl, rfl⟩
 refine sv (EV.mv rfl) rfl ?_
 revert H; refine ifsI ?_ ?_ <;> intro c2 H
 ·
  subst c2
  refine ts 6 rfl rfl (sv (EV.fa 1 rfl) rfl (sv (EV.ld 0 none rfl rfl rfl) rfl ?_))
  revert H; refine bdI ?_; rintro t3 A3 H
  refine so rfl (op_call (impl_AreValidRows.ok k l0_1 Al0_1 cl0_1 _ A3) [⟨0, 0, 0, false⟩] 1 rfl rfl rfl rfl rfl ?_)
  rintro _ _ _ ⟨rfl, rfl, rfl⟩
  refine sv (EV.pt rfl rfl rfl) rfl (sv (EV.mv rfl) rfl ?_)
  revert H; refine ifsI ?_ ?_ <;> intro c4 H
  ·
   subst c4
   refine ts 11 rfl rfl (sv (EV.fa 2 rfl) rfl (sv (EV.ld 0 none rfl rfl rfl) rfl ?_))
   revert H; refine bdI ?_; rintro t5 A5 H
   refine so rfl (op_call (impl_AreValidRows.ok k l0_2 Al0_2 cl0_2 _ A5) [⟨1, 0, 0, false⟩] 1 rfl rfl rfl rfl rfl ?_)
   rintro _ _ _ ⟨rfl, rfl, rfl⟩
   refine sv (EV.pt rfl rfl rfl) rfl (sv (EV.mv rfl) rfl ?_)
   revert H; refine ifsI ?_ ?_ <;> intro c6 H
   ·
    subst c6
    refine ts 16 rfl rfl (sv (EV.fa 3 rfl) rfl (sv (EV.ld 0 none rfl rfl rfl) rfl (sv (EV.ln rfl) rfl (sv (EV.fa 1 rfl) rfl (sv (EV.ld 0 none rfl rfl rfl) rfl (sv (EV.ln rfl) rfl (sv (EV.eql rfl rfl) rfl (sv (EV.pt rfl rfl rfl) rfl (sv (EV.mv rfl) rfl ?_)))))))))
    revert H; refine ifsI ?_ ?_ <;> intro c7 H
    ·
     refine ts 25 rfl (dT c7) (sv (EV.fa 4 rfl) rfl (sv (EV.ld 0 none rfl rfl rfl) rfl ?_))
     revert H; refine bdI ?_; rintro t8 A8 H
     refine so rfl (op_call (impl_within.ok a0_4 0 4 _ A8) [] 1 rfl rfl rfl rfl rfl ?_)
     rintro _ _ _ ⟨rfl, rfl, rfl⟩
     refine sv (EV.pt rfl rfl rfl) rfl (sv (EV.as rfl) rfl (re (pr [2] [] [] rfl rfl rfl rfl ?_)))
     cases H
     exact rt Try.func52 rfl (.tmp rfl .nil) rfl [] [] rfl rfl rfl rfl rfl ⟨rfl, rfl, rfl⟩
    ·
     refine ts 25 rfl (dF c7) (sk rfl (sk rfl (sk rfl (sv (EV.pf rfl rfl rfl) rfl (sv (EV.as rfl) rfl (re (pr [2] [] [] rfl rfl rfl rfl ?_)))))))
     cases H
     exact rt Try.func52 rfl (.tmp rfl .nil) rfl [] [] rfl rfl rfl rfl rfl ⟨rfl, rfl, rfl⟩
   ·
    obtain rfl := bF c6
    refine ts 16 rfl rfl (sk rfl (sk rfl (sk rfl (sk rfl (sk rfl (sk rfl (sk rfl (sv (EV.pf rfl rfl rfl) rfl (sv (EV.mv rfl) rfl (sk rfl (sk rfl (sk rfl (sv (EV.pf rfl rfl rfl) rfl (sv (EV.as rfl) rfl (re (pr [2] [] [] rfl rfl rfl rfl ?_))))))))))))))))
    cases H
    exact rt Try.func52 rfl (.tmp rfl .nil) rfl [] [] rfl rfl rfl rfl rfl ⟨rfl, rfl, rfl⟩
  ·
   obtain rfl := bF c4
   refine ts 11 rfl rfl (sk rfl (sk rfl (sk rfl (sv (EV.pf rfl rfl rfl) rfl (sv (EV.mv rfl) rfl (sk rfl (sk rfl (sk rfl (sk rfl (sk rfl (sk rfl (sk rfl (sv (EV.pf rfl rfl rfl) rfl (sv (EV.mv rfl) rfl (sk rfl (sk rfl (sk rfl (sv (EV.pf rfl rfl rfl) rfl (sv (EV.as rfl) rfl (re (pr [2] [] [] rfl rfl rfl rfl ?_)))))))))))))))))))))
   cases H
   exact rt Try.func52 rfl (.tmp rfl .nil) rfl [] [] rfl rfl rfl rfl rfl ⟨rfl, rfl, rfl⟩
 ·
  obtain rfl := bF c2
  refine ts 6 rfl rfl (sk rfl (sk rfl (sk rfl (sv (EV.pf rfl rfl rfl) rfl (sv (EV.mv rfl) rfl (sk rfl (sk rfl (sk rfl (sv (EV.pf rfl rfl rfl) rfl (sv (EV.mv rfl) rfl (sk rfl (sk rfl (sk rfl (sk rfl (sk rfl (sk rfl (sk rfl (sv (EV.pf rfl rfl rfl) rfl (sv (EV.mv rfl) rfl (sk rfl (sk rfl (sk rfl (sv (EV.pf rfl rfl rfl) rfl (sv (EV.as rfl) rfl (re (pr [2] [] [] rfl rfl rfl rfl ?_))))))))))))))))))))))))))
  cases H
  exact rt Try.func52 rfl (.tmp rfl .nil) rfl [] [] rfl rfl rfl rfl rfl ⟨rfl, rfl, rfl⟩
end Go.Proofs.Ytajjeemkdjfilaa.K
namespace Go.Proofs.Ytajjeemkdjfilaa.K
open Go Go.RowKit
set_option linter.unusedVariables false
set_option linter.unusedSimpArgs false
def impl_cloneTask.f (a0_0 : Int) (l0_1 : List S70) (l0_2 : List S70) (l0_3 : List Bool) (a0_4 : Int) : Option (Int × (List S70) × (List S70) × (List Bool) × Int) := if l0_3.length ≤ 140737488355328 then ((impl_clone.f l0_1).bind fun t2 => ((impl_clone.f l0_2).bind fun t3 => (some (a0_0, t2, t3, l0_3, a0_4)))) else none
set_option maxHeartbeats 4000000 in
set_option maxRecDepth 100000 in
theorem impl_cloneTask.ok (a0_0 : Int) (l0_1 : List S70) (Al0_1 : Option Addr) (cl0_1 : Nat) (l0_2 : List S70) (Al0_2 : Option Addr) (cl0_2 : Nat) (l0_3 : List Bool) (Al0_3 : Option Addr) (cl0_3 : Nat) (a0_4 : Int) (r0 : Int) (r1 : List S70) (r2 : List S70) (r3 : List Bool) (r4 : Int) (H : impl_cloneTask.f a0_0 l0_1 l0_2 l0_3 a0_4 = some (r0, r1, r2, r3, r4)) : Fn Try.prog 78 [.agg #[.int .i64 a0_0, .slice Al0_1 l0_1.length cl0_1, .slice Al0_2 l0_2.length cl0_2, .slice Al0_3 l0_3.length cl0_3, .int .i64 a0_4]] [] [.sl 0 k70 Al0_1 cl0_1 l0_1 0 false, .sl 0 k70 Al0_2 cl0_2 l0_2 0 false, .sl 0 .bool Al0_3 cl0_3 l0_3 0 false] (fun v bx en => ∃ A1 c1 A2 c2 A3 c3, v = .agg #[.int .i64 r0, .slice A1 r1.length c1, .slice A2 r2.length c2, .slice A3 r3.length c3, .int .i64 r4] ∧ bx = [] ∧ en = [.sl 2 k70 A1 c1 r1 1 true, .sl 2 k70 A2 c2 r2 2 true, .sl 2 .bool A3 c3 r3 3 true]) := by
 refine fn_ 16 Try.func78 rfl rfl rfl (fun base T w0 => ?_)
 rw [impl_cloneTask.f] at H
 refine gs (rg (so rfl (op_box (cs := [.int .i64 a0_0, .slice Al0_1 l0_1.length cl0_1, .slice Al0_2 l0_2.length cl0_2, .slice Al0_3 l0_3.length cl0_3, .int .i64 a0_4]) rfl rfl rfl fun b1 => (so rfl (op_alloc (cs := [.int .i64 0, .slice none 0 0, .slice none 0 0, .slice none 0 0, .int .i64 0]) (by kernel_rfl) rfl fun b2 => (re (gs ?_)))))))
 revert H; refine ggI ?_; intro g1 H
 refine nil_ .bool 1 dq (dr [0, 1] [0, 1, 2] [10, 11, 12, 13, 14] 15 rfl rfl rfl rfl (xv 0 [0, 1] [0, 1, 2] rfl (EV.fa 1 rfl) rfl rfl rfl rfl (xv 1 [0, 1] [0, 1, 2] rfl (EV.ld 0 none rfl rfl rfl) rfl rfl rfl rfl (xv 3 [0, 1] [0, 1, 2] rfl (EV.fa 2 rfl) rfl rfl rfl rfl (xv 4 [0, 1] [0, 1, 2] rfl (EV.ld 0 none rfl rfl rfl) rfl rfl rfl rfl (xv 6 [0, 1] [0, 1, 2] rfl (EV.fa 3 rfl) rfl rfl rfl rfl (xv 7 [0, 1] [0, 1, 2] rfl (EV.ld 0 none rfl rfl rfl) rfl rfl rfl rfl (one1 2 rfl rfl ?_))))))))
 revert H; refine bdI ?_; rintro t2 A2 H
 refine op_call (impl_clone.ok l0_1 Al0_1 cl0_1 _ A2) [⟨0, 0, 0, false⟩] 2 rfl rfl rfl rfl rfl ?_
 rintro _ _ _ ⟨At2, ct2, rfl, rfl, rfl⟩
 refine xs [0, 1] [0, 1, 2] rfl rfl rfl (xv 9 [0, 1] [0, 1, 2] rfl (EV.fa 1 rfl) rfl rfl rfl rfl (one1 5 rfl rfl ?_))
 revert H; refine bdI ?_; rintro t3 A3 H
 refine op_call (impl_clone.ok l0_2 Al0_2 cl0_2 _ A3) [⟨1, 0, 0, false⟩] 4 rfl rfl rfl rfl rfl ?_
 rintro _ _ _ ⟨At3, ct3, rfl, rfl, rfl⟩
 refine xs [0, 1] [0, 1, 2] rfl rfl rfl (one1 8 rfl rfl (op_app (k := .bool) (s := 1) (by_ := 1) 3 2 rfl rfl rfl rfl (ap0 g1 dq) (ap0n g1 dq) (.inl rfl) true (fun _ => .inl rfl) rfl rfl fun A11_4 c11_4 => (nmE (en := [.sl 0 k70 Al0_1 cl0_1 l0_1 0 false, .sl 0 k70 Al0_2 cl0_2 l0_2 0 false, .sl 0 .bool Al0_3 cl0_3 l0_3 0 false, .sl 2 k70 At2 ct2 t2 3 true, .sl 2 k70 At3 ct3 t3 5 true, .sl 2 .bool A11_4 c11_4 l0_3 1 true]) (by kernel_rfl) (xs [0, 1] [0, 1, 2] rfl rfl rfl (one1 10 rfl rfl (op_st (cs' := [.int .i64 a0_0, .slice At2 t2.length ct2, .slice Al0_2 l0_2.length cl0_2, .slice Al0_3 l0_3.length cl0_3, .int .i64 a0_4]) 0 rfl rfl rfl rfl rfl rfl (xn rfl (one1 11 rfl rfl (ov (EV.fa 2 rfl) rfl (xn rfl (one1 12 rfl rfl (op_st (cs' := [.int .i64 a0_0, .slice At2 t2.length ct2, .slice At3 t3.length ct3, .slice Al0_3 l0_3.length cl0_3, .int .i64 a0_4]) 0 rfl rfl rfl rfl rfl rfl (xn rfl (one1 13 rfl rfl (ov (EV.fa 3 rfl) rfl (xn rfl (one1 14 rfl rfl (op_st (cs' := [.int .i64 a0_0, .slice At2 t2.length ct2, .slice At3 t3.length ct3, .slice A11_4 l0_3.length c11_4, .int .i64 a0_4]) 0 rfl rfl rfl rfl rfl rfl (xn rfl (xd (pr [1, 2] [0, 1] [3, 4, 5] rfl rfl rfl rfl (gs (rg (sv (EV.ld (v := .agg #[.int .i64 a0_0, .slice At2 t2.length ct2, .slice At3 t3.length ct3, .slice A11_4 l0_3.length c11_4, .int .i64 a0_4]) 0 (some 5) rfl rfl rfl) rfl (so rfl (op_st (cs' := [.int .i64 a0_0, .slice At2 t2.length ct2, .slice At3 t3.length ct3, .slice A11_4 l0_3.length c11_4, .int .i64 a0_4]) 1 rfl rfl rfl rfl rfl rfl (re ?_)))))))))))))))))))))))))))
 cases H
 exact rt Try.func78 rfl (.cell 1 (some 5) rfl rfl rfl .nil) rfl [] [⟨0, 2, 1, true⟩, ⟨1, 2, 2, true⟩, ⟨2, 2, 3, true⟩] rfl rfl rfl rfl rfl ⟨_, _, _, _, _, _, rfl, rfl, rfl⟩
end Go.Proofs.Ytajjeemkdjfilaa.K
namespace Go.Proofs.Ytajjeemkdjfilaa.K
open Go Go.RowKit
set_option linter.unusedVariables false
set_option linter.unusedSimpArgs false
def impl_CountMatches.l0 : Nat → Int → Int → Int → Int → Int → Int → (List S70) → Option (Int)
 | 0, _, _, _, _, _, _, _ => none
 | k + 1, x2_5, x2_9, x2_10, x2_2_0, x2_2_1, x2_2_2, l1 => if x2_10 < x2_9 then (if 0 ≤ x2_10 then (if x2_10 < (l1.length : Int) then (if ((rd_T70 l1 x2_10).f0) = x2_2_0 then (impl_CountMatches.l0 k (wrap64 (x2_5 + 1)) x2_9 (wrap64 (x2_10 + 1)) x2_2_0 x2_2_1 x2_2_2 l1) else (impl_CountMatches.l0 k x2_5 x2_9 (wrap64 (x2_10 + 1)) x2_2_0 x2_2_1 x2_2_2 l1)) else none) else none) else (some x2_5)
def impl_CountMatches.f (k : Nat) (a0_0 : Int) (a0_1 : Int) (a0_2 : Int) (l1 : List S70) : Option (Int) := impl_CountMatches.l0 k 0 (l1.length : Int) 0 a0_0 a0_1 a0_2 l1
set_option maxHeartbeats 4000000 in
set_option maxRecDepth 100000 in
theorem impl_CountMatches.ok (k : Nat) (a0_0 : Int) (a0_1 : Int) (a0_2 : Int) (l1 : List S70) (Al1 : Option Addr) (cl1 : Nat) (r0 : Int) (H : impl_CountMatches.f k a0_0 a0_1 a0_2 l1 = some r0) : Fn Try.prog 79 [.agg #[.int .i64 a0_0, .int .i64 a0_1, .int .i64 a0_2], .slice Al1 l1.length cl1] [] [.sl 0 k70 Al1 cl1 l1 0 false] (fun v bx en => v = .int .i64 r0 ∧ bx = [] ∧ en = []) := by
 refine fn_ 23 Try.func79 rfl rfl rfl (fun base T w0 => ?_)
 rw [impl_CountMatches.f] at H
 refine gs (rg (so rfl (op_box (cs := [.int .i64 a0_0, .int .i64 a0_1, .int .i64 a0_2]) rfl rfl rfl fun b2 => (sv (EV.as rfl) rfl (re (gs (rg (sv (EV.as rfl) rfl (re (gs (gs (rg (sv (EV.mv rfl) rfl (sv (EV.ln rfl) rfl (sv (EV.mv rfl) rfl (re (gb ?_)))))))))))))))))
 refine lo (fun kk S => ∃ (x2_5 : Int) (x2_9 : Int) (x2_10 : Int) (x2_2_0 : Int) (x2_2_1 : Int) (x2_2_2 : Int), impl_CountMatches.l0 kk x2_5 x2_9 x2_10 x2_2_0 x2_2_1 x2_2_2 l1 = some r0 ∧ S = ⟨[(2, .pointer (some ⟨b2, 0, none⟩)), (5, .int .i64 x2_5), (8, .slice Al1 l1.length cl1), (9, .int .i64 x2_9), (10, .int .i64 x2_10)], [⟨b2, 70, [.int .i64 x2_2_0, .int .i64 x2_2_1, .int .i64 x2_2_2]⟩], [.sl 0 k70 Al1 cl1 l1 0 false]⟩) (fun S hS => ?_) (fun n0 ih0 S hS => ?_) ⟨0, (l1.length : Int), 0, a0_0, a0_1, a0_2, H, rfl⟩ (fun h => wk [2, 5, 8, 9, 10] [0] [⟨0, 0, 0, false⟩] h)
 · clear H; obtain ⟨_, _, _, _, _, _, H, _⟩ := hS; rw [impl_CountMatches.l0] at H; cases H
 clear H
 obtain ⟨x2_5, x2_9, x2_10, x2_2_0, x2_2_1, x2_2_2, H, rfl⟩ := hS
 rw [impl_CountMatches.l0] at H
 refine gs (rg (sv (EV.lss rfl rfl) rfl (re (gs ?_))))
 revert H; refine ifsI ?_ ?_ <;> intro c1 H
 ·
  refine gt rfl (dT c1) (gk (gs (gb (gs (rg ?_)))))
  revert H; refine ggI ?_; intro g2 H
  revert H; refine ggI ?_; intro g3 H
  refine sv (EV.ix 0 rfl rfl rfl g2 g3 rfl) rfl (sv (EV.le (v := .agg #[.int .i64 ((rd_T70 l1 x2_10).f0), .int .i64 ((rd_T70 l1 x2_10).f1), .int .i64 ((rd_T70 l1 x2_10).f2)]) x2_10 0 (some 3) 0 z70 rfl rfl rfl g2 g3 rfl rfl rfl) rfl (so rfl (op_alloc (cs := [.int .i64 0, .int .i64 0, .int .i64 0]) (by kernel_rfl) rfl fun b7 => (so rfl (op_st (cs' := [.int .i64 ((rd_T70 l1 x2_10).f0), .int .i64 ((rd_T70 l1 x2_10).f1), .int .i64 ((rd_T70 l1 x2_10).f2)]) 1 rfl rfl rfl rfl rfl rfl (re (gs (rg (sv (EV.fa 0 rfl) rfl (sv (EV.ld 1 none rfl rfl rfl) rfl (sv (EV.fa 0 rfl) rfl (sv (EV.ld 0 none rfl rfl rfl) rfl (sv (EV.eql rfl rfl) rfl (re (pr [2, 5, 8, 9, 10, 18] [0] [0] rfl rfl rfl rfl ?_)))))))))))))))
  revert H; refine ifsI ?_ ?_ <;> intro c4 H
  ·
   exact gt rfl (dT c4) (rg (sv (EV.mv rfl) rfl (sv (EV.add rfl rfl) rfl (sv (EV.as rfl) rfl (re (ge (rg (sv (EV.add rfl rfl) rfl (sv (EV.mv rfl) rfl (re (wk [2, 5, 8, 9, 10] [0] [⟨0, 0, 0, false⟩] (ih0 _ (by omega) _ ⟨wrap64 (x2_5 + 1), x2_9, wrap64 (x2_10 + 1), x2_2_0, x2_2_1, x2_2_2, H, rfl⟩))))))))))))
  ·
   exact gf rfl (dF c4) (gk (ge (rg (sv (EV.add rfl rfl) rfl (sv (EV.mv rfl) rfl (re (wk [2, 5, 8, 9, 10] [0] [⟨0, 0, 0, false⟩] (ih0 _ (by omega) _ ⟨x2_5, x2_9, wrap64 (x2_10 + 1), x2_2_0, x2_2_1, x2_2_2, H, rfl⟩))))))))
 ·
  refine gf rfl (dF c1) (gx rfl (gs (rg (sv (EV.mv rfl) rfl (sv (EV.as rfl) rfl (re (pr [4] [] [] rfl rfl rfl rfl ?_)))))))
  cases H
  exact rt Try.func79 rfl (.tmp rfl .nil) rfl [] [] rfl rfl rfl rfl rfl ⟨rfl, rfl, rfl⟩
end Go.Proofs.Ytajjeemkdjfilaa.K
namespace Go.Proofs.Ytajjeemkdjfilaa.K
open Go Go.RowKit
set_option linter.unusedVariables false
set_option linter.unusedSimpArgs false
mutual
def impl_JoinChunk.j0 : Nat → (List S92) → Int → (List S70) → Int → Int → Int → (List S70) → (List S70) → (List Bool) → Int → Int → (List S70) → (List S70) → (List Bool) → Int → (List S70) → Option ((List S92) × Int × (List S70) × (List S70) × (List Bool) × Int)
 | 0, _, _, _, _, _, _, _, _, _, _, _, _, _, _, _, _ => none
 | k + 1, x40_7, x40_8, x40_20, x40_21, x40_22, x40_5_0, x40_5_1, x40_5_2, x40_5_3, x40_5_4, x40_6_0, x40_6_1, x40_6_2, x40_6_3, x40_6_4, l1 => if 0 ≤ x40_8 then (if x40_8 < (x40_6_3.length : Int) then (impl_JoinChunk.l0 k x40_7 x40_20 x40_21 (wrap64 (x40_22 + 1)) x40_5_0 x40_5_1 x40_5_2 x40_5_3 x40_5_4 x40_6_0 x40_6_1 x40_6_2 (x40_6_3.set x40_8.toNat true) x40_6_4 l1) else none) else none
def impl_JoinChunk.l1 : Nat → (List S92) → Int → (List S70) → Int → Int → Int → Int → Int → (List S70) → (List S70) → (List Bool) → Int → Int → (List S70) → (List S70) → (List Bool) → Int → Int → Int → Int → (List S70) → Option ((List S92) × Int × (List S70) × (List S70) × (List Bool) × Int)
 | 0, _, _, _, _, _, _, _, _, _, _, _, _, _, _, _, _, _, _, _, _, _ => none
 | k + 1, x42_7, x42_8, x42_20, x42_21, x42_22, x42_50, x42_51, x42_5_0, x42_5_1, x42_5_2, x42_5_3, x42_5_4, x42_6_0, x42_6_1, x42_6_2, x42_6_3, x42_6_4, x42_9_0, x42_9_1, x42_9_2, l1 => if x42_51 < x42_50 then (if 0 ≤ x42_51 then (if x42_51 < (l1.length : Int) then (if ((rd_T70 l1 x42_51).f0) = x42_9_0 then (if x42_7.length < 2513169434916 then (impl_JoinChunk.l1 k (x42_7 ++ ([(⟨(⟨x42_9_0, x42_9_1, x42_9_2⟩ : S70), (⟨(rd_T70 l1 x42_51).f0, (rd_T70 l1 x42_51).f1, (rd_T70 l1 x42_51).f2⟩ : S70), true⟩ : S92)] : List S92)) x42_8 x42_20 x42_21 x42_22 x42_50 (wrap64 (x42_51 + 1)) x42_5_0 x42_5_1 x42_5_2 x42_5_3 x42_5_4 x42_6_0 x42_6_1 x42_6_2 x42_6_3 x42_6_4 x42_9_0 x42_9_1 x42_9_2 l1) else none) else (impl_JoinChunk.l1 k x42_7 x42_8 x42_20 x42_21 x42_22 x42_50 (wrap64 (x42_51 + 1)) x42_5_0 x42_5_1 x42_5_2 x42_5_3 x42_5_4 x42_6_0 x42_6_1 x42_6_2 x42_6_3 x42_6_4 x42_9_0 x42_9_1 x42_9_2 l1)) else none) else none) else (impl_JoinChunk.j0 k x42_7 x42_8 x42_20 x42_21 x42_22 x42_5_0 x42_5_1 x42_5_2 x42_5_3 x42_5_4 x42_6_0 x42_6_1 x42_6_2 x42_6_3 x42_6_4 l1)
def impl_JoinChunk.j1 : Nat → (List S92) → Int → (List S70) → Int → Int → Bool → Int → (List S70) → (List S70) → (List Bool) → Int → Int → (List S70) → (List S70) → (List Bool) → Int → Int → Int → Int → (List S70) → Option ((List S92) × Int × (List S70) × (List S70) × (List Bool) × Int)
 | 0, _, _, _, _, _, _, _, _, _, _, _, _, _, _, _, _, _, _, _, _ => none
 | k + 1, x41_7, x41_8, x41_20, x41_21, x41_22, x41_46, x41_5_0, x41_5_1, x41_5_2, x41_5_3, x41_5_4, x41_6_0, x41_6_1, x41_6_2, x41_6_3, x41_6_4, x41_9_0, x41_9_1, x41_9_2, l1 => if x41_46 = true then (impl_JoinChunk.l1 k x41_7 x41_8 x41_20 x41_21 x41_22 (l1.length : Int) 0 x41_5_0 x41_5_1 x41_5_2 x41_5_3 x41_5_4 x41_6_0 x41_6_1 x41_6_2 x41_6_3 x41_6_4 x41_9_0 x41_9_1 x41_9_2 l1) else (impl_JoinChunk.j0 k x41_7 x41_8 x41_20 x41_21 x41_22 x41_5_0 x41_5_1 x41_5_2 x41_5_3 x41_5_4 x41_6_0 x41_6_1 x41_6_2 x41_6_3 x41_6_4 l1)
def impl_JoinChunk.l0 : Nat → (List S92) → (List S70) → Int → Int → Int → (List S70) → (List S70) → (List Bool) → Int → Int → (List S70) → (List S70) → (List Bool) → Int → (List S70) → Option ((List S92) × Int × (List S70) × (List S70) × (List Bool) × Int)
 | 0, _, _, _, _, _, _, _, _, _, _, _, _, _, _, _ => none
 | k + 1, x22_7, x22_20, x22_21, x22_22, x22_5_0, x22_5_1, x22_5_2, x22_5_3, x22_5_4, x22_6_0, x22_6_1, x22_6_2, x22_6_3, x22_6_4, l1 => if x22_22 < x22_21 then (if 0 ≤ x22_22 then (if x22_22 < (x22_20.length : Int) then ((impl_CountMatches.f k ((rd_T70 x22_20 x22_22).f0) ((rd_T70 x22_20 x22_22).f1) ((rd_T70 x22_20 x22_22).f2) l1).bind fun t8 => (if t8 = 0 then (impl_JoinChunk.l0 k x22_7 x22_20 x22_21 (wrap64 (x22_22 + 1)) x22_5_0 x22_5_1 x22_5_2 x22_5_3 x22_5_4 x22_6_0 x22_6_1 x22_6_2 x22_6_3 x22_6_4 l1) else (if x22_6_0 = 2 then (if x22_22 < (x22_6_3.length : Int) then (if (rdOf false x22_6_3 x22_22) = true then (impl_JoinChunk.j0 k x22_7 x22_22 x22_20 x22_21 x22_22 x22_5_0 x22_5_1 x22_5_2 x22_5_3 x22_5_4 x22_6_0 x22_6_1 x22_6_2 x22_6_3 x22_6_4 l1) else (if x22_7.length < 2513169434916 then (impl_JoinChunk.j0 k (x22_7 ++ ([(⟨(⟨(rd_T70 x22_20 x22_22).f0, (rd_T70 x22_20 x22_22).f1, (rd_T70 x22_20 x22_22).f2⟩ : S70), (⟨0, 0, 0⟩ : S70), false⟩ : S92)] : List S92)) x22_22 x22_20 x22_21 x22_22 x22_5_0 x22_5_1 x22_5_2 x22_5_3 x22_5_4 x22_6_0 x22_6_1 x22_6_2 x22_6_3 x22_6_4 l1) else none)) else none) else (if x22_6_0 = 1 then (impl_JoinChunk.j1 k x22_7 x22_22 x22_20 x22_21 x22_22 (decide (x22_6_0 = 1)) x22_5_0 x22_5_1 x22_5_2 x22_5_3 x22_5_4 x22_6_0 x22_6_1 x22_6_2 x22_6_3 x22_6_4 ((rd_T70 x22_20 x22_22).f0) ((rd_T70 x22_20 x22_22).f1) ((rd_T70 x22_20 x22_22).f2) l1) else (impl_JoinChunk.j1 k x22_7 x22_22 x22_20 x22_21 x22_22 (decide (x22_6_0 = 4)) x22_5_0 x22_5_1 x22_5_2 x22_5_3 x22_5_4 x22_6_0 x22_6_1 x22_6_2 x22_6_3 x22_6_4 ((rd_T70 x22_20 x22_22).f0) ((rd_T70 x22_20 x22_22).f1) ((rd_T70 x22_20 x22_22).f2) l1))))) else none) else none) else (some (x22_7, x22_6_0, x22_6_1, x22_6_2, x22_6_3, x22_6_4))
end
def impl_JoinChunk.f (k : Nat) (a0_0 : Int) (l0_1 : List S70) (l0_2 : List S70) (l0_3 : List Bool) (a0_4 : Int) (l1 : List S70) : Option ((List S92) × Int × (List S70) × (List S70) × (List Bool) × Int) := (impl_cloneTask.f a0_0 l0_1 l0_2 l0_3 a0_4).bind fun bt1 => ((impl_IsValidTask.f k a0_0 l0_1 l0_2 l0_3 a0_4).bind fun t2 => (if t2 = true then (impl_JoinChunk.l0 k [] bt1.2.1 (bt1.2.1.length : Int) 0 0 [] [] [] 0 bt1.1 bt1.2.1 bt1.2.2.1 bt1.2.2.2.1 bt1.2.2.2.2 l1) else (some ([], bt1.1, bt1.2.1, bt1.2.2.1, bt1.2.2.2.1, bt1.2.2.2.2))))
set_option maxHeartbeats 4000000 in
set_option maxRecDepth 100000 in
theorem impl_JoinChunk.ok (k : Nat) (a0_0 : Int) (l0_1 : List S70) (Al0_1 : Option Addr) (cl0_1 : Nat) (l0_2 : List S70) (Al0_2 : Option Addr) (cl0_2 : Nat) (l0_3 : List Bool) (Al0_3 : Option Addr) (cl0_3 : Nat) (a0_4 : Int) (l1 : List S70) (Al1 : Option Addr) (cl1 : Nat) (r0 : List S92) (r1 : Int) (r2 : List S70) (r3 : List S70) (r4 : List Bool) (r5 : Int) (H : impl_JoinChunk.f k a0_0 l0_1 l0_2 l0_3 a0_4 l1 = some (r0, r1, r2, r3, r4, r5)) : Fn Try.prog 25 [.agg #[.int .i64 a0_0, .slice Al0_1 l0_1.length cl0_1, .slice Al0_2 l0_2.length cl0_2, .slice Al0_3 l0_3.length cl0_3, .int .i64 a0_4], .slice Al1 l1.length cl1] [] [.sl 0 k70 Al0_1 cl0_1 l0_1 0 false, .sl 0 k70 Al0_2 cl0_2 l0_2 0 false, .sl 0 .bool Al0_3 cl0_3 l0_3 0 false, .sl 0 k70 Al1 cl1 l1 0 false] (fun v bx en => ∃ A0 c0 A2 c2 A3 c3 A4 c4, v = .tuple #[.slice A0 r0.length c0, .agg #[.int .i64 r1, .slice A2 r2.length c2, .slice A3 r3.length c3, .slice A4 r4.length c4, .int .i64 r5]] ∧ bx = [] ∧ en = [.sl 2 k92 A0 c0 r0 1 true, .sl 2 k70 A2 c2 r2 2 true, .sl 2 k70 A3 c3 r3 3 true, .sl 2 .bool A4 c4 r4 4 true]) := by
 refine fn_ 74 Try.func25 rfl rfl rfl (fun base T w0 => ?_)
 rw [impl_JoinChunk.f] at H
 refine gs (rg (so rfl (op_box (cs := [.int .i64 a0_0, .slice Al0_1 l0_1.length cl0_1, .slice Al0_2 l0_2.length cl0_2, .slice Al0_3 l0_3.length cl0_3, .int .i64 a0_4]) rfl rfl rfl fun b2 => (sv (EV.as rfl) rfl (so rfl (op_alloc (cs := [.int .i64 0, .slice none 0 0, .slice none 0 0, .slice none 0 0, .int .i64 0]) (by kernel_rfl) rfl fun b5 => (re (gs (rg (sv (EV.ld (v := .agg #[.int .i64 a0_0, .slice Al0_1 l0_1.length cl0_1, .slice Al0_2 l0_2.length cl0_2, .slice Al0_3 l0_3.length cl0_3, .int .i64 a0_4]) 0 (some 5) rfl rfl rfl) rfl ?_))))))))))
 revert H; refine bdI ?_; rintro ⟨t1_0, t1_1, t1_2, t1_3, t1_4⟩ A1 H
 refine so rfl (op_call (impl_cloneTask.ok a0_0 l0_1 Al0_1 cl0_1 l0_2 Al0_2 cl0_2 l0_3 Al0_3 cl0_3 a0_4 _ _ _ _ _ A1) [⟨0, 0, 0, false⟩, ⟨1, 0, 0, false⟩, ⟨2, 0, 0, false⟩] 1 rfl rfl rfl rfl rfl ?_)
 rintro _ _ _ ⟨At1_1, ct1_1, At1_2, ct1_2, At1_3, ct1_3, rfl, rfl, rfl⟩
 refine so rfl (op_alloc (cs := [.int .i64 0, .slice none 0 0, .slice none 0 0, .slice none 0 0, .int .i64 0]) (by kernel_rfl) rfl fun b6 => (so rfl (op_st (cs' := [.int .i64 t1_0, .slice At1_1 t1_1.length ct1_1, .slice At1_2 t1_2.length ct1_2, .slice At1_3 t1_3.length ct1_3, .int .i64 t1_4]) 2 rfl rfl rfl rfl rfl rfl (re (gs (gs (rg (sv (EV.ld (v := .agg #[.int .i64 a0_0, .slice Al0_1 l0_1.length cl0_1, .slice Al0_2 l0_2.length cl0_2, .slice Al0_3 l0_3.length cl0_3, .int .i64 a0_4]) 0 (some 5) rfl rfl rfl) rfl ?_))))))))
 revert H; refine bdI ?_; rintro t2 A2 H
 refine so rfl (op_call (impl_IsValidTask.ok k a0_0 l0_1 Al0_1 cl0_1 l0_2 Al0_2 cl0_2 l0_3 Al0_3 cl0_3 a0_4 _ A2) [⟨0, 0, 0, false⟩, ⟨1, 0, 0, false⟩, ⟨2, 0, 0, false⟩] 5 rfl rfl rfl rfl rfl ?_)
 rintro _ _ _ ⟨rfl, rfl, rfl⟩
 refine sv (EV.nt rfl) rfl (re (pr [1, 5, 6, 16] [1, 2] [3, 4, 5, 6] rfl rfl rfl rfl ?_))
 revert H; refine ifsI ?_ ?_ <;> intro c3 H
 ·
  subst c3
  refine gf rfl rfl (gk (gs (rg (so rfl (op_lit (s := 7) (by_ := 56) k92 ([] : List S92) [] [] 5 [] rfl rfl rfl rfl rfl rfl rfl rfl rfl rfl rfl rfl rfl dq rfl fun A18_4 c18_4 => (sv (EV.as rfl) rfl (re (gs (gs (rg (sv (EV.fa 1 rfl) rfl (sv (EV.ld 1 none rfl rfl rfl) rfl (sv (EV.ln rfl) rfl (sv (EV.mv rfl) rfl (re (gb (nil_ k70 6 dq (nil_ k70 7 dq (nil_ .bool 8 dq ?_)))))))))))))))))))
  refine lo (fun kk S => ∃ (x22_7 : List S92) (Ax22_7 : Option Addr) (cx22_7 : Nat) (x22_20 : List S70) (Ax22_20 : Option Addr) (cx22_20 : Nat) (x22_21 : Int) (x22_22 : Int) (x22_5_0 : Int) (x22_5_1 : List S70) (Ax22_5_1 : Option Addr) (cx22_5_1 : Nat) (x22_5_2 : List S70) (Ax22_5_2 : Option Addr) (cx22_5_2 : Nat) (x22_5_3 : List Bool) (Ax22_5_3 : Option Addr) (cx22_5_3 : Nat) (x22_5_4 : Int) (x22_6_0 : Int) (x22_6_1 : List S70) (Ax22_6_1 : Option Addr) (cx22_6_1 : Nat) (x22_6_2 : List S70) (Ax22_6_2 : Option Addr) (cx22_6_2 : Nat) (x22_6_3 : List Bool) (Ax22_6_3 : Option Addr) (cx22_6_3 : Nat) (x22_6_4 : Int), impl_JoinChunk.l0 kk x22_7 x22_20 x22_21 x22_22 x22_5_0 x22_5_1 x22_5_2 x22_5_3 x22_5_4 x22_6_0 x22_6_1 x22_6_2 x22_6_3 x22_6_4 l1 = some (r0, r1, r2, r3, r4, r5) ∧ S = ⟨[(1, .slice Al1 l1.length cl1), (5, .pointer (some ⟨b5, 0, none⟩)), (6, .pointer (some ⟨b6, 0, none⟩)), (7, .slice Ax22_7 x22_7.length cx22_7), (20, .slice Ax22_20 x22_20.length cx22_20), (21, .int .i64 x22_21), (22, .int .i64 x22_22)], [⟨b5, 44, [.int .i64 x22_5_0, .slice Ax22_5_1 x22_5_1.length cx22_5_1, .slice Ax22_5_2 x22_5_2.length cx22_5_2, .slice Ax22_5_3 x22_5_3.length cx22_5_3, .int .i64 x22_5_4]⟩, ⟨b6, 44, [.int .i64 x22_6_0, .slice Ax22_6_1 x22_6_1.length cx22_6_1, .slice Ax22_6_2 x22_6_2.length cx22_6_2, .slice Ax22_6_3 x22_6_3.length cx22_6_3, .int .i64 x22_6_4]⟩], [.sl 2 k92 Ax22_7 cx22_7 x22_7 1 true, .sl 2 k70 Ax22_20 cx22_20 x22_20 2 true, .sl 2 k70 Ax22_5_1 cx22_5_1 x22_5_1 3 true, .sl 2 k70 Ax22_5_2 cx22_5_2 x22_5_2 4 true, .sl 2 .bool Ax22_5_3 cx22_5_3 x22_5_3 5 true, .sl 2 k70 Ax22_6_1 cx22_6_1 x22_6_1 2 true, .sl 2 k70 Ax22_6_2 cx22_6_2 x22_6_2 6 true, .sl 2 .bool Ax22_6_3 cx22_6_3 x22_6_3 7 true, .sl 0 k70 Al1 cl1 l1 0 false]⟩) (fun S hS => ?_) (fun n0 ih0 S hS => ?_) ⟨[], A18_4, c18_4, t1_1, At1_1, ct1_1, (t1_1.length : Int), 0, 0, [], none, 0, [], none, 0, [], none, 0, 0, t1_0, t1_1, At1_1, ct1_1, t1_2, At1_2, ct1_2, t1_3, At1_3, ct1_3, t1_4, H, rfl⟩ (fun h => wk [1, 5, 6, 7, 20, 21, 22] [0, 1] [⟨4, 2, 1, true⟩, ⟨1, 2, 2, true⟩, ⟨5, 2, 3, true⟩, ⟨6, 2, 4, true⟩, ⟨7, 2, 5, true⟩, ⟨1, 2, 2, true⟩, ⟨2, 2, 6, true⟩, ⟨3, 2, 7, true⟩, ⟨0, 0, 0, false⟩] h)
  · clear H; obtain ⟨_, _, _, _, _, _, _, _, _, _, _, _, _, _, _, _, _, _, _, _, _, _, _, _, _, _, _, _, _, _, H, _⟩ := hS; rw [impl_JoinChunk.l0] at H; cases H
  clear H
  obtain ⟨x22_7, Ax22_7, cx22_7, x22_20, Ax22_20, cx22_20, x22_21, x22_22, x22_5_0, x22_5_1, Ax22_5_1, cx22_5_1, x22_5_2, Ax22_5_2, cx22_5_2, x22_5_3, Ax22_5_3, cx22_5_3, x22_5_4, x22_6_0, x22_6_1, Ax22_6_1, cx22_6_1, x22_6_2, Ax22_6_2, cx22_6_2, x22_6_3, Ax22_6_3, cx22_6_3, x22_6_4, H, rfl⟩ := hS
  rw [impl_JoinChunk.l0] at H
  refine gs (rg (sv (EV.lss rfl rfl) rfl (re (gs ?_))))
  revert H; refine ifsI ?_ ?_ <;> intro c5 H
  ·
   refine gt rfl (dT c5) (gk (gs (gb (gs (rg (sv (EV.mv rfl) rfl ?_))))))
   revert H; refine ggI ?_; intro g6 H
   revert H; refine ggI ?_; intro g7 H
   refine sv (EV.ix 1 rfl rfl rfl g6 g7 rfl) rfl (sv (EV.le (v := .agg #[.int .i64 ((rd_T70 x22_20 x22_22).f0), .int .i64 ((rd_T70 x22_20 x22_22).f1), .int .i64 ((rd_T70 x22_20 x22_22).f2)]) x22_22 0 (some 3) 1 z70 rfl rfl rfl g6 g7 rfl rfl rfl) rfl (so rfl (op_alloc (cs := [.int .i64 0, .int .i64 0, .int .i64 0]) (by kernel_rfl) rfl fun b9 => (sv (EV.as rfl) rfl (so rfl (op_st (cs' := [.int .i64 ((rd_T70 x22_20 x22_22).f0), .int .i64 ((rd_T70 x22_20 x22_22).f1), .int .i64 ((rd_T70 x22_20 x22_22).f2)]) 2 rfl rfl rfl rfl rfl rfl (re (gs (gs (rg (sv (EV.ld (v := .agg #[.int .i64 ((rd_T70 x22_20 x22_22).f0), .int .i64 ((rd_T70 x22_20 x22_22).f1), .int .i64 ((rd_T70 x22_20 x22_22).f2)]) 2 (some 3) rfl rfl rfl) rfl (sv (EV.mv rfl) rfl ?_))))))))))))
   revert H; refine bdI ?_; rintro t8 A8 H
   refine so rfl (op_call (impl_CountMatches.ok n0 ((rd_T70 x22_20 x22_22).f0) ((rd_T70 x22_20 x22_22).f1) ((rd_T70 x22_20 x22_22).f2) l1 Al1 cl1 _ A8) [⟨8, 0, 0, false⟩] 8 rfl rfl rfl rfl rfl ?_)
   rintro _ _ _ ⟨rfl, rfl, rfl⟩
   refine sv (EV.eql rfl rfl) rfl (re (pr [1, 5, 6, 7, 8, 9, 20, 21, 22, 30] [0, 1, 2] [0, 1, 2, 3, 4, 5, 6, 7, 8] rfl rfl rfl rfl ?_))
   revert H; refine ifsI ?_ ?_ <;> intro c9 H
   ·
    exact gt rfl (dT c9) (gx rfl (rg (sv (EV.add rfl rfl) rfl (sv (EV.mv rfl) rfl (re (wk [1, 5, 6, 7, 20, 21, 22] [0, 1] [⟨0, 2, 1, true⟩, ⟨1, 2, 2, true⟩, ⟨2, 2, 3, true⟩, ⟨3, 2, 4, true⟩, ⟨4, 2, 5, true⟩, ⟨5, 2, 2, true⟩, ⟨6, 2, 6, true⟩, ⟨7, 2, 7, true⟩, ⟨8, 0, 0, false⟩] (ih0 _ (by omega) _ ⟨x22_7, Ax22_7, cx22_7, x22_20, Ax22_20, cx22_20, x22_21, wrap64 (x22_22 + 1), x22_5_0, x22_5_1, Ax22_5_1, cx22_5_1, x22_5_2, Ax22_5_2, cx22_5_2, x22_5_3, Ax22_5_3, cx22_5_3, x22_5_4, x22_6_0, x22_6_1, Ax22_6_1, cx22_6_1, x22_6_2, Ax22_6_2, cx22_6_2, x22_6_3, Ax22_6_3, cx22_6_3, x22_6_4, H, rfl⟩)))))))
   ·
    refine gf rfl (dF c9) (gk ?_)
    refine jo (fun S => ∃ (m : Nat) (x40_7 : List S92) (Ax40_7 : Option Addr) (cx40_7 : Nat) (x40_8 : Int) (x40_20 : List S70) (Ax40_20 : Option Addr) (cx40_20 : Nat) (x40_21 : Int) (x40_22 : Int) (x40_5_0 : Int) (x40_5_1 : List S70) (Ax40_5_1 : Option Addr) (cx40_5_1 : Nat) (x40_5_2 : List S70) (Ax40_5_2 : Option Addr) (cx40_5_2 : Nat) (x40_5_3 : List Bool) (Ax40_5_3 : Option Addr) (cx40_5_3 : Nat) (x40_5_4 : Int) (x40_6_0 : Int) (x40_6_1 : List S70) (Ax40_6_1 : Option Addr) (cx40_6_1 : Nat) (x40_6_2 : List S70) (Ax40_6_2 : Option Addr) (cx40_6_2 : Nat) (x40_6_3 : List Bool) (Ax40_6_3 : Option Addr) (cx40_6_3 : Nat) (x40_6_4 : Int), m ≤ n0 ∧ impl_JoinChunk.j0 m x40_7 x40_8 x40_20 x40_21 x40_22 x40_5_0 x40_5_1 x40_5_2 x40_5_3 x40_5_4 x40_6_0 x40_6_1 x40_6_2 x40_6_3 x40_6_4 l1 = some (r0, r1, r2, r3, r4, r5) ∧ S = ⟨[(1, .slice Al1 l1.length cl1), (5, .pointer (some ⟨b5, 0, none⟩)), (6, .pointer (some ⟨b6, 0, none⟩)), (7, .slice Ax40_7 x40_7.length cx40_7), (8, .int .i64 x40_8), (20, .slice Ax40_20 x40_20.length cx40_20), (21, .int .i64 x40_21), (22, .int .i64 x40_22)], [⟨b5, 44, [.int .i64 x40_5_0, .slice Ax40_5_1 x40_5_1.length cx40_5_1, .slice Ax40_5_2 x40_5_2.length cx40_5_2, .slice Ax40_5_3 x40_5_3.length cx40_5_3, .int .i64 x40_5_4]⟩, ⟨b6, 44, [.int .i64 x40_6_0, .slice Ax40_6_1 x40_6_1.length cx40_6_1, .slice Ax40_6_2 x40_6_2.length cx40_6_2, .slice Ax40_6_3 x40_6_3.length cx40_6_3, .int .i64 x40_6_4]⟩], [.sl 2 k92 Ax40_7 cx40_7 x40_7 1 true, .sl 2 k70 Ax40_20 cx40_20 x40_20 2 true, .sl 2 k70 Ax40_5_1 cx40_5_1 x40_5_1 3 true, .sl 2 k70 Ax40_5_2 cx40_5_2 x40_5_2 4 true, .sl 2 .bool Ax40_5_3 cx40_5_3 x40_5_3 5 true, .sl 2 k70 Ax40_6_1 cx40_6_1 x40_6_1 2 true, .sl 2 k70 Ax40_6_2 cx40_6_2 x40_6_2 6 true, .sl 2 .bool Ax40_6_3 cx40_6_3 x40_6_3 7 true, .sl 0 k70 Al1 cl1 l1 0 false]⟩) (fun S hS => ?_) (fun jh0 => ?_)
    ·
     clear H
     obtain ⟨m10, x40_7, Ax40_7, cx40_7, x40_8, x40_20, Ax40_20, cx40_20, x40_21, x40_22, x40_5_0, x40_5_1, Ax40_5_1, cx40_5_1, x40_5_2, Ax40_5_2, cx40_5_2, x40_5_3, Ax40_5_3, cx40_5_3, x40_5_4, x40_6_0, x40_6_1, Ax40_6_1, cx40_6_1, x40_6_2, Ax40_6_2, cx40_6_2, x40_6_3, Ax40_6_3, cx40_6_3, x40_6_4, lm10, H, rfl⟩ := hS
     rcases m10 with _ | m10
     · rw [impl_JoinChunk.j0] at H; cases H
     rw [impl_JoinChunk.j0] at H
     refine rg (sv (EV.fa 3 rfl) rfl (sv (EV.ld 1 none rfl rfl rfl) rfl (sv (EV.mv rfl) rfl ?_)))
     revert H; refine ggI ?_; intro g11 H
     revert H; refine ggI ?_; intro g12 H
     exact sv (EV.ix 7 rfl rfl rfl g11 g12 rfl) rfl (so rfl (op_stf x40_8 0 7 false true rfl rfl rfl rfl g11 g12 rfl rfl rfl rfl dq rfl (rlT 68 (v' := .slice Ax40_6_3 (x40_6_3.set x40_8.toNat true).length cx40_6_3) rfl (sle _ _ _ _ _) (rlB 1 (cs' := [.int .i64 x40_6_0, .slice Ax40_6_1 x40_6_1.length cx40_6_1, .slice Ax40_6_2 x40_6_2.length cx40_6_2, .slice Ax40_6_3 (x40_6_3.set x40_8.toNat true).length cx40_6_3, .int .i64 x40_6_4]) rfl (by simp only [List.length_set]) (nmE (en := [.sl 2 k92 Ax40_7 cx40_7 x40_7 1 true, .sl 2 k70 Ax40_20 cx40_20 x40_20 2 true, .sl 2 k70 Ax40_5_1 cx40_5_1 x40_5_1 3 true, .sl 2 k70 Ax40_5_2 cx40_5_2 x40_5_2 4 true, .sl 2 .bool Ax40_5_3 cx40_5_3 x40_5_3 5 true, .sl 2 k70 Ax40_6_1 cx40_6_1 x40_6_1 2 true, .sl 2 k70 Ax40_6_2 cx40_6_2 x40_6_2 6 true, .sl 0 k70 Al1 cl1 l1 0 false, .sl 2 .bool Ax40_6_3 cx40_6_3 (x40_6_3.set x40_8.toNat true) 7 true]) (by kernel_rfl) (re (ge (rg (sv (EV.add rfl rfl) rfl (sv (EV.mv rfl) rfl (re (wk [1, 5, 6, 7, 20, 21, 22] [0, 1] [⟨0, 2, 1, true⟩, ⟨1, 2, 2, true⟩, ⟨2, 2, 3, true⟩, ⟨3, 2, 4, true⟩, ⟨4, 2, 5, true⟩, ⟨5, 2, 2, true⟩, ⟨6, 2, 6, true⟩, ⟨8, 2, 7, true⟩, ⟨7, 0, 0, false⟩] (ih0 _ (by omega) _ ⟨x40_7, Ax40_7, cx40_7, x40_20, Ax40_20, cx40_20, x40_21, wrap64 (x40_22 + 1), x40_5_0, x40_5_1, Ax40_5_1, cx40_5_1, x40_5_2, Ax40_5_2, cx40_5_2, x40_5_3, Ax40_5_3, cx40_5_3, x40_5_4, x40_6_0, x40_6_1, Ax40_6_1, cx40_6_1, x40_6_2, Ax40_6_2, cx40_6_2, x40_6_3.set x40_8.toNat true, Ax40_6_3, cx40_6_3, x40_6_4, H, rfl⟩)))))))))))))
    ·
     refine gs (rg (sv (EV.fa 0 rfl) rfl (sv (EV.ld 1 none rfl rfl rfl) rfl (re (gb (gs (rg (sv (EV.eql rfl rfl) rfl (sv (EV.as rfl) rfl (re ?_))))))))))
     revert H; refine ifsI ?_ ?_ <;> intro c13 H
     ·
      refine gt rfl (dT c13) (gs (rg (sv (EV.fa 3 rfl) rfl (sv (EV.ld 1 none rfl rfl rfl) rfl (sv (EV.mv rfl) rfl ?_)))))
      revert H; refine ggI ?_; intro g14 H
      refine sv (EV.ix 7 rfl rfl rfl g6 g14 rfl) rfl (sv (EV.le (v := .bool (rdOf false x22_6_3 x22_22)) x22_22 0 none 7 false rfl rfl rfl g6 g14 rfl rfl rfl) rfl (sv (EV.nt rfl) rfl (re (pr [1, 5, 6, 7, 8, 9, 20, 21, 22, 40] [0, 1, 2] [0, 1, 2, 3, 4, 5, 6, 7, 8] rfl rfl rfl rfl ?_))))
      revert H; refine ifsI ?_ ?_ <;> intro c15 H
      ·
       exact gf rfl (bN c15) (gk (ge (wk [1, 5, 6, 7, 8, 20, 21, 22] [0, 1] [⟨0, 2, 1, true⟩, ⟨1, 2, 2, true⟩, ⟨2, 2, 3, true⟩, ⟨3, 2, 4, true⟩, ⟨4, 2, 5, true⟩, ⟨5, 2, 2, true⟩, ⟨6, 2, 6, true⟩, ⟨7, 2, 7, true⟩, ⟨8, 0, 0, false⟩] (jh0 _ ⟨_, x22_7, Ax22_7, cx22_7, x22_22, x22_20, Ax22_20, cx22_20, x22_21, x22_22, x22_5_0, x22_5_1, Ax22_5_1, cx22_5_1, x22_5_2, Ax22_5_2, cx22_5_2, x22_5_3, Ax22_5_3, cx22_5_3, x22_5_4, x22_6_0, x22_6_1, Ax22_6_1, cx22_6_1, x22_6_2, Ax22_6_2, cx22_6_2, x22_6_3, Ax22_6_3, cx22_6_3, x22_6_4, by omega, H, rfl⟩))))
      ·
       refine gt rfl (bM c15) (rg (sv (EV.mv rfl) rfl (sv (EV.ld (v := .agg #[.int .i64 ((rd_T70 x22_20 x22_22).f0), .int .i64 ((rd_T70 x22_20 x22_22).f1), .int .i64 ((rd_T70 x22_20 x22_22).f2)]) 2 (some 3) rfl rfl rfl) rfl (sv (EV.bd (v := .agg #[.int .i64 ((rd_T70 x22_20 x22_22).f0), .int .i64 ((rd_T70 x22_20 x22_22).f1), .int .i64 ((rd_T70 x22_20 x22_22).f2), .int .i64 0, .int .i64 0, .int .i64 0, .bool false]) rfl (by kernel_rfl)) rfl (so rfl (op_lit (s := 7) (by_ := 56) k92 ([(⟨(⟨(rd_T70 x22_20 x22_22).f0, (rd_T70 x22_20 x22_22).f1, (rd_T70 x22_20 x22_22).f2⟩ : S70), (⟨0, 0, 0⟩ : S70), false⟩ : S92)] : List S92) [[]] [] 8 [.tmp 43] rfl rfl rfl rfl rfl rfl rfl rfl rfl rfl rfl rfl rfl dq rfl fun A44_16 c44_16 => ?_))))))
       revert H; refine ggI ?_; intro g17 H
       exact so rfl (op_app (k := k92) (s := 7) (by_ := 56) 0 9 rfl rfl rfl rfl (ap1 g17 dq) (ap1n g17 dq) (.inl rfl) true (fun _ => .inl rfl) rfl rfl fun A45_18 c45_18 => (nmE (en := [.sl 2 k70 Ax22_20 cx22_20 x22_20 2 true, .sl 2 k70 Ax22_5_1 cx22_5_1 x22_5_1 3 true, .sl 2 k70 Ax22_5_2 cx22_5_2 x22_5_2 4 true, .sl 2 .bool Ax22_5_3 cx22_5_3 x22_5_3 5 true, .sl 2 k70 Ax22_6_1 cx22_6_1 x22_6_1 2 true, .sl 2 k70 Ax22_6_2 cx22_6_2 x22_6_2 6 true, .sl 2 .bool Ax22_6_3 cx22_6_3 x22_6_3 7 true, .sl 0 k70 Al1 cl1 l1 0 false, .sl 2 k92 A44_16 c44_16 ([(⟨(⟨(rd_T70 x22_20 x22_22).f0, (rd_T70 x22_20 x22_22).f1, (rd_T70 x22_20 x22_22).f2⟩ : S70), (⟨0, 0, 0⟩ : S70), false⟩ : S92)] : List S92) 8 true, .sl 2 k92 A45_18 c45_18 (x22_7 ++ ([(⟨(⟨(rd_T70 x22_20 x22_22).f0, (rd_T70 x22_20 x22_22).f1, (rd_T70 x22_20 x22_22).f2⟩ : S70), (⟨0, 0, 0⟩ : S70), false⟩ : S92)] : List S92)) 1 true]) (by kernel_rfl) (sv (EV.as rfl) rfl (re (pr [1, 5, 6, 7, 8, 20, 21, 22] [0, 1] [0, 1, 2, 3, 4, 5, 6, 7, 9] rfl rfl rfl rfl (ge (wk [1, 5, 6, 7, 8, 20, 21, 22] [0, 1] [⟨8, 2, 1, true⟩, ⟨0, 2, 2, true⟩, ⟨1, 2, 3, true⟩, ⟨2, 2, 4, true⟩, ⟨3, 2, 5, true⟩, ⟨4, 2, 2, true⟩, ⟨5, 2, 6, true⟩, ⟨6, 2, 7, true⟩, ⟨7, 0, 0, false⟩] (jh0 _ ⟨_, x22_7 ++ ([(⟨(⟨(rd_T70 x22_20 x22_22).f0, (rd_T70 x22_20 x22_22).f1, (rd_T70 x22_20 x22_22).f2⟩ : S70), (⟨0, 0, 0⟩ : S70), false⟩ : S92)] : List S92), A45_18, c45_18, x22_22, x22_20, Ax22_20, cx22_20, x22_21, x22_22, x22_5_0, x22_5_1, Ax22_5_1, cx22_5_1, x22_5_2, Ax22_5_2, cx22_5_2, x22_5_3, Ax22_5_3, cx22_5_3, x22_5_4, x22_6_0, x22_6_1, Ax22_6_1, cx22_6_1, x22_6_2, Ax22_6_2, cx22_6_2, x22_6_3, Ax22_6_3, cx22_6_3, x22_6_4, by omega, H, rfl⟩))))))))
     ·
      refine gf rfl (dF c13) ?_
      refine jo (fun S => ∃ (m : Nat) (x41_7 : List S92) (Ax41_7 : Option Addr) (cx41_7 : Nat) (x41_8 : Int) (x41_20 : List S70) (Ax41_20 : Option Addr) (cx41_20 : Nat) (x41_21 : Int) (x41_22 : Int) (x41_46 : Bool) (x41_5_0 : Int) (x41_5_1 : List S70) (Ax41_5_1 : Option Addr) (cx41_5_1 : Nat) (x41_5_2 : List S70) (Ax41_5_2 : Option Addr) (cx41_5_2 : Nat) (x41_5_3 : List Bool) (Ax41_5_3 : Option Addr) (cx41_5_3 : Nat) (x41_5_4 : Int) (x41_6_0 : Int) (x41_6_1 : List S70) (Ax41_6_1 : Option Addr) (cx41_6_1 : Nat) (x41_6_2 : List S70) (Ax41_6_2 : Option Addr) (cx41_6_2 : Nat) (x41_6_3 : List Bool) (Ax41_6_3 : Option Addr) (cx41_6_3 : Nat) (x41_6_4 : Int) (x41_9_0 : Int) (x41_9_1 : Int) (x41_9_2 : Int), m ≤ n0 ∧ impl_JoinChunk.j1 m x41_7 x41_8 x41_20 x41_21 x41_22 x41_46 x41_5_0 x41_5_1 x41_5_2 x41_5_3 x41_5_4 x41_6_0 x41_6_1 x41_6_2 x41_6_3 x41_6_4 x41_9_0 x41_9_1 x41_9_2 l1 = some (r0, r1, r2, r3, r4, r5) ∧ S = ⟨[(1, .slice Al1 l1.length cl1), (5, .pointer (some ⟨b5, 0, none⟩)), (6, .pointer (some ⟨b6, 0, none⟩)), (7, .slice Ax41_7 x41_7.length cx41_7), (8, .int .i64 x41_8), (9, .pointer (some ⟨b9, 0, none⟩)), (20, .slice Ax41_20 x41_20.length cx41_20), (21, .int .i64 x41_21), (22, .int .i64 x41_22), (46, .bool x41_46)], [⟨b5, 44, [.int .i64 x41_5_0, .slice Ax41_5_1 x41_5_1.length cx41_5_1, .slice Ax41_5_2 x41_5_2.length cx41_5_2, .slice Ax41_5_3 x41_5_3.length cx41_5_3, .int .i64 x41_5_4]⟩, ⟨b6, 44, [.int .i64 x41_6_0, .slice Ax41_6_1 x41_6_1.length cx41_6_1, .slice Ax41_6_2 x41_6_2.length cx41_6_2, .slice Ax41_6_3 x41_6_3.length cx41_6_3, .int .i64 x41_6_4]⟩, ⟨b9, 70, [.int .i64 x41_9_0, .int .i64 x41_9_1, .int .i64 x41_9_2]⟩], [.sl 2 k92 Ax41_7 cx41_7 x41_7 1 true, .sl 2 k70 Ax41_20 cx41_20 x41_20 2 true, .sl 2 k70 Ax41_5_1 cx41_5_1 x41_5_1 3 true, .sl 2 k70 Ax41_5_2 cx41_5_2 x41_5_2 4 true, .sl 2 .bool Ax41_5_3 cx41_5_3 x41_5_3 5 true, .sl 2 k70 Ax41_6_1 cx41_6_1 x41_6_1 2 true, .sl 2 k70 Ax41_6_2 cx41_6_2 x41_6_2 6 true, .sl 2 .bool Ax41_6_3 cx41_6_3 x41_6_3 7 true, .sl 0 k70 Al1 cl1 l1 0 false]⟩) (fun S hS => ?_) (fun jh1 => ?_)
      ·
       clear H
       obtain ⟨m19, x41_7, Ax41_7, cx41_7, x41_8, x41_20, Ax41_20, cx41_20, x41_21, x41_22, x41_46, x41_5_0, x41_5_1, Ax41_5_1, cx41_5_1, x41_5_2, Ax41_5_2, cx41_5_2, x41_5_3, Ax41_5_3, cx41_5_3, x41_5_4, x41_6_0, x41_6_1, Ax41_6_1, cx41_6_1, x41_6_2, Ax41_6_2, cx41_6_2, x41_6_3, Ax41_6_3, cx41_6_3, x41_6_4, x41_9_0, x41_9_1, x41_9_2, lm19, H, rfl⟩ := hS
       rcases m19 with _ | m19
       · rw [impl_JoinChunk.j1] at H; cases H
       rw [impl_JoinChunk.j1] at H
       revert H; refine ifsI ?_ ?_ <;> intro c20 H
       ·
        subst c20
        refine gt rfl rfl (gs (rg (sv (EV.mv rfl) rfl (sv (EV.ln rfl) rfl (sv (EV.mv rfl) rfl (re (gb ?_)))))))
        refine lo (fun kk S => ∃ (x42_7 : List S92) (Ax42_7 : Option Addr) (cx42_7 : Nat) (x42_8 : Int) (x42_20 : List S70) (Ax42_20 : Option Addr) (cx42_20 : Nat) (x42_21 : Int) (x42_22 : Int) (x42_50 : Int) (x42_51 : Int) (x42_5_0 : Int) (x42_5_1 : List S70) (Ax42_5_1 : Option Addr) (cx42_5_1 : Nat) (x42_5_2 : List S70) (Ax42_5_2 : Option Addr) (cx42_5_2 : Nat) (x42_5_3 : List Bool) (Ax42_5_3 : Option Addr) (cx42_5_3 : Nat) (x42_5_4 : Int) (x42_6_0 : Int) (x42_6_1 : List S70) (Ax42_6_1 : Option Addr) (cx42_6_1 : Nat) (x42_6_2 : List S70) (Ax42_6_2 : Option Addr) (cx42_6_2 : Nat) (x42_6_3 : List Bool) (Ax42_6_3 : Option Addr) (cx42_6_3 : Nat) (x42_6_4 : Int) (x42_9_0 : Int) (x42_9_1 : Int) (x42_9_2 : Int), kk ≤ m19 ∧ impl_JoinChunk.l1 kk x42_7 x42_8 x42_20 x42_21 x42_22 x42_50 x42_51 x42_5_0 x42_5_1 x42_5_2 x42_5_3 x42_5_4 x42_6_0 x42_6_1 x42_6_2 x42_6_3 x42_6_4 x42_9_0 x42_9_1 x42_9_2 l1 = some (r0, r1, r2, r3, r4, r5) ∧ S = ⟨[(1, .slice Al1 l1.length cl1), (5, .pointer (some ⟨b5, 0, none⟩)), (6, .pointer (some ⟨b6, 0, none⟩)), (7, .slice Ax42_7 x42_7.length cx42_7), (8, .int .i64 x42_8), (9, .pointer (some ⟨b9, 0, none⟩)), (20, .slice Ax42_20 x42_20.length cx42_20), (21, .int .i64 x42_21), (22, .int .i64 x42_22), (49, .slice Al1 l1.length cl1), (50, .int .i64 x42_50), (51, .int .i64 x42_51)], [⟨b5, 44, [.int .i64 x42_5_0, .slice Ax42_5_1 x42_5_1.length cx42_5_1, .slice Ax42_5_2 x42_5_2.length cx42_5_2, .slice Ax42_5_3 x42_5_3.length cx42_5_3, .int .i64 x42_5_4]⟩, ⟨b6, 44, [.int .i64 x42_6_0, .slice Ax42_6_1 x42_6_1.length cx42_6_1, .slice Ax42_6_2 x42_6_2.length cx42_6_2, .slice Ax42_6_3 x42_6_3.length cx42_6_3, .int .i64 x42_6_4]⟩, ⟨b9, 70, [.int .i64 x42_9_0, .int .i64 x42_9_1, .int .i64 x42_9_2]⟩], [.sl 2 k92 Ax42_7 cx42_7 x42_7 1 true, .sl 2 k70 Ax42_20 cx42_20 x42_20 2 true, .sl 2 k70 Ax42_5_1 cx42_5_1 x42_5_1 3 true, .sl 2 k70 Ax42_5_2 cx42_5_2 x42_5_2 4 true, .sl 2 .bool Ax42_5_3 cx42_5_3 x42_5_3 5 true, .sl 2 k70 Ax42_6_1 cx42_6_1 x42_6_1 2 true, .sl 2 k70 Ax42_6_2 cx42_6_2 x42_6_2 6 true, .sl 2 .bool Ax42_6_3 cx42_6_3 x42_6_3 7 true, .sl 0 k70 Al1 cl1 l1 0 false]⟩) (fun S hS => ?_) (fun n1 ih1 S hS => ?_) ⟨x41_7, Ax41_7, cx41_7, x41_8, x41_20, Ax41_20, cx41_20, x41_21, x41_22, (l1.length : Int), 0, x41_5_0, x41_5_1, Ax41_5_1, cx41_5_1, x41_5_2, Ax41_5_2, cx41_5_2, x41_5_3, Ax41_5_3, cx41_5_3, x41_5_4, x41_6_0, x41_6_1, Ax41_6_1, cx41_6_1, x41_6_2, Ax41_6_2, cx41_6_2, x41_6_3, Ax41_6_3, cx41_6_3, x41_6_4, x41_9_0, x41_9_1, x41_9_2, by omega, H, rfl⟩ (fun h => wk [1, 5, 6, 7, 8, 9, 20, 21, 22, 49, 50, 51] [0, 1, 2] [⟨0, 2, 1, true⟩, ⟨1, 2, 2, true⟩, ⟨2, 2, 3, true⟩, ⟨3, 2, 4, true⟩, ⟨4, 2, 5, true⟩, ⟨5, 2, 2, true⟩, ⟨6, 2, 6, true⟩, ⟨7, 2, 7, true⟩, ⟨8, 0, 0, false⟩] h)
        · clear H; obtain ⟨_, _, _, _, _, _, _, _, _, _, _, _, _, _, _, _, _, _, _, _, _, _, _, _, _, _, _, _, _, _, _, _, _, _, _, _, _, H, _⟩ := hS; rw [impl_JoinChunk.l1] at H; cases H
        clear H
        obtain ⟨x42_7, Ax42_7, cx42_7, x42_8, x42_20, Ax42_20, cx42_20, x42_21, x42_22, x42_50, x42_51, x42_5_0, x42_5_1, Ax42_5_1, cx42_5_1, x42_5_2, Ax42_5_2, cx42_5_2, x42_5_3, Ax42_5_3, cx42_5_3, x42_5_4, x42_6_0, x42_6_1, Ax42_6_1, cx42_6_1, x42_6_2, Ax42_6_2, cx42_6_2, x42_6_3, Ax42_6_3, cx42_6_3, x42_6_4, x42_9_0, x42_9_1, x42_9_2, lk1, H, rfl⟩ := hS
        rw [impl_JoinChunk.l1] at H
        refine gs (rg (sv (EV.lss rfl rfl) rfl (re (gs ?_))))
        revert H; refine ifsI ?_ ?_ <;> intro c21 H
        ·
         refine gt rfl (dT c21) (gk (gs (gb (gs (rg ?_)))))
         revert H; refine ggI ?_; intro g22 H
         revert H; refine ggI ?_; intro g23 H
         refine sv (EV.ix 8 rfl rfl rfl g22 g23 rfl) rfl (sv (EV.le (v := .agg #[.int .i64 ((rd_T70 l1 x42_51).f0), .int .i64 ((rd_T70 l1 x42_51).f1), .int .i64 ((rd_T70 l1 x42_51).f2)]) x42_51 0 (some 3) 8 z70 rfl rfl rfl g22 g23 rfl rfl rfl) rfl (so rfl (op_alloc (cs := [.int .i64 0, .int .i64 0, .int .i64 0]) (by kernel_rfl) rfl fun b11 => (so rfl (op_st (cs' := [.int .i64 ((rd_T70 l1 x42_51).f0), .int .i64 ((rd_T70 l1 x42_51).f1), .int .i64 ((rd_T70 l1 x42_51).f2)]) 3 rfl rfl rfl rfl rfl rfl (re (gs (rg (sv (EV.fa 0 rfl) rfl (sv (EV.ld 3 none rfl rfl rfl) rfl (sv (EV.fa 0 rfl) rfl (sv (EV.ld 2 none rfl rfl rfl) rfl (sv (EV.eql rfl rfl) rfl (re (pr [1, 5, 6, 7, 8, 9, 11, 20, 21, 22, 49, 50, 51, 59] [0, 1, 2, 3] [0, 1, 2, 3, 4, 5, 6, 7, 8] rfl rfl rfl rfl ?_)))))))))))))))
         revert H; refine ifsI ?_ ?_ <;> intro c24 H
         ·
          refine gt rfl (dT c24) (rg (sv (EV.mv rfl) rfl (sv (EV.ld (v := .agg #[.int .i64 x42_9_0, .int .i64 x42_9_1, .int .i64 x42_9_2]) 2 (some 3) rfl rfl rfl) rfl (sv (EV.ld (v := .agg #[.int .i64 ((rd_T70 l1 x42_51).f0), .int .i64 ((rd_T70 l1 x42_51).f1), .int .i64 ((rd_T70 l1 x42_51).f2)]) 3 (some 3) rfl rfl rfl) rfl (sv (EV.bd (v := .agg #[.int .i64 x42_9_0, .int .i64 x42_9_1, .int .i64 x42_9_2, .int .i64 ((rd_T70 l1 x42_51).f0), .int .i64 ((rd_T70 l1 x42_51).f1), .int .i64 ((rd_T70 l1 x42_51).f2), .bool true]) rfl (by kernel_rfl)) rfl (so rfl (op_lit (s := 7) (by_ := 56) k92 ([(⟨(⟨x42_9_0, x42_9_1, x42_9_2⟩ : S70), (⟨(rd_T70 l1 x42_51).f0, (rd_T70 l1 x42_51).f1, (rd_T70 l1 x42_51).f2⟩ : S70), true⟩ : S92)] : List S92) [[]] [] 8 [.tmp 63] rfl rfl rfl rfl rfl rfl rfl rfl rfl rfl rfl rfl rfl dq rfl fun A64_25 c64_25 => ?_)))))))
          revert H; refine ggI ?_; intro g26 H
          exact so rfl (op_app (k := k92) (s := 7) (by_ := 56) 0 9 rfl rfl rfl rfl (ap1 g26 dq) (ap1n g26 dq) (.inl rfl) true (fun _ => .inl rfl) rfl rfl fun A65_27 c65_27 => (nmE (en := [.sl 2 k70 Ax42_20 cx42_20 x42_20 2 true, .sl 2 k70 Ax42_5_1 cx42_5_1 x42_5_1 3 true, .sl 2 k70 Ax42_5_2 cx42_5_2 x42_5_2 4 true, .sl 2 .bool Ax42_5_3 cx42_5_3 x42_5_3 5 true, .sl 2 k70 Ax42_6_1 cx42_6_1 x42_6_1 2 true, .sl 2 k70 Ax42_6_2 cx42_6_2 x42_6_2 6 true, .sl 2 .bool Ax42_6_3 cx42_6_3 x42_6_3 7 true, .sl 0 k70 Al1 cl1 l1 0 false, .sl 2 k92 A64_25 c64_25 ([(⟨(⟨x42_9_0, x42_9_1, x42_9_2⟩ : S70), (⟨(rd_T70 l1 x42_51).f0, (rd_T70 l1 x42_51).f1, (rd_T70 l1 x42_51).f2⟩ : S70), true⟩ : S92)] : List S92) 8 true, .sl 2 k92 A65_27 c65_27 (x42_7 ++ ([(⟨(⟨x42_9_0, x42_9_1, x42_9_2⟩ : S70), (⟨(rd_T70 l1 x42_51).f0, (rd_T70 l1 x42_51).f1, (rd_T70 l1 x42_51).f2⟩ : S70), true⟩ : S92)] : List S92)) 1 true]) (by kernel_rfl) (sv (EV.as rfl) rfl (re (pr [1, 5, 6, 7, 8, 9, 20, 21, 22, 49, 50, 51] [0, 1, 2] [0, 1, 2, 3, 4, 5, 6, 7, 9] rfl rfl rfl rfl (ge (rg (sv (EV.add rfl rfl) rfl (sv (EV.mv rfl) rfl (re (wk [1, 5, 6, 7, 8, 9, 20, 21, 22, 49, 50, 51] [0, 1, 2] [⟨8, 2, 1, true⟩, ⟨0, 2, 2, true⟩, ⟨1, 2, 3, true⟩, ⟨2, 2, 4, true⟩, ⟨3, 2, 5, true⟩, ⟨4, 2, 2, true⟩, ⟨5, 2, 6, true⟩, ⟨6, 2, 7, true⟩, ⟨7, 0, 0, false⟩] (ih1 _ (by omega) _ ⟨x42_7 ++ ([(⟨(⟨x42_9_0, x42_9_1, x42_9_2⟩ : S70), (⟨(rd_T70 l1 x42_51).f0, (rd_T70 l1 x42_51).f1, (rd_T70 l1 x42_51).f2⟩ : S70), true⟩ : S92)] : List S92), A65_27, c65_27, x42_8, x42_20, Ax42_20, cx42_20, x42_21, x42_22, x42_50, wrap64 (x42_51 + 1), x42_5_0, x42_5_1, Ax42_5_1, cx42_5_1, x42_5_2, Ax42_5_2, cx42_5_2, x42_5_3, Ax42_5_3, cx42_5_3, x42_5_4, x42_6_0, x42_6_1, Ax42_6_1, cx42_6_1, x42_6_2, Ax42_6_2, cx42_6_2, x42_6_3, Ax42_6_3, cx42_6_3, x42_6_4, x42_9_0, x42_9_1, x42_9_2, by omega, H, rfl⟩))))))))))))
         ·
          exact gf rfl (dF c24) (gk (ge (rg (sv (EV.add rfl rfl) rfl (sv (EV.mv rfl) rfl (re (wk [1, 5, 6, 7, 8, 9, 20, 21, 22, 49, 50, 51] [0, 1, 2] [⟨0, 2, 1, true⟩, ⟨1, 2, 2, true⟩, ⟨2, 2, 3, true⟩, ⟨3, 2, 4, true⟩, ⟨4, 2, 5, true⟩, ⟨5, 2, 2, true⟩, ⟨6, 2, 6, true⟩, ⟨7, 2, 7, true⟩, ⟨8, 0, 0, false⟩] (ih1 _ (by omega) _ ⟨x42_7, Ax42_7, cx42_7, x42_8, x42_20, Ax42_20, cx42_20, x42_21, x42_22, x42_50, wrap64 (x42_51 + 1), x42_5_0, x42_5_1, Ax42_5_1, cx42_5_1, x42_5_2, Ax42_5_2, cx42_5_2, x42_5_3, Ax42_5_3, cx42_5_3, x42_5_4, x42_6_0, x42_6_1, Ax42_6_1, cx42_6_1, x42_6_2, Ax42_6_2, cx42_6_2, x42_6_3, Ax42_6_3, cx42_6_3, x42_6_4, x42_9_0, x42_9_1, x42_9_2, by omega, H, rfl⟩))))))))
        ·
         exact gf rfl (dF c21) (gx rfl (ge (wk [1, 5, 6, 7, 8, 20, 21, 22] [0, 1] [⟨0, 2, 1, true⟩, ⟨1, 2, 2, true⟩, ⟨2, 2, 3, true⟩, ⟨3, 2, 4, true⟩, ⟨4, 2, 5, true⟩, ⟨5, 2, 2, true⟩, ⟨6, 2, 6, true⟩, ⟨7, 2, 7, true⟩, ⟨8, 0, 0, false⟩] (jh0 _ ⟨_, x42_7, Ax42_7, cx42_7, x42_8, x42_20, Ax42_20, cx42_20, x42_21, x42_22, x42_5_0, x42_5_1, Ax42_5_1, cx42_5_1, x42_5_2, Ax42_5_2, cx42_5_2, x42_5_3, Ax42_5_3, cx42_5_3, x42_5_4, x42_6_0, x42_6_1, Ax42_6_1, cx42_6_1, x42_6_2, Ax42_6_2, cx42_6_2, x42_6_3, Ax42_6_3, cx42_6_3, x42_6_4, by omega, H, rfl⟩))))
       ·
        obtain rfl := bF c20
        exact gf rfl rfl (gk (ge (wk [1, 5, 6, 7, 8, 20, 21, 22] [0, 1] [⟨0, 2, 1, true⟩, ⟨1, 2, 2, true⟩, ⟨2, 2, 3, true⟩, ⟨3, 2, 4, true⟩, ⟨4, 2, 5, true⟩, ⟨5, 2, 2, true⟩, ⟨6, 2, 6, true⟩, ⟨7, 2, 7, true⟩, ⟨8, 0, 0, false⟩] (jh0 _ ⟨_, x41_7, Ax41_7, cx41_7, x41_8, x41_20, Ax41_20, cx41_20, x41_21, x41_22, x41_5_0, x41_5_1, Ax41_5_1, cx41_5_1, x41_5_2, Ax41_5_2, cx41_5_2, x41_5_3, Ax41_5_3, cx41_5_3, x41_5_4, x41_6_0, x41_6_1, Ax41_6_1, cx41_6_1, x41_6_2, Ax41_6_2, cx41_6_2, x41_6_3, Ax41_6_3, cx41_6_3, x41_6_4, by omega, H, rfl⟩))))
      ·
       refine gs (rg (sv (EV.eql rfl rfl) rfl (sv (EV.as rfl) rfl (re ?_))))
       revert H; refine ifsI ?_ ?_ <;> intro c28 H
       ·
        exact gt rfl (dT c28) (gk (wk [1, 5, 6, 7, 8, 9, 20, 21, 22, 46] [0, 1, 2] [⟨0, 2, 1, true⟩, ⟨1, 2, 2, true⟩, ⟨2, 2, 3, true⟩, ⟨3, 2, 4, true⟩, ⟨4, 2, 5, true⟩, ⟨5, 2, 2, true⟩, ⟨6, 2, 6, true⟩, ⟨7, 2, 7, true⟩, ⟨8, 0, 0, false⟩] (jh1 _ ⟨_, x22_7, Ax22_7, cx22_7, x22_22, x22_20, Ax22_20, cx22_20, x22_21, x22_22, decide (x22_6_0 = 1), x22_5_0, x22_5_1, Ax22_5_1, cx22_5_1, x22_5_2, Ax22_5_2, cx22_5_2, x22_5_3, Ax22_5_3, cx22_5_3, x22_5_4, x22_6_0, x22_6_1, Ax22_6_1, cx22_6_1, x22_6_2, Ax22_6_2, cx22_6_2, x22_6_3, Ax22_6_3, cx22_6_3, x22_6_4, (rd_T70 x22_20 x22_22).f0, (rd_T70 x22_20 x22_22).f1, (rd_T70 x22_20 x22_22).f2, by omega, H, rfl⟩)))
       ·
        exact gf rfl (dF c28) (rg (sv (EV.eql rfl rfl) rfl (sv (EV.as rfl) rfl (re (pr [1, 5, 6, 7, 8, 9, 20, 21, 22, 46] [0, 1, 2] [0, 1, 2, 3, 4, 5, 6, 7, 8] rfl rfl rfl rfl (wk [1, 5, 6, 7, 8, 9, 20, 21, 22, 46] [0, 1, 2] [⟨0, 2, 1, true⟩, ⟨1, 2, 2, true⟩, ⟨2, 2, 3, true⟩, ⟨3, 2, 4, true⟩, ⟨4, 2, 5, true⟩, ⟨5, 2, 2, true⟩, ⟨6, 2, 6, true⟩, ⟨7, 2, 7, true⟩, ⟨8, 0, 0, false⟩] (jh1 _ ⟨_, x22_7, Ax22_7, cx22_7, x22_22, x22_20, Ax22_20, cx22_20, x22_21, x22_22, decide (x22_6_0 = 4), x22_5_0, x22_5_1, Ax22_5_1, cx22_5_1, x22_5_2, Ax22_5_2, cx22_5_2, x22_5_3, Ax22_5_3, cx22_5_3, x22_5_4, x22_6_0, x22_6_1, Ax22_6_1, cx22_6_1, x22_6_2, Ax22_6_2, cx22_6_2, x22_6_3, Ax22_6_3, cx22_6_3, x22_6_4, (rd_T70 x22_20 x22_22).f0, (rd_T70 x22_20 x22_22).f1, (rd_T70 x22_20 x22_22).f2, by omega, H, rfl⟩)))))))
  ·
   refine gf rfl (dF c5) (gx rfl (gs (dr [0, 1] [0, 1, 2, 3, 4, 5, 6, 7, 8] [3] 4 rfl rfl rfl rfl (xv 0 [0, 1] [0, 1, 2, 3, 4, 5, 6, 7, 8] rfl (EV.mv rfl) rfl rfl rfl rfl (xv 1 [0, 1] [0, 1, 2, 3, 4, 5, 6, 7, 8] rfl (EV.ld (v := .agg #[.int .i64 x22_6_0, .slice Ax22_6_1 x22_6_1.length cx22_6_1, .slice Ax22_6_2 x22_6_2.length cx22_6_2, .slice Ax22_6_3 x22_6_3.length cx22_6_3, .int .i64 x22_6_4]) 1 (some 5) rfl rfl rfl) rfl rfl rfl rfl (xv 2 [0, 1] [0, 1, 2, 3, 4, 5, 6, 7, 8] rfl (EV.as rfl) rfl rfl rfl rfl (one1 3 rfl rfl (op_st (cs' := [.int .i64 x22_6_0, .slice Ax22_6_1 x22_6_1.length cx22_6_1, .slice Ax22_6_2 x22_6_2.length cx22_6_2, .slice Ax22_6_3 x22_6_3.length cx22_6_3, .int .i64 x22_6_4]) 0 rfl rfl rfl rfl rfl rfl (xn rfl (xd (pr [4, 5] [0] [0, 5, 6, 7] rfl rfl rfl rfl ?_)))))))))))
   cases H
   exact rt Try.func25 rfl (.tmp rfl (.cell 0 (some 5) rfl rfl rfl .nil)) rfl [] [⟨0, 2, 1, true⟩, ⟨1, 2, 2, true⟩, ⟨2, 2, 3, true⟩, ⟨3, 2, 4, true⟩] rfl rfl rfl rfl rfl ⟨_, _, _, _, _, _, _, _, rfl, rfl, rfl⟩
 ·
  obtain rfl := bF c3
  refine gt rfl rfl (gs (dr [0, 1] [0, 1, 2, 3] [2] 3 rfl rfl rfl rfl (xv 0 [0, 1] [0, 1, 2, 3] rfl (EV.ld (v := .agg #[.int .i64 t1_0, .slice At1_1 t1_1.length ct1_1, .slice At1_2 t1_2.length ct1_2, .slice At1_3 t1_3.length ct1_3, .int .i64 t1_4]) 1 (some 5) rfl rfl rfl) rfl rfl rfl rfl (xv 1 [0, 1] [0, 1, 2, 3] rfl (EV.as rfl) rfl rfl rfl rfl (one1 2 rfl rfl (op_st (cs' := [.int .i64 t1_0, .slice At1_1 t1_1.length ct1_1, .slice At1_2 t1_2.length ct1_2, .slice At1_3 t1_3.length ct1_3, .int .i64 t1_4]) 0 rfl rfl rfl rfl rfl rfl (xn rfl (xd (nil_ k92 5 dq ?_)))))))))
  cases H
  exact rt Try.func25 rfl (.tmp rfl (.cell 0 (some 5) rfl rfl rfl .nil)) rfl [] [⟨4, 2, 1, true⟩, ⟨1, 2, 2, true⟩, ⟨2, 2, 3, true⟩, ⟨3, 2, 4, true⟩] rfl rfl rfl rfl rfl ⟨_, _, _, _, _, _, _, _, rfl, rfl, rfl⟩
end Go.Proofs.Ytajjeemkdjfilaa.K
