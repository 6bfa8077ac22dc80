/- Walks: what the functions compute. Printed by gen.py; no condition. -/
import Derived.Test.YtajjeemkdjfilaaProg
import Derived.Test.YtajjeemkdjfilaaSB
namespace Go.Proofs.Ytajjeemkdjfilaa.K
open Go Go.RowKit
set_option linter.unusedVariables false
set_option linter.unusedSimpArgs false
structure S70 where
  f0 : Int
  f1 : Int
  f2 : Int
def z70 : S70 := ⟨0, 0, 0⟩
def k70 : Kd S70 := .iso (fun p => ⟨p.1, p.2.1, p.2.2⟩) (fun x => (x.f0, x.f1, x.f2)) (fun _ => rfl) (.pair (.int .i64) (.pair (.int .i64) (.int .i64)))
def rd_T70 (xs : List S70) (i : Int) : S70 := xs.getD i.toNat z70
structure S92 where
  f0 : S70
  f1 : S70
  f2 : Bool
def z92 : S92 := ⟨z70, z70, false⟩
def k92 : Kd S92 := .iso (fun p => ⟨p.1, p.2.1, p.2.2⟩) (fun x => (x.f0, x.f1, x.f2)) (fun _ => rfl) (.pair k70 (.pair k70 .bool))
def rd_T92 (xs : List S92) (i : Int) : S92 := xs.getD i.toNat z92
structure S30 where
  f0 : List S92
  f1 : Int
  f2 : Int
  f3 : Int
def z30 : S30 := ⟨[], 0, 0, 0⟩
def k30 : Kd S30 := .iso (fun p => ⟨p.1, p.2.1, p.2.2.1, p.2.2.2⟩) (fun x => (x.f0, x.f1, x.f2, x.f3)) (fun _ => rfl) (.pair (.slice k92) (.pair (.int .i64) (.pair (.int .i64) (.int .i64))))
def rd_T30 (xs : List S30) (i : Int) : S30 := xs.getD i.toNat z30
structure S44 where
  f0 : Int
  f1 : List S70
  f2 : List S70
  f3 : List Bool
  f4 : Int
def z44 : S44 := ⟨0, [], [], [], 0⟩
def k44 : Kd S44 := .iso (fun p => ⟨p.1, p.2.1, p.2.2.1, p.2.2.2.1, p.2.2.2.2⟩) (fun x => (x.f0, x.f1, x.f2, x.f3, x.f4)) (fun _ => rfl) (.pair (.int .i64) (.pair (.slice k70) (.pair (.slice k70) (.pair (.slice .bool) (.int .i64)))))
def rd_T44 (xs : List S44) (i : Int) : S44 := xs.getD i.toNat z44
structure S73 where
  f0 : List S44
  f1 : Int
  f2 : Int
def z73 : S73 := ⟨[], 0, 0⟩
def k73 : Kd S73 := .iso (fun p => ⟨p.1, p.2.1, p.2.2⟩) (fun x => (x.f0, x.f1, x.f2)) (fun _ => rfl) (.pair (.slice k44) (.pair (.int .i64) (.int .i64)))
def rd_T73 (xs : List S73) (i : Int) : S73 := xs.getD i.toNat z73
structure S111 where
  f0 : List Int
  f1 : Int
  f2 : Int
def z111 : S111 := ⟨[], 0, 0⟩
def k111 : Kd S111 := .iso (fun p => ⟨p.1, p.2.1, p.2.2⟩) (fun x => (x.f0, x.f1, x.f2)) (fun _ => rfl) (.pair (.slice (.int .u8)) (.pair (.int .i64) (.int .i64)))
def rd_T111 (xs : List S111) (i : Int) : S111 := xs.getD i.toNat z111
theorem eqD70 (d : Nat) (w : World) (x0 y0 : Int) (x1 y1 : Int) (x2 y2 : Int) : (Op.equalIn (d + 2) 70 (.agg #[.int .i64 x0, .int .i64 x1, .int .i64 x2]) (.agg #[.int .i64 y0, .int .i64 y1, .int .i64 y2])).run Try.prog w = .ok (x0 == y0 && (x1 == y1 && (x2 == y2))) w := by
  refine eq_of (d := d + 1) Try.underlying70 (by kernel_rfl) ?_
  refine eq_cons (by rfl) (by first | (go_simp; done) | (go_simp; rfl)) (by first | (go_simp; done) | (go_simp; rfl)) (by go_simp) ?_
  refine eq_cons (by rfl) (by first | (go_simp; done) | (go_simp; rfl)) (by first | (go_simp; done) | (go_simp; rfl)) (by go_simp) ?_
  exact eq_last (by rfl) (by first | (go_simp; done) | (go_simp; rfl)) (by first | (go_simp; done) | (go_simp; rfl)) (by go_simp)
theorem eq70 (d : Nat) (w : World) (x0 y0 : Int) (x1 y1 : Int) (x2 y2 : Int) : (Op.equalIn (d + 20) 70 (.agg #[.int .i64 x0, .int .i64 x1, .int .i64 x2]) (.agg #[.int .i64 y0, .int .i64 y1, .int .i64 y2])).run Try.prog w = .ok (x0 == y0 && (x1 == y1 && (x2 == y2))) w := eqD70 (d + 18) w x0 y0 x1 y1 x2 y2
theorem eqD92 (d : Nat) (w : World) (x0 y0 : Int) (x1 y1 : Int) (x2 y2 : Int) (x3 y3 : Int) (x4 y4 : Int) (x5 y5 : Int) (x6 y6 : Bool) : (Op.equalIn (d + 3) 92 (.agg #[.int .i64 x0, .int .i64 x1, .int .i64 x2, .int .i64 x3, .int .i64 x4, .int .i64 x5, .bool x6]) (.agg #[.int .i64 y0, .int .i64 y1, .int .i64 y2, .int .i64 y3, .int .i64 y4, .int .i64 y5, .bool y6])).run Try.prog w = .ok ((x0 == y0 && (x1 == y1 && (x2 == y2))) && ((x3 == y3 && (x4 == y4 && (x5 == y5))) && (x6 == y6))) w := by
  refine eq_of (d := d + 2) Try.underlying92 (by kernel_rfl) ?_
  refine eq_cons (by rfl) (by first | (go_simp; done) | (go_simp; rfl)) (by first | (go_simp; done) | (go_simp; rfl)) (eqD70 _ w x0 y0 x1 y1 x2 y2) ?_
  refine eq_cons (by rfl) (by first | (go_simp; done) | (go_simp; rfl)) (by first | (go_simp; done) | (go_simp; rfl)) (eqD70 _ w x3 y3 x4 y4 x5 y5) ?_
  exact eq_last (by rfl) (by first | (go_simp; done) | (go_simp; rfl)) (by first | (go_simp; done) | (go_simp; rfl)) (by go_simp)
theorem eq92 (d : Nat) (w : World) (x0 y0 : Int) (x1 y1 : Int) (x2 y2 : Int) (x3 y3 : Int) (x4 y4 : Int) (x5 y5 : Int) (x6 y6 : Bool) : (Op.equalIn (d + 20) 92 (.agg #[.int .i64 x0, .int .i64 x1, .int .i64 x2, .int .i64 x3, .int .i64 x4, .int .i64 x5, .bool x6]) (.agg #[.int .i64 y0, .int .i64 y1, .int .i64 y2, .int .i64 y3, .int .i64 y4, .int .i64 y5, .bool y6])).run Try.prog w = .ok ((x0 == y0 && (x1 == y1 && (x2 == y2))) && ((x3 == y3 && (x4 == y4 && (x5 == y5))) && (x6 == y6))) w := eqD92 (d + 17) w x0 y0 x1 y1 x2 y2 x3 y3 x4 y4 x5 y5 x6 y6
theorem mk42 : ∀ (zz : Value) (e : TypeId) (i : TypeInfo), Try.prog.underlying 42 = some (.slice e) → Try.prog.info? e = some i → i.zero = some zz → ∀ w, Kd.rep .bool 1 w zz.cells.toList false [] := by
  intro zz e i hu hi hz w
  have h1 : (Try.prog.underlying 42).bind (fun d => match d with | .slice e => (Try.prog.info? e).bind (fun i => i.zero) | _ => none) = some (.bool false) := by kernel_rfl
  rw [hu] at h1
  simp only [Option.bind_some, hi, hz, Option.some.injEq] at h1
  subst h1
  exact Kd.closed .bool (o := 1) (w := w) (x := false) (hs := []) (bs := []) 0 false (Nat.le_refl 1) rfl .nil
end Go.Proofs.Ytajjeemkdjfilaa.K
namespace Go.Proofs.Ytajjeemkdjfilaa.K
open Go Go.RowKit
set_option linter.unusedVariables false
set_option linter.unusedSimpArgs false

end Go.Proofs.Ytajjeemkdjfilaa.K
namespace Go.Proofs.Ytajjeemkdjfilaa.K
open Go Go.RowKit
set_option linter.unusedVariables false
set_option linter.unusedSimpArgs false
def spec_CompareRows.l0 : Nat → (List Int) → (List Int) → Int → Option (Int)
 | 0, _, _, _ => none
 | k + 1, x2_5, x2_6, x2_7 => if x2_7 < 3 then (if 0 ≤ x2_7 then (if x2_7 < (x2_5.length : Int) then (if x2_7 < (x2_6.length : Int) then (if (rdOf 0 x2_5 x2_7) < (rdOf 0 x2_6 x2_7) then (some (-1)) else (if (rdOf 0 x2_5 x2_7) > (rdOf 0 x2_6 x2_7) then (some 1) else (spec_CompareRows.l0 k x2_5 x2_6 (wrap64 (x2_7 + 1))))) else none) else none) else none) else (some 0)
def spec_CompareRows.f (k : Nat) (a0_0 : Int) (a0_1 : Int) (a0_2 : Int) (a1_0 : Int) (a1_1 : Int) (a1_2 : Int) : Option (Int) := spec_CompareRows.l0 k ([a0_0, a0_1, a0_2] : List Int) ([a1_0, a1_1, a1_2] : List Int) 0
set_option maxHeartbeats 4000000 in
set_option maxRecDepth 100000 in
theorem spec_CompareRows.ok (k : Nat) (a0_0 : Int) (a0_1 : Int) (a0_2 : Int) (a1_0 : Int) (a1_1 : Int) (a1_2 : Int) (r0 : Int) (H : spec_CompareRows.f k a0_0 a0_1 a0_2 a1_0 a1_1 a1_2 = some r0) : Fn Try.prog 115 [.agg #[.int .i64 a0_0, .int .i64 a0_1, .int .i64 a0_2], .agg #[.int .i64 a1_0, .int .i64 a1_1, .int .i64 a1_2]] [] [] (fun v bx en => v = .int .i64 r0 ∧ bx = [] ∧ en = []) := by
 refine fn_ 44 Try.func115 rfl rfl rfl (fun base T w0 => ?_)
 rw [spec_CompareRows.f] at H
 refine gs (rg (so rfl (op_box (cs := [.int .i64 a0_0, .int .i64 a0_1, .int .i64 a0_2]) rfl rfl rfl fun b2 => (so rfl (op_box (cs := [.int .i64 a1_0, .int .i64 a1_1, .int .i64 a1_2]) rfl rfl rfl fun b3 => (sv (EV.as rfl) rfl (re (gs (rg (sv (EV.fa 0 rfl) rfl (sv (EV.ld 0 none rfl rfl rfl) rfl (sv (EV.fa 1 rfl) rfl (sv (EV.ld 0 none rfl rfl rfl) rfl (sv (EV.fa 2 rfl) rfl (sv (EV.ld 0 none rfl rfl rfl) rfl (so rfl (op_lit (s := 1) (by_ := 8) (.int .i64) ([a0_0, a0_1, a0_2] : List Int) [[], [], []] [] 1 [.tmp 9, .tmp 11, .tmp 13] rfl rfl rfl rfl rfl rfl rfl rfl rfl rfl rfl rfl rfl dq rfl fun A14_1 c14_1 => (sv (EV.as rfl) rfl (re (pr [3, 5] [1] [0] rfl rfl rfl rfl (gs (rg (sv (EV.fa 0 rfl) rfl (sv (EV.ld 0 none rfl rfl rfl) rfl (sv (EV.fa 1 rfl) rfl (sv (EV.ld 0 none rfl rfl rfl) rfl (sv (EV.fa 2 rfl) rfl (sv (EV.ld 0 none rfl rfl rfl) rfl (so rfl ?_)))))))))))))))))))))))))))))
 refine op_lit (s := 1) (by_ := 8) (.int .i64) ([a1_0, a1_1, a1_2] : List Int) [[], [], []] [] 2 [.tmp 16, .tmp 18, .tmp 20] rfl rfl rfl rfl rfl rfl rfl rfl rfl rfl rfl rfl rfl dq rfl fun A21_2 c21_2 => (sv (EV.as rfl) rfl (re (pr [5, 6] [] [0, 1] rfl rfl rfl rfl (gs (gs (rg (sv (EV.as rfl) rfl (re (gb ?_)))))))))
 refine lo (fun kk S => ∃ (x2_5 : List Int) (Ax2_5 : Option Addr) (cx2_5 : Nat) (x2_6 : List Int) (Ax2_6 : Option Addr) (cx2_6 : Nat) (x2_7 : Int), spec_CompareRows.l0 kk x2_5 x2_6 x2_7 = some r0 ∧ S = ⟨[(5, .slice Ax2_5 x2_5.length cx2_5), (6, .slice Ax2_6 x2_6.length cx2_6), (7, .int .i64 x2_7)], [], [.sl 2 (.int .i64) Ax2_5 cx2_5 x2_5 1 true, .sl 2 (.int .i64) Ax2_6 cx2_6 x2_6 2 true]⟩) (fun S hS => ?_) (fun n0 ih0 S hS => ?_) ⟨([a0_0, a0_1, a0_2] : List Int), A14_1, c14_1, ([a1_0, a1_1, a1_2] : List Int), A21_2, c21_2, 0, H, rfl⟩ (fun h => wk [5, 6, 7] [] [⟨0, 2, 1, true⟩, ⟨1, 2, 2, true⟩] h)
 · clear H; obtain ⟨_, _, _, _, _, _, _, H, _⟩ := hS; rw [spec_CompareRows.l0] at H; cases H
 clear H
 obtain ⟨x2_5, Ax2_5, cx2_5, x2_6, Ax2_6, cx2_6, x2_7, H, rfl⟩ := hS
 rw [spec_CompareRows.l0] at H
 refine gs (gs (rg (sv (EV.mv rfl) rfl (sv (EV.lss rfl rfl) rfl (re ?_)))))
 revert H; refine ifsI ?_ ?_ <;> intro c3 H
 ·
  refine gt rfl (dT c3) (gk (gs (gb (gs (gs ?_)))))
  revert H; refine ggI ?_; intro g4 H
  revert H; refine ggI ?_; intro g5 H
  revert H; refine ggI ?_; intro g6 H
  refine dr [] [0, 1] [] 9 rfl rfl rfl rfl (xv 0 [] [0, 1] rfl (EV.mv rfl) rfl rfl rfl rfl (xv 1 [] [0, 1] rfl (EV.mv rfl) rfl rfl rfl rfl (xv 2 [] [0, 1] rfl (EV.ix 0 rfl rfl rfl g4 g5 rfl) rfl rfl rfl rfl (xv 3 [] [0, 1] rfl (EV.le (v := .int .i64 (rdOf 0 x2_5 x2_7)) x2_7 0 none 0 0 rfl rfl rfl g4 g5 rfl rfl rfl) rfl rfl rfl rfl (xv 4 [] [0, 1] rfl (EV.mv rfl) rfl rfl rfl rfl (xv 5 [] [0, 1] rfl (EV.mv rfl) rfl rfl rfl rfl (xv 6 [] [0, 1] rfl (EV.ix 1 rfl rfl rfl g4 g6 rfl) rfl rfl rfl rfl (xv 7 [] [0, 1] rfl (EV.le (v := .int .i64 (rdOf 0 x2_6 x2_7)) x2_7 0 none 1 0 rfl rfl rfl g4 g6 rfl rfl rfl) rfl rfl rfl rfl (xv 8 [] [0, 1] rfl (EV.lss rfl rfl) rfl rfl rfl rfl (xd (pr [5, 6, 7, 34] [] [0, 1] rfl rfl rfl rfl ?_)))))))))))
  revert H; refine ifsI ?_ ?_ <;> intro c7 H
  ·
   refine gt rfl (dT c7) (gs (rg (sv (EV.as rfl) rfl (re ?_))))
   cases H
   exact rt Try.func115 rfl (.tmp rfl .nil) rfl [] [] rfl rfl rfl rfl rfl ⟨rfl, rfl, rfl⟩
  ·
   refine gf rfl (dF c7) (gk (gs (dr [] [0, 1] [] 9 rfl rfl rfl rfl (xv 0 [] [0, 1] rfl (EV.mv rfl) rfl rfl rfl rfl (xv 1 [] [0, 1] rfl (EV.mv rfl) rfl rfl rfl rfl (xv 2 [] [0, 1] rfl (EV.ix 0 rfl rfl rfl g4 g5 rfl) rfl rfl rfl rfl (xv 3 [] [0, 1] rfl (EV.le (v := .int .i64 (rdOf 0 x2_5 x2_7)) x2_7 0 none 0 0 rfl rfl rfl g4 g5 rfl rfl rfl) rfl rfl rfl rfl (xv 4 [] [0, 1] rfl (EV.mv rfl) rfl rfl rfl rfl (xv 5 [] [0, 1] rfl (EV.mv rfl) rfl rfl rfl rfl (xv 6 [] [0, 1] rfl (EV.ix 1 rfl rfl rfl g4 g6 rfl) rfl rfl rfl rfl (xv 7 [] [0, 1] rfl (EV.le (v := .int .i64 (rdOf 0 x2_6 x2_7)) x2_7 0 none 1 0 rfl rfl rfl g4 g6 rfl rfl rfl) rfl rfl rfl rfl (xv 8 [] [0, 1] rfl (EV.gtr rfl rfl) rfl rfl rfl rfl (xd (pr [5, 6, 7, 43] [] [0, 1] rfl rfl rfl rfl ?_))))))))))))))
   revert H; refine ifsI ?_ ?_ <;> intro c8 H
   ·
    refine gt rfl (dT c8) (gs (rg (sv (EV.as rfl) rfl (re ?_))))
    cases H
    exact rt Try.func115 rfl (.tmp rfl .nil) rfl [] [] rfl rfl rfl rfl rfl ⟨rfl, rfl, rfl⟩
   ·
    exact gf rfl (dF c8) (gk (ge (rg (sv (EV.mv rfl) rfl (sv (EV.add rfl rfl) rfl (sv (EV.as rfl) rfl (re (wk [5, 6, 7] [] [⟨0, 2, 1, true⟩, ⟨1, 2, 2, true⟩] (ih0 _ (by omega) _ ⟨x2_5, Ax2_5, cx2_5, x2_6, Ax2_6, cx2_6, wrap64 (x2_7 + 1), H, rfl⟩)))))))))
 ·
  refine gf rfl (dF c3) (gx rfl (gs (rg (sv (EV.as rfl) rfl (re ?_)))))
  cases H
  exact rt Try.func115 rfl (.tmp rfl .nil) rfl [] [] rfl rfl rfl rfl rfl ⟨rfl, rfl, rfl⟩
end Go.Proofs.Ytajjeemkdjfilaa.K
namespace Go.Proofs.Ytajjeemkdjfilaa.K
open Go Go.RowKit
set_option linter.unusedVariables false
set_option linter.unusedSimpArgs false
def spec_ComparePairs.f (k : Nat) (a0_0 : Int) (a0_1 : Int) (a0_2 : Int) (a0_3 : Int) (a0_4 : Int) (a0_5 : Int) (a0_6 : Bool) (a1_0 : Int) (a1_1 : Int) (a1_2 : Int) (a1_3 : Int) (a1_4 : Int) (a1_5 : Int) (a1_6 : Bool) : Option (Int) := (spec_CompareRows.f k a0_0 a0_1 a0_2 a1_0 a1_1 a1_2).bind fun t1 => (if t1 = 0 then (if (a0_6 == a1_6) = true then ((spec_CompareRows.f k a0_3 a0_4 a0_5 a1_3 a1_4 a1_5).bind fun t4 => (some t4)) else (if a1_6 = true then (some (-1)) else (some 1))) else (some t1))
set_option maxHeartbeats 4000000 in
set_option maxRecDepth 100000 in
theorem spec_ComparePairs.ok (k : Nat) (a0_0 : Int) (a0_1 : Int) (a0_2 : Int) (a0_3 : Int) (a0_4 : Int) (a0_5 : Int) (a0_6 : Bool) (a1_0 : Int) (a1_1 : Int) (a1_2 : Int) (a1_3 : Int) (a1_4 : Int) (a1_5 : Int) (a1_6 : Bool) (r0 : Int) (H : spec_ComparePairs.f k a0_0 a0_1 a0_2 a0_3 a0_4 a0_5 a0_6 a1_0 a1_1 a1_2 a1_3 a1_4 a1_5 a1_6 = some r0) : Fn Try.prog 108 [.agg #[.int .i64 a0_0, .int .i64 a0_1, .int .i64 a0_2, .int .i64 a0_3, .int .i64 a0_4, .int .i64 a0_5, .bool a0_6], .agg #[.int .i64 a1_0, .int .i64 a1_1, .int .i64 a1_2, .int .i64 a1_3, .int .i64 a1_4, .int .i64 a1_5, .bool a1_6]] [] [] (fun v bx en => v = .int .i64 r0 ∧ bx = [] ∧ en = []) := by
 refine fn_ 26 Try.func108 rfl rfl rfl (fun base T w0 => ?_)
 rw [spec_ComparePairs.f] at H
 refine gs (rg (so rfl (op_box (cs := [.int .i64 a0_0, .int .i64 a0_1, .int .i64 a0_2, .int .i64 a0_3, .int .i64 a0_4, .int .i64 a0_5, .bool a0_6]) rfl rfl rfl fun b2 => (so rfl (op_box (cs := [.int .i64 a1_0, .int .i64 a1_1, .int .i64 a1_2, .int .i64 a1_3, .int .i64 a1_4, .int .i64 a1_5, .bool a1_6]) rfl rfl rfl fun b3 => (sv (EV.as rfl) rfl (re (gs (rg (sv (EV.fa 0 rfl) rfl (sv (EV.ld (v := .agg #[.int .i64 a0_0, .int .i64 a0_1, .int .i64 a0_2]) 0 (some 3) rfl rfl rfl) rfl (sv (EV.fa 0 rfl) rfl (sv (EV.ld (v := .agg #[.int .i64 a1_0, .int .i64 a1_1, .int .i64 a1_2]) 1 (some 3) rfl rfl rfl) rfl ?_)))))))))))))
 revert H; refine bdI ?_; rintro t1 A1 H
 refine so rfl (op_call (spec_CompareRows.ok k a0_0 a0_1 a0_2 a1_0 a1_1 a1_2 _ A1) [] 1 rfl rfl rfl rfl rfl ?_)
 rintro _ _ _ ⟨rfl, rfl, rfl⟩
 refine sv (EV.as rfl) rfl (re (pr [2, 3, 5] [0, 1] [] rfl rfl rfl rfl (gs (gs (rg (sv (EV.mv rfl) rfl (sv (EV.neq rfl rfl) rfl (re ?_))))))))
 revert H; refine ifsI ?_ ?_ <;> intro c2 H
 ·
  refine gf rfl (nF c2) (gk (gs (gs (rg (sv (EV.fa 6 rfl) rfl (sv (EV.ld 0 none rfl rfl rfl) rfl (sv (EV.fa 6 rfl) rfl (sv (EV.ld 1 none rfl rfl rfl) rfl (sv (EV.neb rfl rfl) rfl (re (pr [2, 3, 18] [0, 1] [] rfl rfl rfl rfl ?_)))))))))))
  revert H; refine ifsI ?_ ?_ <;> intro c3 H
  ·
   refine gf rfl (bN c3) (gk (gs (rg (sv (EV.fa 3 rfl) rfl (sv (EV.ld (v := .agg #[.int .i64 a0_3, .int .i64 a0_4, .int .i64 a0_5]) 0 (some 3) rfl rfl rfl) rfl (sv (EV.fa 3 rfl) rfl (sv (EV.ld (v := .agg #[.int .i64 a1_3, .int .i64 a1_4, .int .i64 a1_5]) 1 (some 3) rfl rfl rfl) rfl ?_)))))))
   revert H; refine bdI ?_; rintro t4 A4 H
   refine so rfl (op_call (spec_CompareRows.ok k a0_3 a0_4 a0_5 a1_3 a1_4 a1_5 _ A4) [] 1 rfl rfl rfl rfl rfl ?_)
   rintro _ _ _ ⟨rfl, rfl, rfl⟩
   refine sv (EV.as rfl) rfl (re (pr [4] [] [] rfl rfl rfl rfl ?_))
   cases H
   exact rt Try.func108 rfl (.tmp rfl .nil) rfl [] [] rfl rfl rfl rfl rfl ⟨rfl, rfl, rfl⟩
  ·
   refine gt rfl (bM c3) (gs (gs (rg (sv (EV.fa 6 rfl) rfl (sv (EV.ld 1 none rfl rfl rfl) rfl (re ?_))))))
   revert H; refine ifsI ?_ ?_ <;> intro c5 H
   ·
    subst c5
    refine gt rfl rfl (gs (rg (sv (EV.as rfl) rfl (re ?_))))
    cases H
    exact rt Try.func108 rfl (.tmp rfl .nil) rfl [] [] rfl rfl rfl rfl rfl ⟨rfl, rfl, rfl⟩
   ·
    obtain rfl := bF c5
    refine gf rfl rfl (gk (gs (rg (sv (EV.as rfl) rfl (re ?_)))))
    cases H
    exact rt Try.func108 rfl (.tmp rfl .nil) rfl [] [] rfl rfl rfl rfl rfl ⟨rfl, rfl, rfl⟩
 ·
  refine gt rfl (nT c2) (gs (rg (sv (EV.mv rfl) rfl (sv (EV.as rfl) rfl (re (pr [4] [] [] rfl rfl rfl rfl ?_))))))
  cases H
  exact rt Try.func108 rfl (.tmp rfl .nil) rfl [] [] rfl rfl rfl rfl rfl ⟨rfl, rfl, rfl⟩
end Go.Proofs.Ytajjeemkdjfilaa.K
namespace Go.Proofs.Ytajjeemkdjfilaa.K
open Go Go.RowKit
set_option linter.unusedVariables false
set_option linter.unusedSimpArgs false
mutual
def spec_l7Sorted.j0 : Nat → (List S92) → Int → Int → (List S92) → Option ((List S92))
 | 0, _, _, _, _ => none
 | k + 1, x25_3, x25_4, x25_5, l0 => if 0 ≤ x25_4 then (if x25_4 < (l0.length : Int) then (if 0 ≤ x25_5 then (if x25_5 ≤ (x25_3.length : Int) then (if ([(⟨(⟨(rd_T92 l0 x25_4).f0.f0, (rd_T92 l0 x25_4).f0.f1, (rd_T92 l0 x25_4).f0.f2⟩ : S70), (⟨(rd_T92 l0 x25_4).f1.f0, (rd_T92 l0 x25_4).f1.f1, (rd_T92 l0 x25_4).f1.f2⟩ : S70), (rd_T92 l0 x25_4).f2⟩ : S92)] : List S92).length + (x25_3.drop x25_5.toNat).length ≤ 2513169434916 then (if (x25_3.take x25_5.toNat).length ≤ 2513169434916 then (if (x25_3.take x25_5.toNat).length + (([(⟨(⟨(rd_T92 l0 x25_4).f0.f0, (rd_T92 l0 x25_4).f0.f1, (rd_T92 l0 x25_4).f0.f2⟩ : S70), (⟨(rd_T92 l0 x25_4).f1.f0, (rd_T92 l0 x25_4).f1.f1, (rd_T92 l0 x25_4).f1.f2⟩ : S70), (rd_T92 l0 x25_4).f2⟩ : S92)] : List S92) ++ (x25_3.drop x25_5.toNat)).length ≤ 2513169434916 then (spec_l7Sorted.l0 k ((x25_3.take x25_5.toNat) ++ (([(⟨(⟨(rd_T92 l0 x25_4).f0.f0, (rd_T92 l0 x25_4).f0.f1, (rd_T92 l0 x25_4).f0.f2⟩ : S70), (⟨(rd_T92 l0 x25_4).f1.f0, (rd_T92 l0 x25_4).f1.f1, (rd_T92 l0 x25_4).f1.f2⟩ : S70), (rd_T92 l0 x25_4).f2⟩ : S92)] : List S92) ++ (x25_3.drop x25_5.toNat))) (wrap64 (x25_4 + 1)) l0) else none) else none) else none) else none) else none) else none) else none
def spec_l7Sorted.l1 : Nat → (List S92) → Int → Int → (List S92) → Option ((List S92))
 | 0, _, _, _, _ => none
 | k + 1, x26_3, x26_4, x26_5, l0 => if x26_5 > 0 then (if 0 ≤ (wrap64 (x26_5 - 1)) then (if (wrap64 (x26_5 - 1)) < (x26_3.length : Int) then (if 0 ≤ x26_4 then (if x26_4 < (l0.length : Int) then ((spec_ComparePairs.f k ((rd_T92 x26_3 (wrap64 (x26_5 - 1))).f0.f0) ((rd_T92 x26_3 (wrap64 (x26_5 - 1))).f0.f1) ((rd_T92 x26_3 (wrap64 (x26_5 - 1))).f0.f2) ((rd_T92 x26_3 (wrap64 (x26_5 - 1))).f1.f0) ((rd_T92 x26_3 (wrap64 (x26_5 - 1))).f1.f1) ((rd_T92 x26_3 (wrap64 (x26_5 - 1))).f1.f2) ((rd_T92 x26_3 (wrap64 (x26_5 - 1))).f2) ((rd_T92 l0 x26_4).f0.f0) ((rd_T92 l0 x26_4).f0.f1) ((rd_T92 l0 x26_4).f0.f2) ((rd_T92 l0 x26_4).f1.f0) ((rd_T92 l0 x26_4).f1.f1) ((rd_T92 l0 x26_4).f1.f2) ((rd_T92 l0 x26_4).f2)).bind fun t21 => (if t21 > 0 then (spec_l7Sorted.l1 k x26_3 x26_4 (wrap64 (x26_5 - 1)) l0) else (spec_l7Sorted.j0 k x26_3 x26_4 x26_5 l0))) else none) else none) else none) else none) else (spec_l7Sorted.j0 k x26_3 x26_4 x26_5 l0)
def spec_l7Sorted.l0 : Nat → (List S92) → Int → (List S92) → Option ((List S92))
 | 0, _, _, _ => none
 | k + 1, x14_3, x14_4, l0 => if x14_4 < (l0.length : Int) then (spec_l7Sorted.l1 k x14_3 x14_4 (x14_3.length : Int) l0) else (some x14_3)
end
def spec_l7Sorted.f (k : Nat) (l0 : List S92) : Option ((List S92)) := spec_l7Sorted.l0 k [] 0 l0
set_option maxHeartbeats 4000000 in
set_option maxRecDepth 100000 in
theorem spec_l7Sorted.ok (k : Nat) (l0 : List S92) (Al0 : Option Addr) (cl0 : Nat) (r0 : List S92) (H : spec_l7Sorted.f k l0 = some r0) : Fn Try.prog 71 [.slice Al0 l0.length cl0] [] [.sl 0 k92 Al0 cl0 l0 0 false] (fun v bx en => ∃ A0 c0, v = .slice A0 r0.length c0 ∧ bx = [] ∧ en = [.sl 2 k92 A0 c0 r0 1 true]) := by
 refine fn_ 50 Try.func71 rfl rfl rfl (fun base T w0 => ?_)
 rw [spec_l7Sorted.f] at H
 refine gs (rg (sv (EV.as rfl) rfl (re (gs (rg (so rfl (op_lit (s := 7) (by_ := 56) k92 ([] : List S92) [] [] 1 [] rfl rfl rfl rfl rfl rfl rfl rfl rfl rfl rfl rfl rfl dq rfl fun A7_1 c7_1 => (sv (EV.as rfl) rfl (re (gs (gs (rg (sv (EV.as rfl) rfl (re (gb ?_)))))))))))))))
 refine lo (fun kk S => ∃ (x14_3 : List S92) (Ax14_3 : Option Addr) (cx14_3 : Nat) (x14_4 : Int), spec_l7Sorted.l0 kk x14_3 x14_4 l0 = some r0 ∧ S = ⟨[(0, .slice Al0 l0.length cl0), (3, .slice Ax14_3 x14_3.length cx14_3), (4, .int .i64 x14_4)], [], [.sl 2 k92 Ax14_3 cx14_3 x14_3 1 true, .sl 0 k92 Al0 cl0 l0 0 false]⟩) (fun S hS => ?_) (fun n0 ih0 S hS => ?_) ⟨[], A7_1, c7_1, 0, H, rfl⟩ (fun h => wk [0, 3, 4] [] [⟨1, 2, 1, true⟩, ⟨0, 0, 0, false⟩] h)
 · clear H; obtain ⟨_, _, _, _, H, _⟩ := hS; rw [spec_l7Sorted.l0] at H; cases H
 clear H
 obtain ⟨x14_3, Ax14_3, cx14_3, x14_4, H, rfl⟩ := hS
 rw [spec_l7Sorted.l0] at H
 refine gs (gs (rg (sv (EV.mv rfl) rfl (sv (EV.mv rfl) rfl (sv (EV.ln rfl) rfl (sv (EV.lss rfl rfl) rfl (re ?_)))))))
 revert H; refine ifsI ?_ ?_ <;> intro c2 H
 ·
  refine gt rfl (dT c2) (gk (gs (gb (gs (rg (sv (EV.mv rfl) rfl (sv (EV.ln rfl) rfl (sv (EV.as rfl) rfl (re (pr [0, 3, 4, 5] [] [0, 1] rfl rfl rfl rfl ?_))))))))))
  refine jo (fun S => ∃ (m : Nat) (x25_3 : List S92) (Ax25_3 : Option Addr) (cx25_3 : Nat) (x25_4 : Int) (x25_5 : Int), m ≤ n0 ∧ spec_l7Sorted.j0 m x25_3 x25_4 x25_5 l0 = some r0 ∧ S = ⟨[(0, .slice Al0 l0.length cl0), (3, .slice Ax25_3 x25_3.length cx25_3), (4, .int .i64 x25_4), (5, .int .i64 x25_5)], [], [.sl 2 k92 Ax25_3 cx25_3 x25_3 1 true, .sl 0 k92 Al0 cl0 l0 0 false]⟩) (fun S hS => ?_) (fun jh0 => ?_)
  ·
   clear H
   obtain ⟨m3, x25_3, Ax25_3, cx25_3, x25_4, x25_5, lm3, H, rfl⟩ := hS
   rcases m3 with _ | m3
   · rw [spec_l7Sorted.j0] at H; cases H
   rw [spec_l7Sorted.j0] at H
   refine gs ?_
   revert H; refine ggI ?_; intro g4 H
   revert H; refine ggI ?_; intro g5 H
   revert H; refine ggI ?_; intro g6 H
   revert H; refine ggI ?_; intro g7 H
   refine dr [] [0, 1] [9] 10 rfl rfl rfl rfl (xv 0 [] [0, 1] rfl (EV.mv rfl) rfl rfl rfl rfl (xv 1 [] [0, 1] rfl (EV.mv rfl) rfl rfl rfl rfl (xv 2 [] [0, 1] rfl (EV.ix 1 rfl rfl rfl g4 g5 rfl) rfl rfl rfl rfl (xv 3 [] [0, 1] rfl (EV.le (v := .agg #[.int .i64 ((rd_T92 l0 x25_4).f0.f0), .int .i64 ((rd_T92 l0 x25_4).f0.f1), .int .i64 ((rd_T92 l0 x25_4).f0.f2), .int .i64 ((rd_T92 l0 x25_4).f1.f0), .int .i64 ((rd_T92 l0 x25_4).f1.f1), .int .i64 ((rd_T92 l0 x25_4).f1.f2), .bool ((rd_T92 l0 x25_4).f2)]) x25_4 0 (some 7) 1 z92 rfl rfl rfl g4 g5 rfl rfl rfl) rfl rfl rfl rfl (xv 5 [] [0, 1] rfl (EV.mv rfl) rfl rfl rfl rfl (xv 6 [] [0, 1] rfl (EV.mv rfl) rfl rfl rfl rfl (cutp (l' := x25_3.drop x25_5.toNat) x25_5 (x25_3.length : Int) 0 rfl g6 g7 (Int.le_refl _) rfl 1 dq (.inl dq) ctl (xv 7 [] [0, 1] rfl (EV.ct x25_5 (x25_3.length : Int) 0 rfl rfl rfl rfl g6 g7 (Int.le_refl _) rfl rfl ctnl) rfl rfl rfl rfl (one1 4 rfl rfl (op_lit (s := 7) (by_ := 56) k92 ([(⟨(⟨(rd_T92 l0 x25_4).f0.f0, (rd_T92 l0 x25_4).f0.f1, (rd_T92 l0 x25_4).f0.f2⟩ : S70), (⟨(rd_T92 l0 x25_4).f1.f0, (rd_T92 l0 x25_4).f1.f1, (rd_T92 l0 x25_4).f1.f2⟩ : S70), (rd_T92 l0 x25_4).f2⟩ : S92)] : List S92) [[]] [] 2 [.tmp 36] rfl rfl rfl rfl rfl rfl rfl rfl rfl rfl rfl rfl rfl dq rfl fun A37_8 c37_8 => (xs [] [0, 1] rfl rfl rfl (one1 8 rfl rfl ?_))))))))))))
   revert H; refine ggI ?_; intro g9 H
   refine op_app (k := k92) (s := 7) (by_ := 56) 3 2 rfl rfl rfl rfl (ap2 g9 dq) (ap2n g9 dq) (.inl rfl) true (fun _ => .inl rfl) rfl rfl fun A41_10 c41_10 => (nmE (en := [.sl 2 k92 Ax25_3 cx25_3 x25_3 1 true, .sl 0 k92 Al0 cl0 l0 0 false, .sl 1 k92 (cutA Ax25_3 cx25_3 x25_5.toNat 7) (cx25_3 - x25_5.toNat) (x25_3.drop x25_5.toNat) 1 true, .sl 2 k92 A41_10 c41_10 (([(⟨(⟨(rd_T92 l0 x25_4).f0.f0, (rd_T92 l0 x25_4).f0.f1, (rd_T92 l0 x25_4).f0.f2⟩ : S70), (⟨(rd_T92 l0 x25_4).f1.f0, (rd_T92 l0 x25_4).f1.f1, (rd_T92 l0 x25_4).f1.f2⟩ : S70), (rd_T92 l0 x25_4).f2⟩ : S92)] : List S92) ++ (x25_3.drop x25_5.toNat)) 2 true]) (by kernel_rfl) (xs [] [0, 1] rfl rfl rfl (one1 9 rfl rfl (ov (EV.as rfl) rfl (xn rfl (xd (pr [0, 3, 4, 5, 6] [] [0, 1, 3] rfl rfl rfl rfl (rg (so rfl (op_lit (s := 7) (by_ := 56) k92 ([] : List S92) [] [] 3 [] rfl rfl rfl rfl rfl rfl rfl rfl rfl rfl rfl rfl rfl dq rfl fun A42_11 c42_11 => (sv (EV.mv rfl) rfl (sv (EV.mv rfl) rfl (cutp (l' := x25_3.take x25_5.toNat) 0 x25_5 0 rfl (Int.le_refl 0) g6 g7 rfl 2 dq (.inr rfl) rfl (sv (EV.ct 0 x25_5 0 rfl rfl rfl rfl (Int.le_refl 0) g6 g7 rfl rfl ctnh) rfl ?_))))))))))))))
   revert H; refine ggI ?_; intro g12 H
   refine so rfl (op_app (k := k92) (s := 7) (by_ := 56) 3 4 rfl rfl rfl rfl (ap0 g12 dq) (ap0n g12 dq) (.inl rfl) true (fun _ => .inl rfl) rfl rfl fun A46_13 c46_13 => (nmE (en := [.sl 2 k92 Ax25_3 cx25_3 x25_3 1 true, .sl 0 k92 Al0 cl0 l0 0 false, .sl 2 k92 A41_10 c41_10 (([(⟨(⟨(rd_T92 l0 x25_4).f0.f0, (rd_T92 l0 x25_4).f0.f1, (rd_T92 l0 x25_4).f0.f2⟩ : S70), (⟨(rd_T92 l0 x25_4).f1.f0, (rd_T92 l0 x25_4).f1.f1, (rd_T92 l0 x25_4).f1.f2⟩ : S70), (rd_T92 l0 x25_4).f2⟩ : S92)] : List S92) ++ (x25_3.drop x25_5.toNat)) 2 true, .sl 2 k92 (cutA Ax25_3 cx25_3 (0 : Int).toNat 7) (cx25_3 - (0 : Int).toNat) (x25_3.take x25_5.toNat) 1 true, .sl 2 k92 A46_13 c46_13 (x25_3.take x25_5.toNat) 3 true]) (by kernel_rfl) (sv (EV.mv rfl) rfl ?_)))
   revert H; refine ggI ?_; intro g14 H
   exact so rfl (op_app (k := k92) (s := 7) (by_ := 56) 4 2 rfl rfl rfl rfl (ap2 g14 dq) (ap2n g14 dq) (.inl rfl) true (fun _ => .inl rfl) rfl rfl fun A48_15 c48_15 => (nmE (en := [.sl 2 k92 Ax25_3 cx25_3 x25_3 1 true, .sl 0 k92 Al0 cl0 l0 0 false, .sl 2 k92 A41_10 c41_10 (([(⟨(⟨(rd_T92 l0 x25_4).f0.f0, (rd_T92 l0 x25_4).f0.f1, (rd_T92 l0 x25_4).f0.f2⟩ : S70), (⟨(rd_T92 l0 x25_4).f1.f0, (rd_T92 l0 x25_4).f1.f1, (rd_T92 l0 x25_4).f1.f2⟩ : S70), (rd_T92 l0 x25_4).f2⟩ : S92)] : List S92) ++ (x25_3.drop x25_5.toNat)) 2 true, .sl 2 k92 (cutA Ax25_3 cx25_3 (0 : Int).toNat 7) (cx25_3 - (0 : Int).toNat) (x25_3.take x25_5.toNat) 1 true, .sl 2 k92 A48_15 c48_15 ((x25_3.take x25_5.toNat) ++ (([(⟨(⟨(rd_T92 l0 x25_4).f0.f0, (rd_T92 l0 x25_4).f0.f1, (rd_T92 l0 x25_4).f0.f2⟩ : S70), (⟨(rd_T92 l0 x25_4).f1.f0, (rd_T92 l0 x25_4).f1.f1, (rd_T92 l0 x25_4).f1.f2⟩ : S70), (rd_T92 l0 x25_4).f2⟩ : S92)] : List S92) ++ (x25_3.drop x25_5.toNat))) 3 true]) (by kernel_rfl) (sv (EV.as rfl) rfl (re (pr [0, 3, 4] [] [1, 4] rfl rfl rfl rfl (ge (rg (sv (EV.mv rfl) rfl (sv (EV.add rfl rfl) rfl (sv (EV.as rfl) rfl (re (wk [0, 3, 4] [] [⟨1, 2, 1, true⟩, ⟨0, 0, 0, false⟩] (ih0 _ (by omega) _ ⟨(x25_3.take x25_5.toNat) ++ (([(⟨(⟨(rd_T92 l0 x25_4).f0.f0, (rd_T92 l0 x25_4).f0.f1, (rd_T92 l0 x25_4).f0.f2⟩ : S70), (⟨(rd_T92 l0 x25_4).f1.f0, (rd_T92 l0 x25_4).f1.f1, (rd_T92 l0 x25_4).f1.f2⟩ : S70), (rd_T92 l0 x25_4).f2⟩ : S92)] : List S92) ++ (x25_3.drop x25_5.toNat)), A48_15, c48_15, wrap64 (x25_4 + 1), H, rfl⟩)))))))))))))
  ·
   refine gb ?_
   refine lo (fun kk S => ∃ (x26_3 : List S92) (Ax26_3 : Option Addr) (cx26_3 : Nat) (x26_4 : Int) (x26_5 : Int), kk ≤ n0 ∧ spec_l7Sorted.l1 kk x26_3 x26_4 x26_5 l0 = some r0 ∧ S = ⟨[(0, .slice Al0 l0.length cl0), (3, .slice Ax26_3 x26_3.length cx26_3), (4, .int .i64 x26_4), (5, .int .i64 x26_5)], [], [.sl 2 k92 Ax26_3 cx26_3 x26_3 1 true, .sl 0 k92 Al0 cl0 l0 0 false]⟩) (fun S hS => ?_) (fun n1 ih1 S hS => ?_) ⟨x14_3, Ax14_3, cx14_3, x14_4, (x14_3.length : Int), by omega, H, rfl⟩ (fun h => wk [0, 3, 4, 5] [] [⟨0, 2, 1, true⟩, ⟨1, 0, 0, false⟩] h)
   · clear H; obtain ⟨_, _, _, _, _, _, H, _⟩ := hS; rw [spec_l7Sorted.l1] at H; cases H
   clear H
   obtain ⟨x26_3, Ax26_3, cx26_3, x26_4, x26_5, lk1, H, rfl⟩ := hS
   rw [spec_l7Sorted.l1] at H
   refine gs (gs (dr [] [0, 1] [] 15 rfl rfl rfl rfl (xv 0 [] [0, 1] rfl (EV.mv rfl) rfl rfl rfl rfl (xv 1 [] [0, 1] rfl (EV.gtr rfl rfl) rfl rfl rfl rfl (xv 2 [] [0, 1] rfl (EV.mv rfl) rfl rfl rfl rfl ?_)))))
   revert H; refine ifsI ?_ ?_ <;> intro c16 H
   ·
    refine ts 18 rfl (dT c16) (xv 3 [] [0, 1] rfl (EV.mv rfl) rfl rfl rfl rfl (xv 4 [] [0, 1] rfl (EV.mv rfl) rfl rfl rfl rfl (xv 5 [] [0, 1] rfl (EV.sub rfl rfl) rfl rfl rfl rfl ?_)))
    revert H; refine ggI ?_; intro g17 H
    revert H; refine ggI ?_; intro g18 H
    refine xv 6 [] [0, 1] rfl (EV.ix 0 rfl rfl rfl g17 g18 rfl) rfl rfl rfl rfl (xv 7 [] [0, 1] rfl (EV.le (v := .agg #[.int .i64 ((rd_T92 x26_3 (wrap64 (x26_5 - 1))).f0.f0), .int .i64 ((rd_T92 x26_3 (wrap64 (x26_5 - 1))).f0.f1), .int .i64 ((rd_T92 x26_3 (wrap64 (x26_5 - 1))).f0.f2), .int .i64 ((rd_T92 x26_3 (wrap64 (x26_5 - 1))).f1.f0), .int .i64 ((rd_T92 x26_3 (wrap64 (x26_5 - 1))).f1.f1), .int .i64 ((rd_T92 x26_3 (wrap64 (x26_5 - 1))).f1.f2), .bool ((rd_T92 x26_3 (wrap64 (x26_5 - 1))).f2)]) (wrap64 (x26_5 - 1)) 0 (some 7) 0 z92 rfl rfl rfl g17 g18 rfl rfl rfl) rfl rfl rfl rfl (xv 8 [] [0, 1] rfl (EV.mv rfl) rfl rfl rfl rfl (xv 9 [] [0, 1] rfl (EV.mv rfl) rfl rfl rfl rfl ?_)))
    revert H; refine ggI ?_; intro g19 H
    revert H; refine ggI ?_; intro g20 H
    refine xv 10 [] [0, 1] rfl (EV.ix 1 rfl rfl rfl g19 g20 rfl) rfl rfl rfl rfl (xv 11 [] [0, 1] rfl (EV.le (v := .agg #[.int .i64 ((rd_T92 l0 x26_4).f0.f0), .int .i64 ((rd_T92 l0 x26_4).f0.f1), .int .i64 ((rd_T92 l0 x26_4).f0.f2), .int .i64 ((rd_T92 l0 x26_4).f1.f0), .int .i64 ((rd_T92 l0 x26_4).f1.f1), .int .i64 ((rd_T92 l0 x26_4).f1.f2), .bool ((rd_T92 l0 x26_4).f2)]) x26_4 0 (some 7) 1 z92 rfl rfl rfl g19 g20 rfl rfl rfl) rfl rfl rfl rfl (one1 12 rfl rfl ?_))
    revert H; refine bdI ?_; rintro t21 A21 H
    refine op_call (spec_ComparePairs.ok n1 ((rd_T92 x26_3 (wrap64 (x26_5 - 1))).f0.f0) ((rd_T92 x26_3 (wrap64 (x26_5 - 1))).f0.f1) ((rd_T92 x26_3 (wrap64 (x26_5 - 1))).f0.f2) ((rd_T92 x26_3 (wrap64 (x26_5 - 1))).f1.f0) ((rd_T92 x26_3 (wrap64 (x26_5 - 1))).f1.f1) ((rd_T92 x26_3 (wrap64 (x26_5 - 1))).f1.f2) ((rd_T92 x26_3 (wrap64 (x26_5 - 1))).f2) ((rd_T92 l0 x26_4).f0.f0) ((rd_T92 l0 x26_4).f0.f1) ((rd_T92 l0 x26_4).f0.f2) ((rd_T92 l0 x26_4).f1.f0) ((rd_T92 l0 x26_4).f1.f1) ((rd_T92 l0 x26_4).f1.f2) ((rd_T92 l0 x26_4).f2) _ A21) [] 2 rfl rfl rfl rfl rfl ?_
    rintro _ _ _ ⟨rfl, rfl, rfl⟩
    refine xs [] [0, 1] rfl rfl rfl (xv 13 [] [0, 1] rfl (EV.gtr rfl rfl) rfl rfl rfl rfl (xv 14 [] [0, 1] rfl (EV.pt rfl rfl rfl) rfl rfl rfl rfl (xd ?_)))
    revert H; refine ifsI ?_ ?_ <;> intro c22 H
    ·
     exact gt rfl (dT c22) (gk (gb (rg (sv (EV.mv rfl) rfl (sv (EV.sub rfl rfl) rfl (sv (EV.as rfl) rfl (re (pr [0, 3, 4, 5, 19, 20, 21, 22, 23, 24, 25, 26, 27, 28, 29] [] [0, 1] rfl rfl rfl rfl (ge (wk [0, 3, 4, 5] [] [⟨0, 2, 1, true⟩, ⟨1, 0, 0, false⟩] (ih1 _ (by omega) _ ⟨x26_3, Ax26_3, cx26_3, x26_4, wrap64 (x26_5 - 1), by omega, H, rfl⟩)))))))))))
    ·
     exact gf rfl (dF c22) (gx rfl (wk [0, 3, 4, 5] [] [⟨0, 2, 1, true⟩, ⟨1, 0, 0, false⟩] (jh0 _ ⟨_, x26_3, Ax26_3, cx26_3, x26_4, x26_5, by omega, H, rfl⟩)))
   ·
    exact ts 18 rfl (dF c16) (xk 3 [] [0, 1] rfl rfl rfl rfl rfl (xk 4 [] [0, 1] rfl rfl rfl rfl rfl (xk 5 [] [0, 1] rfl rfl rfl rfl rfl (xk 6 [] [0, 1] rfl rfl rfl rfl rfl (xk 7 [] [0, 1] rfl rfl rfl rfl rfl (xk 8 [] [0, 1] rfl rfl rfl rfl rfl (xk 9 [] [0, 1] rfl rfl rfl rfl rfl (xk 10 [] [0, 1] rfl rfl rfl rfl rfl (xk 11 [] [0, 1] rfl rfl rfl rfl rfl (xk 12 [] [0, 1] rfl rfl rfl rfl rfl (xk 13 [] [0, 1] rfl rfl rfl rfl rfl (xv 14 [] [0, 1] rfl (EV.pf rfl rfl rfl) rfl rfl rfl rfl (xd (pr [0, 3, 4, 5, 30] [] [0, 1] rfl rfl rfl rfl (gf rfl rfl (gx rfl (wk [0, 3, 4, 5] [] [⟨0, 2, 1, true⟩, ⟨1, 0, 0, false⟩] (jh0 _ ⟨_, x26_3, Ax26_3, cx26_3, x26_4, x26_5, by omega, H, rfl⟩))))))))))))))))))
 ·
  refine gf rfl (dF c2) (gx rfl (gs (rg (sv (EV.mv rfl) rfl (sv (EV.as rfl) rfl (re (pr [2] [] [0] rfl rfl rfl rfl ?_)))))))
  cases H
  exact rt Try.func71 rfl (.tmp rfl .nil) rfl [] [⟨0, 2, 1, true⟩] rfl rfl rfl rfl rfl ⟨_, _, rfl, rfl, rfl⟩
end Go.Proofs.Ytajjeemkdjfilaa.K
namespace Go.Proofs.Ytajjeemkdjfilaa.K
open Go Go.RowKit
set_option linter.unusedVariables false
set_option linter.unusedSimpArgs false
def spec_EqualPairBags.l0 : Nat → (List S92) → (List S92) → Int → Option (Bool)
 | 0, _, _, _ => none
 | k + 1, x2_5, x2_6, x2_7 => if x2_7 < (x2_5.length : Int) then (if 0 ≤ x2_7 then (if x2_7 < (x2_6.length : Int) then (if ((((rd_T92 x2_5 x2_7).f0.f0) == ((rd_T92 x2_6 x2_7).f0.f0) && (((rd_T92 x2_5 x2_7).f0.f1) == ((rd_T92 x2_6 x2_7).f0.f1) && (((rd_T92 x2_5 x2_7).f0.f2) == ((rd_T92 x2_6 x2_7).f0.f2)))) && ((((rd_T92 x2_5 x2_7).f1.f0) == ((rd_T92 x2_6 x2_7).f1.f0) && (((rd_T92 x2_5 x2_7).f1.f1) == ((rd_T92 x2_6 x2_7).f1.f1) && (((rd_T92 x2_5 x2_7).f1.f2) == ((rd_T92 x2_6 x2_7).f1.f2)))) && (((rd_T92 x2_5 x2_7).f2) == ((rd_T92 x2_6 x2_7).f2)))) = true then (spec_EqualPairBags.l0 k x2_5 x2_6 (wrap64 (x2_7 + 1))) else (some false)) else none) else none) else (some true)
def spec_EqualPairBags.f (k : Nat) (l0 : List S92) (l1 : List S92) : Option (Bool) := (spec_l7Sorted.f k l0).bind fun t1 => ((spec_l7Sorted.f k l1).bind fun t2 => (if (t1.length : Int) = (t2.length : Int) then (spec_EqualPairBags.l0 k t1 t2 0) else (some false)))
set_option maxHeartbeats 4000000 in
set_option maxRecDepth 100000 in
theorem spec_EqualPairBags.ok (k : Nat) (l0 : List S92) (Al0 : Option Addr) (cl0 : Nat) (l1 : List S92) (Al1 : Option Addr) (cl1 : Nat) (r0 : Bool) (H : spec_EqualPairBags.f k l0 l1 = some r0) : Fn Try.prog 13 [.slice Al0 l0.length cl0, .slice Al1 l1.length cl1] [] [.sl 0 k92 Al0 cl0 l0 0 false, .sl 0 k92 Al1 cl1 l1 0 false] (fun v bx en => v = .bool r0 ∧ bx = [] ∧ en = []) := by
 refine fn_ 32 Try.func13 rfl rfl rfl (fun base T w0 => ?_)
 rw [spec_EqualPairBags.f] at H
 refine gs (rg (sv (EV.as rfl) rfl (re (gs (rg (sv (EV.mv rfl) rfl ?_))))))
 revert H; refine bdI ?_; rintro t1 A1 H
 refine so rfl (op_call (spec_l7Sorted.ok k l0 Al0 cl0 _ A1) [⟨0, 0, 0, false⟩] 1 rfl rfl rfl rfl rfl ?_)
 rintro _ _ _ ⟨At1, ct1, rfl, rfl, rfl⟩
 refine sv (EV.as rfl) rfl (re (gs (rg (sv (EV.mv rfl) rfl ?_))))
 revert H; refine bdI ?_; rintro t2 A2 H
 refine so rfl (op_call (spec_l7Sorted.ok k l1 Al1 cl1 _ A2) [⟨1, 0, 0, false⟩] 3 rfl rfl rfl rfl rfl ?_)
 rintro _ _ _ ⟨At2, ct2, rfl, rfl, rfl⟩
 refine sv (EV.as rfl) rfl (re (pr [5, 6] [] [2, 3] rfl rfl rfl rfl (gs (gs (rg (sv (EV.mv rfl) rfl (sv (EV.ln rfl) rfl (sv (EV.mv rfl) rfl (sv (EV.ln rfl) rfl (sv (EV.neq rfl rfl) rfl (re ?_)))))))))))
 revert H; refine ifsI ?_ ?_ <;> intro c3 H
 ·
  refine gf rfl (nF c3) (gk (gs (gs (rg (sv (EV.as rfl) rfl (re (gb ?_)))))))
  refine lo (fun kk S => ∃ (x2_5 : List S92) (Ax2_5 : Option Addr) (cx2_5 : Nat) (x2_6 : List S92) (Ax2_6 : Option Addr) (cx2_6 : Nat) (x2_7 : Int), spec_EqualPairBags.l0 kk x2_5 x2_6 x2_7 = some r0 ∧ S = ⟨[(5, .slice Ax2_5 x2_5.length cx2_5), (6, .slice Ax2_6 x2_6.length cx2_6), (7, .int .i64 x2_7)], [], [.sl 2 k92 Ax2_5 cx2_5 x2_5 1 true, .sl 2 k92 Ax2_6 cx2_6 x2_6 2 true]⟩) (fun S hS => ?_) (fun n0 ih0 S hS => ?_) ⟨t1, At1, ct1, t2, At2, ct2, 0, H, rfl⟩ (fun h => wk [5, 6, 7] [] [⟨0, 2, 1, true⟩, ⟨1, 2, 2, true⟩] h)
  · clear H; obtain ⟨_, _, _, _, _, _, _, H, _⟩ := hS; rw [spec_EqualPairBags.l0] at H; cases H
  clear H
  obtain ⟨x2_5, Ax2_5, cx2_5, x2_6, Ax2_6, cx2_6, x2_7, H, rfl⟩ := hS
  rw [spec_EqualPairBags.l0] at H
  refine gs (gs (rg (sv (EV.mv rfl) rfl (sv (EV.mv rfl) rfl (sv (EV.ln rfl) rfl (sv (EV.lss rfl rfl) rfl (re ?_)))))))
  revert H; refine ifsI ?_ ?_ <;> intro c4 H
  ·
   refine gt rfl (dT c4) (gk (gs (gb (gs ?_))))
   revert H; refine ggI ?_; intro g5 H
   revert H; refine ggI ?_; intro g6 H
   refine dr [] [0, 1] [] 9 rfl rfl rfl rfl (xv 0 [] [0, 1] rfl (EV.mv rfl) rfl rfl rfl rfl (xv 1 [] [0, 1] rfl (EV.mv rfl) rfl rfl rfl rfl (xv 2 [] [0, 1] rfl (EV.ix 0 rfl rfl rfl g5 c4 rfl) rfl rfl rfl rfl (xv 3 [] [0, 1] rfl (EV.le (v := .agg #[.int .i64 ((rd_T92 x2_5 x2_7).f0.f0), .int .i64 ((rd_T92 x2_5 x2_7).f0.f1), .int .i64 ((rd_T92 x2_5 x2_7).f0.f2), .int .i64 ((rd_T92 x2_5 x2_7).f1.f0), .int .i64 ((rd_T92 x2_5 x2_7).f1.f1), .int .i64 ((rd_T92 x2_5 x2_7).f1.f2), .bool ((rd_T92 x2_5 x2_7).f2)]) x2_7 0 (some 7) 0 z92 rfl rfl rfl g5 c4 rfl rfl rfl) rfl rfl rfl rfl (xv 4 [] [0, 1] rfl (EV.mv rfl) rfl rfl rfl rfl (xv 5 [] [0, 1] rfl (EV.mv rfl) rfl rfl rfl rfl (xv 6 [] [0, 1] rfl (EV.ix 1 rfl rfl rfl g5 g6 rfl) rfl rfl rfl rfl (xv 7 [] [0, 1] rfl (EV.le (v := .agg #[.int .i64 ((rd_T92 x2_6 x2_7).f0.f0), .int .i64 ((rd_T92 x2_6 x2_7).f0.f1), .int .i64 ((rd_T92 x2_6 x2_7).f0.f2), .int .i64 ((rd_T92 x2_6 x2_7).f1.f0), .int .i64 ((rd_T92 x2_6 x2_7).f1.f1), .int .i64 ((rd_T92 x2_6 x2_7).f1.f2), .bool ((rd_T92 x2_6 x2_7).f2)]) x2_7 0 (some 7) 1 z92 rfl rfl rfl g5 g6 rfl rfl rfl) rfl rfl rfl rfl (xv 8 [] [0, 1] rfl (EV.neS rfl rfl (fun d w => eq92 d w ((rd_T92 x2_5 x2_7).f0.f0) ((rd_T92 x2_6 x2_7).f0.f0) ((rd_T92 x2_5 x2_7).f0.f1) ((rd_T92 x2_6 x2_7).f0.f1) ((rd_T92 x2_5 x2_7).f0.f2) ((rd_T92 x2_6 x2_7).f0.f2) ((rd_T92 x2_5 x2_7).f1.f0) ((rd_T92 x2_6 x2_7).f1.f0) ((rd_T92 x2_5 x2_7).f1.f1) ((rd_T92 x2_6 x2_7).f1.f1) ((rd_T92 x2_5 x2_7).f1.f2) ((rd_T92 x2_6 x2_7).f1.f2) ((rd_T92 x2_5 x2_7).f2) ((rd_T92 x2_6 x2_7).f2))) rfl rfl rfl rfl (xd (pr [5, 6, 7, 31] [] [0, 1] rfl rfl rfl rfl ?_)))))))))))
   revert H; refine ifsI ?_ ?_ <;> intro c7 H
   ·
    exact gf rfl (bN c7) (gk (ge (rg (sv (EV.mv rfl) rfl (sv (EV.add rfl rfl) rfl (sv (EV.as rfl) rfl (re (wk [5, 6, 7] [] [⟨0, 2, 1, true⟩, ⟨1, 2, 2, true⟩] (ih0 _ (by omega) _ ⟨x2_5, Ax2_5, cx2_5, x2_6, Ax2_6, cx2_6, wrap64 (x2_7 + 1), H, rfl⟩)))))))))
   ·
    refine gt rfl (bM c7) (gs (rg (sv (EV.as rfl) rfl (re ?_))))
    cases H
    exact rt Try.func13 rfl (.tmp rfl .nil) rfl [] [] rfl rfl rfl rfl rfl ⟨rfl, rfl, rfl⟩
  ·
   refine gf rfl (dF c4) (gx rfl (gs (rg (sv (EV.as rfl) rfl (re (pr [4] [] [] rfl rfl rfl rfl ?_))))))
   cases H
   exact rt Try.func13 rfl (.tmp rfl .nil) rfl [] [] rfl rfl rfl rfl rfl ⟨rfl, rfl, rfl⟩
 ·
  refine gt rfl (nT c3) (gs (rg (sv (EV.as rfl) rfl (re (pr [4] [] [] rfl rfl rfl rfl ?_)))))
  cases H
  exact rt Try.func13 rfl (.tmp rfl .nil) rfl [] [] rfl rfl rfl rfl rfl ⟨rfl, rfl, rfl⟩
end Go.Proofs.Ytajjeemkdjfilaa.K
namespace Go.Proofs.Ytajjeemkdjfilaa.K
open Go Go.RowKit
set_option linter.unusedVariables false
set_option linter.unusedSimpArgs false
def spec_l1In.f (a0 : Int) (a1 : Int) (a2 : Int) : Option (Bool) := if a0 ≥ a1 then (some (decide (a0 ≤ a2))) else (some false)
set_option maxHeartbeats 4000000 in
set_option maxRecDepth 100000 in
theorem spec_l1In.ok (a0 : Int) (a1 : Int) (a2 : Int) (r0 : Bool) (H : spec_l1In.f a0 a1 a2 = some r0) : Fn Try.prog 72 [.int .i64 a0, .int .i64 a1, .int .i64 a2] [] [] (fun v bx en => v = .bool r0 ∧ bx = [] ∧ en = []) := by
 refine fn_ 15 Try.func72 rfl rfl rfl (fun base T w0 => ?_)
 rw [spec_l1In.f] at H
 refine gs (rg (sv (EV.as rfl) rfl (re (gs (rg (sv (EV.mv rfl) rfl (sv (EV.mv rfl) rfl (sv (EV.geq rfl rfl) rfl (sv (EV.mv rfl) rfl ?_)))))))))
 revert H; refine ifsI ?_ ?_ <;> intro c1 H
 ·
  refine ts 10 rfl (dT c1) (sv (EV.mv rfl) rfl (sv (EV.mv rfl) rfl (sv (EV.leq rfl rfl) rfl (sv (EV.pt rfl rfl rfl) rfl (sv (EV.as rfl) rfl (re (pr [6] [] [] rfl rfl rfl rfl ?_)))))))
  cases H
  exact rt Try.func72 rfl (.tmp rfl .nil) rfl [] [] rfl rfl rfl rfl rfl ⟨rfl, rfl, rfl⟩
 ·
  refine ts 10 rfl (dF c1) (sk rfl (sk rfl (sk rfl (sv (EV.pf rfl rfl rfl) rfl (sv (EV.as rfl) rfl (re (pr [6] [] [] rfl rfl rfl rfl ?_)))))))
  cases H
  exact rt Try.func72 rfl (.tmp rfl .nil) rfl [] [] rfl rfl rfl rfl rfl ⟨rfl, rfl, rfl⟩
end Go.Proofs.Ytajjeemkdjfilaa.K
namespace Go.Proofs.Ytajjeemkdjfilaa.K
open Go Go.RowKit
set_option linter.unusedVariables false
set_option linter.unusedSimpArgs false
def spec_IsValidJoinKind.f (a0 : Int) : Option (Bool) := (spec_l1In.f a0 1 4).bind fun t1 => (some t1)
set_option maxHeartbeats 4000000 in
set_option maxRecDepth 100000 in
theorem spec_IsValidJoinKind.ok (a0 : Int) (r0 : Bool) (H : spec_IsValidJoinKind.f a0 = some r0) : Fn Try.prog 14 [.int .i64 a0] [] [] (fun v bx en => v = .bool r0 ∧ bx = [] ∧ en = []) := by
 refine fn_ 5 Try.func14 rfl rfl rfl (fun base T w0 => ?_)
 rw [spec_IsValidJoinKind.f] at H
 refine gs (rg (sv (EV.as rfl) rfl (re (gs (rg (sv (EV.mv rfl) rfl ?_))))))
 revert H; refine bdI ?_; rintro t1 A1 H
 refine so rfl (op_call (spec_l1In.ok a0 1 4 _ A1) [] 1 rfl rfl rfl rfl rfl ?_)
 rintro _ _ _ ⟨rfl, rfl, rfl⟩
 refine sv (EV.as rfl) rfl (re ?_)
 cases H
 exact rt Try.func14 rfl (.tmp rfl .nil) rfl [] [] rfl rfl rfl rfl rfl ⟨rfl, rfl, rfl⟩
end Go.Proofs.Ytajjeemkdjfilaa.K
namespace Go.Proofs.Ytajjeemkdjfilaa.K
open Go Go.RowKit
set_option linter.unusedVariables false
set_option linter.unusedSimpArgs false
def spec_CountMatches.l0 : Nat → Int → Int → Int → Int → Int → (List S70) → Option (Int)
 | 0, _, _, _, _, _, _ => none
 | k + 1, x2_5, x2_6, x2_2_0, x2_2_1, x2_2_2, l1 => if x2_6 < (l1.length : Int) then (if 0 ≤ x2_6 then (if ((rd_T70 l1 x2_6).f0) = x2_2_0 then (spec_CountMatches.l0 k (wrap64 (x2_5 + 1)) (wrap64 (x2_6 + 1)) x2_2_0 x2_2_1 x2_2_2 l1) else (spec_CountMatches.l0 k x2_5 (wrap64 (x2_6 + 1)) x2_2_0 x2_2_1 x2_2_2 l1)) else none) else (some x2_5)
def spec_CountMatches.f (k : Nat) (a0_0 : Int) (a0_1 : Int) (a0_2 : Int) (l1 : List S70) : Option (Int) := spec_CountMatches.l0 k 0 0 a0_0 a0_1 a0_2 l1
set_option maxHeartbeats 4000000 in
set_option maxRecDepth 100000 in
theorem spec_CountMatches.ok (k : Nat) (a0_0 : Int) (a0_1 : Int) (a0_2 : Int) (l1 : List S70) (Al1 : Option Addr) (cl1 : Nat) (r0 : Int) (H : spec_CountMatches.f k a0_0 a0_1 a0_2 l1 = some r0) : Fn Try.prog 81 [.agg #[.int .i64 a0_0, .int .i64 a0_1, .int .i64 a0_2], .slice Al1 l1.length cl1] [] [.sl 0 k70 Al1 cl1 l1 0 false] (fun v bx en => v = .int .i64 r0 ∧ bx = [] ∧ en = []) := by
 refine fn_ 24 Try.func81 rfl rfl rfl (fun base T w0 => ?_)
 rw [spec_CountMatches.f] at H
 refine gs (rg (so rfl (op_box (cs := [.int .i64 a0_0, .int .i64 a0_1, .int .i64 a0_2]) rfl rfl rfl fun b2 => (sv (EV.as rfl) rfl (re (gs (rg (sv (EV.as rfl) rfl (re (gs (gs (rg (sv (EV.as rfl) rfl (re (gb ?_)))))))))))))))
 refine lo (fun kk S => ∃ (x2_5 : Int) (x2_6 : Int) (x2_2_0 : Int) (x2_2_1 : Int) (x2_2_2 : Int), spec_CountMatches.l0 kk x2_5 x2_6 x2_2_0 x2_2_1 x2_2_2 l1 = some r0 ∧ S = ⟨[(1, .slice Al1 l1.length cl1), (2, .pointer (some ⟨b2, 0, none⟩)), (5, .int .i64 x2_5), (6, .int .i64 x2_6)], [⟨b2, 70, [.int .i64 x2_2_0, .int .i64 x2_2_1, .int .i64 x2_2_2]⟩], [.sl 0 k70 Al1 cl1 l1 0 false]⟩) (fun S hS => ?_) (fun n0 ih0 S hS => ?_) ⟨0, 0, a0_0, a0_1, a0_2, H, rfl⟩ (fun h => wk [1, 2, 5, 6] [0] [⟨0, 0, 0, false⟩] h)
 · clear H; obtain ⟨_, _, _, _, _, H, _⟩ := hS; rw [spec_CountMatches.l0] at H; cases H
 clear H
 obtain ⟨x2_5, x2_6, x2_2_0, x2_2_1, x2_2_2, H, rfl⟩ := hS
 rw [spec_CountMatches.l0] at H
 refine gs (gs (rg (sv (EV.mv rfl) rfl (sv (EV.mv rfl) rfl (sv (EV.ln rfl) rfl (sv (EV.lss rfl rfl) rfl (re ?_)))))))
 revert H; refine ifsI ?_ ?_ <;> intro c1 H
 ·
  refine gt rfl (dT c1) (gk (gs (gb (gs ?_))))
  revert H; refine ggI ?_; intro g2 H
  refine dr [0] [0] [] 8 rfl rfl rfl rfl (xv 0 [0] [0] rfl (EV.mv rfl) rfl rfl rfl rfl (xv 1 [0] [0] rfl (EV.mv rfl) rfl rfl rfl rfl (xv 2 [0] [0] rfl (EV.ix 0 rfl rfl rfl g2 c1 rfl) rfl rfl rfl rfl (xv 3 [0] [0] rfl (EV.fa 0 rfl) rfl rfl rfl rfl (xv 4 [0] [0] rfl (EV.le (v := .int .i64 ((rd_T70 l1 x2_6).f0)) x2_6 0 none 0 z70 rfl rfl rfl g2 c1 rfl rfl rfl) rfl rfl rfl rfl (xv 5 [0] [0] rfl (EV.fa 0 rfl) rfl rfl rfl rfl (xv 6 [0] [0] rfl (EV.ld 0 none rfl rfl rfl) rfl rfl rfl rfl (xv 7 [0] [0] rfl (EV.eql rfl rfl) rfl rfl rfl rfl (xd (pr [1, 2, 5, 6, 20] [0] [0] rfl rfl rfl rfl ?_))))))))))
  revert H; refine ifsI ?_ ?_ <;> intro c3 H
  ·
   exact gt rfl (dT c3) (rg (sv (EV.mv rfl) rfl (sv (EV.add rfl rfl) rfl (sv (EV.as rfl) rfl (re (ge (rg (sv (EV.mv rfl) rfl (sv (EV.add rfl rfl) rfl (sv (EV.as rfl) rfl (re (wk [1, 2, 5, 6] [0] [⟨0, 0, 0, false⟩] (ih0 _ (by omega) _ ⟨wrap64 (x2_5 + 1), wrap64 (x2_6 + 1), x2_2_0, x2_2_1, x2_2_2, H, rfl⟩)))))))))))))
  ·
   exact gf rfl (dF c3) (gk (ge (rg (sv (EV.mv rfl) rfl (sv (EV.add rfl rfl) rfl (sv (EV.as rfl) rfl (re (wk [1, 2, 5, 6] [0] [⟨0, 0, 0, false⟩] (ih0 _ (by omega) _ ⟨x2_5, wrap64 (x2_6 + 1), x2_2_0, x2_2_1, x2_2_2, H, rfl⟩)))))))))
 ·
  refine gf rfl (dF c1) (gx rfl (gs (rg (sv (EV.mv rfl) rfl (sv (EV.as rfl) rfl (re (pr [4] [] [] rfl rfl rfl rfl ?_)))))))
  cases H
  exact rt Try.func81 rfl (.tmp rfl .nil) rfl [] [] rfl rfl rfl rfl rfl ⟨rfl, rfl, rfl⟩
end Go.Proofs.Ytajjeemkdjfilaa.K
namespace Go.Proofs.Ytajjeemkdjfilaa.K
open Go Go.RowKit
set_option linter.unusedVariables false
set_option linter.unusedSimpArgs false
def spec_l7One.l0 : Nat → Int → (List S92) → Int → Int → Int → Int → Int → (List S70) → Option ((List S92))
 | 0, _, _, _, _, _, _, _, _ => none
 | k + 1, x2_0, x2_7, x2_8, x2_9, x2_4_0, x2_4_1, x2_4_2, l2 => if x2_9 < (l2.length : Int) then (if 0 ≤ x2_9 then (if ((rd_T70 l2 x2_9).f0) = x2_4_0 then (if x2_7.length < 2513169434916 then (spec_l7One.l0 k x2_0 (x2_7 ++ ([(⟨(⟨x2_4_0, x2_4_1, x2_4_2⟩ : S70), (⟨(rd_T70 l2 x2_9).f0, (rd_T70 l2 x2_9).f1, (rd_T70 l2 x2_9).f2⟩ : S70), true⟩ : S92)] : List S92)) x2_8 (wrap64 (x2_9 + 1)) x2_4_0 x2_4_1 x2_4_2 l2) else none) else (spec_l7One.l0 k x2_0 x2_7 x2_8 (wrap64 (x2_9 + 1)) x2_4_0 x2_4_1 x2_4_2 l2)) else none) else (if x2_8 = 0 then (if x2_0 = 4 then (if x2_7.length < 2513169434916 then (some (x2_7 ++ ([(⟨(⟨x2_4_0, x2_4_1, x2_4_2⟩ : S70), (⟨0, 0, 0⟩ : S70), false⟩ : S92)] : List S92))) else none) else (some x2_7)) else (some x2_7))
def spec_l7One.f (k : Nat) (a0 : Int) (a1_0 : Int) (a1_1 : Int) (a1_2 : Int) (l2 : List S70) : Option ((List S92)) := (spec_CountMatches.f k a1_0 a1_1 a1_2 l2).bind fun t2 => (if a0 = 2 then (if t2 > 0 then (if ([] : List S92).length < 2513169434916 then (some ([(⟨(⟨a1_0, a1_1, a1_2⟩ : S70), (⟨0, 0, 0⟩ : S70), false⟩ : S92)] : List S92)) else none) else (some [])) else (if a0 = 3 then (if t2 = 0 then (if ([] : List S92).length < 2513169434916 then (some ([(⟨(⟨a1_0, a1_1, a1_2⟩ : S70), (⟨0, 0, 0⟩ : S70), false⟩ : S92)] : List S92)) else none) else (some [])) else (spec_l7One.l0 k a0 [] t2 0 a1_0 a1_1 a1_2 l2)))
set_option maxHeartbeats 4000000 in
set_option maxRecDepth 100000 in
theorem spec_l7One.ok (k : Nat) (a0 : Int) (a1_0 : Int) (a1_1 : Int) (a1_2 : Int) (l2 : List S70) (Al2 : Option Addr) (cl2 : Nat) (r0 : List S92) (H : spec_l7One.f k a0 a1_0 a1_1 a1_2 l2 = some r0) : Fn Try.prog 74 [.int .i64 a0, .agg #[.int .i64 a1_0, .int .i64 a1_1, .int .i64 a1_2], .slice Al2 l2.length cl2] [] [.sl 0 k70 Al2 cl2 l2 0 false] (fun v bx en => ∃ A0 c0, v = .slice A0 r0.length c0 ∧ bx = [] ∧ en = [.sl 2 k92 A0 c0 r0 1 true]) := by
 refine fn_ 70 Try.func74 rfl rfl rfl (fun base T w0 => ?_)
 rw [spec_l7One.f] at H
 refine gs (rg (so rfl (op_box (cs := [.int .i64 a1_0, .int .i64 a1_1, .int .i64 a1_2]) rfl rfl rfl fun b4 => (sv (EV.as rfl) rfl (re (gs (rg (so rfl (op_lit (s := 7) (by_ := 56) k92 ([] : List S92) [] [] 1 [] rfl rfl rfl rfl rfl rfl rfl rfl rfl rfl rfl rfl rfl dq rfl fun A10_1 c10_1 => (sv (EV.as rfl) rfl (re (gs (rg (sv (EV.ld (v := .agg #[.int .i64 a1_0, .int .i64 a1_1, .int .i64 a1_2]) 0 (some 3) rfl rfl rfl) rfl (sv (EV.mv rfl) rfl ?_)))))))))))))))
 revert H; refine bdI ?_; rintro t2 A2 H
 refine so rfl (op_call (spec_CountMatches.ok k a1_0 a1_1 a1_2 l2 Al2 cl2 _ A2) [⟨0, 0, 0, false⟩] 2 rfl rfl rfl rfl rfl ?_)
 rintro _ _ _ ⟨rfl, rfl, rfl⟩
 refine sv (EV.as rfl) rfl (re (pr [0, 2, 4, 7, 8] [0] [0, 1] rfl rfl rfl rfl (gs (gs (rg (sv (EV.mv rfl) rfl (re (gb (gs (rg (sv (EV.eql rfl rfl) rfl (sv (EV.as rfl) rfl (re ?_)))))))))))))
 revert H; refine ifsI ?_ ?_ <;> intro c3 H
 ·
  refine gt rfl (dT c3) (gs (gs (rg (sv (EV.mv rfl) rfl (sv (EV.gtr rfl rfl) rfl (re (pr [4, 7, 18] [0] [1] rfl rfl rfl rfl ?_)))))))
  revert H; refine ifsI ?_ ?_ <;> intro c4 H
  ·
   refine gt rfl (dT c4) (rg (sv (EV.mv rfl) rfl (sv (EV.ld (v := .agg #[.int .i64 a1_0, .int .i64 a1_1, .int .i64 a1_2]) 0 (some 3) rfl rfl rfl) rfl (sv (EV.bd (v := .agg #[.int .i64 a1_0, .int .i64 a1_1, .int .i64 a1_2, .int .i64 0, .int .i64 0, .int .i64 0, .bool false]) rfl (by kernel_rfl)) rfl (so rfl (op_lit (s := 7) (by_ := 56) k92 ([(⟨(⟨a1_0, a1_1, a1_2⟩ : S70), (⟨0, 0, 0⟩ : S70), false⟩ : S92)] : List S92) [[]] [] 2 [.tmp 21] rfl rfl rfl rfl rfl rfl rfl rfl rfl rfl rfl rfl rfl dq rfl fun A22_5 c22_5 => ?_))))))
   revert H; refine ggI ?_; intro g6 H
   refine so rfl (op_app (k := k92) (s := 7) (by_ := 56) 0 1 rfl rfl rfl rfl (ap1 g6 dq) (ap1n g6 dq) (.inl rfl) true (fun _ => .inl rfl) rfl rfl fun A23_7 c23_7 => (nmE (en := [.sl 2 k92 A22_5 c22_5 ([(⟨(⟨a1_0, a1_1, a1_2⟩ : S70), (⟨0, 0, 0⟩ : S70), false⟩ : S92)] : List S92) 2 true, .sl 2 k92 A23_7 c23_7 ([(⟨(⟨a1_0, a1_1, a1_2⟩ : S70), (⟨0, 0, 0⟩ : S70), false⟩ : S92)] : List S92) 1 true]) (by kernel_rfl) (sv (EV.as rfl) rfl (re (pr [7] [] [1] rfl rfl rfl rfl (gs (rg (sv (EV.mv rfl) rfl (sv (EV.as rfl) rfl (re ?_))))))))))
   cases H
   exact rt Try.func74 rfl (.tmp rfl .nil) rfl [] [⟨0, 2, 1, true⟩] rfl rfl rfl rfl rfl ⟨_, _, rfl, rfl, rfl⟩
  ·
   refine gf rfl (dF c4) (gk (gs (rg (sv (EV.mv rfl) rfl (sv (EV.as rfl) rfl (re ?_))))))
   cases H
   exact rt Try.func74 rfl (.tmp rfl .nil) rfl [] [⟨0, 2, 1, true⟩] rfl rfl rfl rfl rfl ⟨_, _, rfl, rfl, rfl⟩
 ·
  refine gf rfl (dF c3) (gs (rg (sv (EV.eql rfl rfl) rfl (sv (EV.as rfl) rfl (re ?_)))))
  revert H; refine ifsI ?_ ?_ <;> intro c8 H
  ·
   refine gt rfl (dT c8) (gs (gs (rg (sv (EV.mv rfl) rfl (sv (EV.eql rfl rfl) rfl (re (pr [4, 7, 28] [0] [1] rfl rfl rfl rfl ?_)))))))
   revert H; refine ifsI ?_ ?_ <;> intro c9 H
   ·
    refine gt rfl (dT c9) (rg (sv (EV.mv rfl) rfl (sv (EV.ld (v := .agg #[.int .i64 a1_0, .int .i64 a1_1, .int .i64 a1_2]) 0 (some 3) rfl rfl rfl) rfl (sv (EV.bd (v := .agg #[.int .i64 a1_0, .int .i64 a1_1, .int .i64 a1_2, .int .i64 0, .int .i64 0, .int .i64 0, .bool false]) rfl (by kernel_rfl)) rfl (so rfl (op_lit (s := 7) (by_ := 56) k92 ([(⟨(⟨a1_0, a1_1, a1_2⟩ : S70), (⟨0, 0, 0⟩ : S70), false⟩ : S92)] : List S92) [[]] [] 2 [.tmp 31] rfl rfl rfl rfl rfl rfl rfl rfl rfl rfl rfl rfl rfl dq rfl fun A32_10 c32_10 => ?_))))))
    revert H; refine ggI ?_; intro g11 H
    refine so rfl (op_app (k := k92) (s := 7) (by_ := 56) 0 1 rfl rfl rfl rfl (ap1 g11 dq) (ap1n g11 dq) (.inl rfl) true (fun _ => .inl rfl) rfl rfl fun A33_12 c33_12 => (nmE (en := [.sl 2 k92 A32_10 c32_10 ([(⟨(⟨a1_0, a1_1, a1_2⟩ : S70), (⟨0, 0, 0⟩ : S70), false⟩ : S92)] : List S92) 2 true, .sl 2 k92 A33_12 c33_12 ([(⟨(⟨a1_0, a1_1, a1_2⟩ : S70), (⟨0, 0, 0⟩ : S70), false⟩ : S92)] : List S92) 1 true]) (by kernel_rfl) (sv (EV.as rfl) rfl (re (pr [7] [] [1] rfl rfl rfl rfl (gs (rg (sv (EV.mv rfl) rfl (sv (EV.as rfl) rfl (re ?_))))))))))
    cases H
    exact rt Try.func74 rfl (.tmp rfl .nil) rfl [] [⟨0, 2, 1, true⟩] rfl rfl rfl rfl rfl ⟨_, _, rfl, rfl, rfl⟩
   ·
    refine gf rfl (dF c9) (gk (gs (rg (sv (EV.mv rfl) rfl (sv (EV.as rfl) rfl (re ?_))))))
    cases H
    exact rt Try.func74 rfl (.tmp rfl .nil) rfl [] [⟨0, 2, 1, true⟩] rfl rfl rfl rfl rfl ⟨_, _, rfl, rfl, rfl⟩
  ·
   refine gf rfl (dF c8) (gk (ge (gs (gs (rg (sv (EV.as rfl) rfl (re (gb ?_))))))))
   refine lo (fun kk S => ∃ (x2_0 : Int) (x2_7 : List S92) (Ax2_7 : Option Addr) (cx2_7 : Nat) (x2_8 : Int) (x2_9 : Int) (x2_4_0 : Int) (x2_4_1 : Int) (x2_4_2 : Int), spec_l7One.l0 kk x2_0 x2_7 x2_8 x2_9 x2_4_0 x2_4_1 x2_4_2 l2 = some r0 ∧ S = ⟨[(0, .int .i64 x2_0), (2, .slice Al2 l2.length cl2), (4, .pointer (some ⟨b4, 0, none⟩)), (7, .slice Ax2_7 x2_7.length cx2_7), (8, .int .i64 x2_8), (9, .int .i64 x2_9)], [⟨b4, 70, [.int .i64 x2_4_0, .int .i64 x2_4_1, .int .i64 x2_4_2]⟩], [.sl 2 k92 Ax2_7 cx2_7 x2_7 1 true, .sl 0 k70 Al2 cl2 l2 0 false]⟩) (fun S hS => ?_) (fun n0 ih0 S hS => ?_) ⟨a0, [], A10_1, c10_1, t2, 0, a1_0, a1_1, a1_2, H, rfl⟩ (fun h => wk [0, 2, 4, 7, 8, 9] [0] [⟨1, 2, 1, true⟩, ⟨0, 0, 0, false⟩] h)
   · clear H; obtain ⟨_, _, _, _, _, _, _, _, _, H, _⟩ := hS; rw [spec_l7One.l0] at H; cases H
   clear H
   obtain ⟨x2_0, x2_7, Ax2_7, cx2_7, x2_8, x2_9, x2_4_0, x2_4_1, x2_4_2, H, rfl⟩ := hS
   rw [spec_l7One.l0] at H
   refine gs (gs (rg (sv (EV.mv rfl) rfl (sv (EV.mv rfl) rfl (sv (EV.ln rfl) rfl (sv (EV.lss rfl rfl) rfl (re ?_)))))))
   revert H; refine ifsI ?_ ?_ <;> intro c13 H
   ·
    refine gt rfl (dT c13) (gk (gs (gb (gs ?_))))
    revert H; refine ggI ?_; intro g14 H
    refine dr [0] [0, 1] [] 8 rfl rfl rfl rfl (xv 0 [0] [0, 1] rfl (EV.mv rfl) rfl rfl rfl rfl (xv 1 [0] [0, 1] rfl (EV.mv rfl) rfl rfl rfl rfl (xv 2 [0] [0, 1] rfl (EV.ix 1 rfl rfl rfl g14 c13 rfl) rfl rfl rfl rfl (xv 3 [0] [0, 1] rfl (EV.fa 0 rfl) rfl rfl rfl rfl (xv 4 [0] [0, 1] rfl (EV.le (v := .int .i64 ((rd_T70 l2 x2_9).f0)) x2_9 0 none 1 z70 rfl rfl rfl g14 c13 rfl rfl rfl) rfl rfl rfl rfl (xv 5 [0] [0, 1] rfl (EV.fa 0 rfl) rfl rfl rfl rfl (xv 6 [0] [0, 1] rfl (EV.ld 0 none rfl rfl rfl) rfl rfl rfl rfl (xv 7 [0] [0, 1] rfl (EV.eql rfl rfl) rfl rfl rfl rfl (xd (pr [0, 2, 4, 7, 8, 9, 48] [0] [0, 1] rfl rfl rfl rfl ?_))))))))))
    revert H; refine ifsI ?_ ?_ <;> intro c15 H
    ·
     refine gt rfl (dT c15) ?_
     revert H; refine ggI ?_; intro g16 H
     exact dr [0] [1] [9] 10 rfl rfl rfl rfl (xv 0 [0] [1] rfl (EV.mv rfl) rfl rfl rfl rfl (xv 1 [0] [1] rfl (EV.ld (v := .agg #[.int .i64 x2_4_0, .int .i64 x2_4_1, .int .i64 x2_4_2]) 0 (some 3) rfl rfl rfl) rfl rfl rfl rfl (xv 2 [0] [1] rfl (EV.mv rfl) rfl rfl rfl rfl (xv 3 [0] [1] rfl (EV.mv rfl) rfl rfl rfl rfl (xv 4 [0] [1] rfl (EV.ix 0 rfl rfl rfl g14 c13 rfl) rfl rfl rfl rfl (xv 5 [0] [1] rfl (EV.le (v := .agg #[.int .i64 ((rd_T70 l2 x2_9).f0), .int .i64 ((rd_T70 l2 x2_9).f1), .int .i64 ((rd_T70 l2 x2_9).f2)]) x2_9 0 (some 3) 0 z70 rfl rfl rfl g14 c13 rfl rfl rfl) rfl rfl rfl rfl (xv 6 [0] [1] rfl (EV.bd (v := .agg #[.int .i64 x2_4_0, .int .i64 x2_4_1, .int .i64 x2_4_2, .int .i64 ((rd_T70 l2 x2_9).f0), .int .i64 ((rd_T70 l2 x2_9).f1), .int .i64 ((rd_T70 l2 x2_9).f2), .bool true]) rfl (by kernel_rfl)) rfl rfl rfl rfl (one1 7 rfl rfl (op_lit (s := 7) (by_ := 56) k92 ([(⟨(⟨x2_4_0, x2_4_1, x2_4_2⟩ : S70), (⟨(rd_T70 l2 x2_9).f0, (rd_T70 l2 x2_9).f1, (rd_T70 l2 x2_9).f2⟩ : S70), true⟩ : S92)] : List S92) [[]] [] 2 [.tmp 55] rfl rfl rfl rfl rfl rfl rfl rfl rfl rfl rfl rfl rfl dq rfl fun A56_17 c56_17 => (xs [0] [1] rfl rfl rfl (one1 8 rfl rfl (op_app (k := k92) (s := 7) (by_ := 56) 0 2 rfl rfl rfl rfl (ap1 g16 dq) (ap1n g16 dq) (.inl rfl) true (fun _ => .inl rfl) rfl rfl fun A57_18 c57_18 => (nmE (en := [.sl 0 k70 Al2 cl2 l2 0 false, .sl 2 k92 A56_17 c56_17 ([(⟨(⟨x2_4_0, x2_4_1, x2_4_2⟩ : S70), (⟨(rd_T70 l2 x2_9).f0, (rd_T70 l2 x2_9).f1, (rd_T70 l2 x2_9).f2⟩ : S70), true⟩ : S92)] : List S92) 2 true, .sl 2 k92 A57_18 c57_18 (x2_7 ++ ([(⟨(⟨x2_4_0, x2_4_1, x2_4_2⟩ : S70), (⟨(rd_T70 l2 x2_9).f0, (rd_T70 l2 x2_9).f1, (rd_T70 l2 x2_9).f2⟩ : S70), true⟩ : S92)] : List S92)) 1 true]) (by kernel_rfl) (xs [0] [0] rfl rfl rfl (one1 9 rfl rfl (ov (EV.as rfl) rfl (xn rfl (xd (pr [0, 2, 4, 7, 8, 9] [0] [0, 2] rfl rfl rfl rfl (ge (rg (sv (EV.mv rfl) rfl (sv (EV.add rfl rfl) rfl (sv (EV.as rfl) rfl (re (wk [0, 2, 4, 7, 8, 9] [0] [⟨1, 2, 1, true⟩, ⟨0, 0, 0, false⟩] (ih0 _ (by omega) _ ⟨x2_0, x2_7 ++ ([(⟨(⟨x2_4_0, x2_4_1, x2_4_2⟩ : S70), (⟨(rd_T70 l2 x2_9).f0, (rd_T70 l2 x2_9).f1, (rd_T70 l2 x2_9).f2⟩ : S70), true⟩ : S92)] : List S92), A57_18, c57_18, x2_8, wrap64 (x2_9 + 1), x2_4_0, x2_4_1, x2_4_2, H, rfl⟩)))))))))))))))))))))))))))
    ·
     exact gf rfl (dF c15) (gk (ge (rg (sv (EV.mv rfl) rfl (sv (EV.add rfl rfl) rfl (sv (EV.as rfl) rfl (re (wk [0, 2, 4, 7, 8, 9] [0] [⟨0, 2, 1, true⟩, ⟨1, 0, 0, false⟩] (ih0 _ (by omega) _ ⟨x2_0, x2_7, Ax2_7, cx2_7, x2_8, wrap64 (x2_9 + 1), x2_4_0, x2_4_1, x2_4_2, H, rfl⟩)))))))))
   ·
    refine gf rfl (dF c13) (gx rfl (gs (gs (rg (sv (EV.mv rfl) rfl (sv (EV.eql rfl rfl) rfl (sv (EV.mv rfl) rfl ?_)))))))
    revert H; refine ifsI ?_ ?_ <;> intro c19 H
    ·
     refine ts 60 rfl (dT c19) (sv (EV.mv rfl) rfl (sv (EV.eql rfl rfl) rfl (sv (EV.pt rfl rfl rfl) rfl (re (pr [4, 7, 63] [0] [0] rfl rfl rfl rfl ?_)))))
     revert H; refine ifsI ?_ ?_ <;> intro c20 H
     ·
      refine gt rfl (dT c20) (rg (sv (EV.mv rfl) rfl (sv (EV.ld (v := .agg #[.int .i64 x2_4_0, .int .i64 x2_4_1, .int .i64 x2_4_2]) 0 (some 3) rfl rfl rfl) rfl (sv (EV.bd (v := .agg #[.int .i64 x2_4_0, .int .i64 x2_4_1, .int .i64 x2_4_2, .int .i64 0, .int .i64 0, .int .i64 0, .bool false]) rfl (by kernel_rfl)) rfl (so rfl (op_lit (s := 7) (by_ := 56) k92 ([(⟨(⟨x2_4_0, x2_4_1, x2_4_2⟩ : S70), (⟨0, 0, 0⟩ : S70), false⟩ : S92)] : List S92) [[]] [] 2 [.tmp 66] rfl rfl rfl rfl rfl rfl rfl rfl rfl rfl rfl rfl rfl dq rfl fun A67_21 c67_21 => ?_))))))
      revert H; refine ggI ?_; intro g22 H
      refine so rfl (op_app (k := k92) (s := 7) (by_ := 56) 0 1 rfl rfl rfl rfl (ap1 g22 dq) (ap1n g22 dq) (.inl rfl) true (fun _ => .inl rfl) rfl rfl fun A68_23 c68_23 => (nmE (en := [.sl 2 k92 A67_21 c67_21 ([(⟨(⟨x2_4_0, x2_4_1, x2_4_2⟩ : S70), (⟨0, 0, 0⟩ : S70), false⟩ : S92)] : List S92) 2 true, .sl 2 k92 A68_23 c68_23 (x2_7 ++ ([(⟨(⟨x2_4_0, x2_4_1, x2_4_2⟩ : S70), (⟨0, 0, 0⟩ : S70), false⟩ : S92)] : List S92)) 1 true]) (by kernel_rfl) (sv (EV.as rfl) rfl (re (pr [7] [] [1] rfl rfl rfl rfl (gs (rg (sv (EV.mv rfl) rfl (sv (EV.as rfl) rfl (re ?_))))))))))
      cases H
      exact rt Try.func74 rfl (.tmp rfl .nil) rfl [] [⟨0, 2, 1, true⟩] rfl rfl rfl rfl rfl ⟨_, _, rfl, rfl, rfl⟩
     ·
      refine gf rfl (dF c20) (gk (gs (rg (sv (EV.mv rfl) rfl (sv (EV.as rfl) rfl (re ?_))))))
      cases H
      exact rt Try.func74 rfl (.tmp rfl .nil) rfl [] [⟨0, 2, 1, true⟩] rfl rfl rfl rfl rfl ⟨_, _, rfl, rfl, rfl⟩
    ·
     refine ts 60 rfl (dF c19) (sk rfl (sk rfl (sv (EV.pf rfl rfl rfl) rfl (re (pr [4, 7, 63] [0] [0] rfl rfl rfl rfl (gf rfl rfl (gk (gs (rg (sv (EV.mv rfl) rfl (sv (EV.as rfl) rfl (re ?_))))))))))))
     cases H
     exact rt Try.func74 rfl (.tmp rfl .nil) rfl [] [⟨0, 2, 1, true⟩] rfl rfl rfl rfl rfl ⟨_, _, rfl, rfl, rfl⟩
end Go.Proofs.Ytajjeemkdjfilaa.K
namespace Go.Proofs.Ytajjeemkdjfilaa.K
open Go Go.RowKit
set_option linter.unusedVariables false
set_option linter.unusedSimpArgs false
def spec_ReferenceJoin.l0 : Nat → Int → (List S92) → Int → (List S70) → (List S70) → Option ((List S92))
 | 0, _, _, _, _, _ => none
 | k + 1, x2_0, x2_7, x2_8, l1, l2 => if x2_8 < (l1.length : Int) then ((spec_IsValidJoinKind.f x2_0).bind fun t3 => (if t3 = true then (if 0 ≤ x2_8 then ((spec_l7One.f k x2_0 ((rd_T70 l1 x2_8).f0) ((rd_T70 l1 x2_8).f1) ((rd_T70 l1 x2_8).f2) l2).bind fun t6 => (if x2_7.length + t6.length ≤ 2513169434916 then (spec_ReferenceJoin.l0 k x2_0 (x2_7 ++ t6) (wrap64 (x2_8 + 1)) l1 l2) else none)) else none) else (some x2_7))) else (some x2_7)
def spec_ReferenceJoin.f (k : Nat) (a0 : Int) (l1 : List S70) (l2 : List S70) : Option ((List S92)) := spec_ReferenceJoin.l0 k a0 [] 0 l1 l2
set_option maxHeartbeats 4000000 in
set_option maxRecDepth 100000 in
theorem spec_ReferenceJoin.ok (k : Nat) (a0 : Int) (l1 : List S70) (Al1 : Option Addr) (cl1 : Nat) (l2 : List S70) (Al2 : Option Addr) (cl2 : Nat) (r0 : List S92) (H : spec_ReferenceJoin.f k a0 l1 l2 = some r0) : Fn Try.prog 18 [.int .i64 a0, .slice Al1 l1.length cl1, .slice Al2 l2.length cl2] [] [.sl 0 k70 Al1 cl1 l1 0 false, .sl 0 k70 Al2 cl2 l2 0 false] (fun v bx en => ∃ A0 c0, v = .slice A0 r0.length c0 ∧ bx = [] ∧ en = [.sl 2 k92 A0 c0 r0 1 true]) := by
 refine fn_ 30 Try.func18 rfl rfl rfl (fun base T w0 => ?_)
 rw [spec_ReferenceJoin.f] at H
 refine gs (rg (sv (EV.as rfl) rfl (re (gs (rg (so rfl (op_lit (s := 7) (by_ := 56) k92 ([] : List S92) [] [] 1 [] rfl rfl rfl rfl rfl rfl rfl rfl rfl rfl rfl rfl rfl dq rfl fun A9_1 c9_1 => (sv (EV.as rfl) rfl (re (gs (gs (rg (sv (EV.as rfl) rfl (re (gb ?_)))))))))))))))
 refine lo (fun kk S => ∃ (x2_0 : Int) (x2_7 : List S92) (Ax2_7 : Option Addr) (cx2_7 : Nat) (x2_8 : Int), spec_ReferenceJoin.l0 kk x2_0 x2_7 x2_8 l1 l2 = some r0 ∧ S = ⟨[(0, .int .i64 x2_0), (1, .slice Al1 l1.length cl1), (2, .slice Al2 l2.length cl2), (7, .slice Ax2_7 x2_7.length cx2_7), (8, .int .i64 x2_8)], [], [.sl 2 k92 Ax2_7 cx2_7 x2_7 1 true, .sl 0 k70 Al1 cl1 l1 0 false, .sl 0 k70 Al2 cl2 l2 0 false]⟩) (fun S hS => ?_) (fun n0 ih0 S hS => ?_) ⟨a0, [], A9_1, c9_1, 0, H, rfl⟩ (fun h => wk [0, 1, 2, 7, 8] [] [⟨2, 2, 1, true⟩, ⟨0, 0, 0, false⟩, ⟨1, 0, 0, false⟩] h)
 · clear H; obtain ⟨_, _, _, _, _, H, _⟩ := hS; rw [spec_ReferenceJoin.l0] at H; cases H
 clear H
 obtain ⟨x2_0, x2_7, Ax2_7, cx2_7, x2_8, H, rfl⟩ := hS
 rw [spec_ReferenceJoin.l0] at H
 refine gs (gs (rg (sv (EV.mv rfl) rfl (sv (EV.mv rfl) rfl (sv (EV.ln rfl) rfl (sv (EV.lss rfl rfl) rfl (sv (EV.mv rfl) rfl ?_)))))))
 revert H; refine ifsI ?_ ?_ <;> intro c2 H
 ·
  refine ts 14 rfl (dT c2) (sv (EV.mv rfl) rfl ?_)
  revert H; refine bdI ?_; rintro t3 A3 H
  refine so rfl (op_call (spec_IsValidJoinKind.ok x2_0 _ A3) [] 2 rfl rfl rfl rfl rfl ?_)
  rintro _ _ _ ⟨rfl, rfl, rfl⟩
  refine sv (EV.pt rfl rfl rfl) rfl (re ?_)
  revert H; refine ifsI ?_ ?_ <;> intro c4 H
  ·
   subst c4
   refine gt rfl rfl (gk (gs (gb (rg (sv (EV.mv rfl) rfl (sv (EV.mv rfl) rfl (sv (EV.mv rfl) rfl (sv (EV.mv rfl) rfl ?_))))))))
   revert H; refine ggI ?_; intro g5 H
   refine sv (EV.ix 1 rfl rfl rfl g5 c2 rfl) rfl (sv (EV.le (v := .agg #[.int .i64 ((rd_T70 l1 x2_8).f0), .int .i64 ((rd_T70 l1 x2_8).f1), .int .i64 ((rd_T70 l1 x2_8).f2)]) x2_8 0 (some 3) 1 z70 rfl rfl rfl g5 c2 rfl rfl rfl) rfl (sv (EV.mv rfl) rfl ?_))
   revert H; refine bdI ?_; rintro t6 A6 H
   refine so rfl (op_call (spec_l7One.ok n0 x2_0 ((rd_T70 l1 x2_8).f0) ((rd_T70 l1 x2_8).f1) ((rd_T70 l1 x2_8).f2) l2 Al2 cl2 _ A6) [⟨2, 0, 0, false⟩] 2 rfl rfl rfl rfl rfl ?_)
   rintro _ _ _ ⟨At6, ct6, rfl, rfl, rfl⟩
   revert H; refine ggI ?_; intro g7 H
   exact so rfl (op_app (k := k92) (s := 7) (by_ := 56) 0 3 rfl rfl rfl rfl (ap2 g7 dq) (ap2n g7 dq) (.inl rfl) true (fun _ => .inl rfl) rfl rfl fun A28_8 c28_8 => (nmE (en := [.sl 0 k70 Al1 cl1 l1 0 false, .sl 0 k70 Al2 cl2 l2 0 false, .sl 2 k92 At6 ct6 t6 3 true, .sl 2 k92 A28_8 c28_8 (x2_7 ++ t6) 1 true]) (by kernel_rfl) (sv (EV.as rfl) rfl (re (pr [0, 1, 2, 7, 8, 15, 16] [] [0, 1, 3] rfl rfl rfl rfl (ge (rg (sv (EV.mv rfl) rfl (sv (EV.add rfl rfl) rfl (sv (EV.as rfl) rfl (re (wk [0, 1, 2, 7, 8] [] [⟨2, 2, 1, true⟩, ⟨0, 0, 0, false⟩, ⟨1, 0, 0, false⟩] (ih0 _ (by omega) _ ⟨x2_0, x2_7 ++ t6, A28_8, c28_8, wrap64 (x2_8 + 1), H, rfl⟩)))))))))))))
  ·
   obtain rfl := bF c4
   refine gf rfl rfl (gx rfl (gs (rg (sv (EV.mv rfl) rfl (sv (EV.as rfl) rfl (re (pr [6] [] [0] rfl rfl rfl rfl ?_)))))))
   cases H
   exact rt Try.func18 rfl (.tmp rfl .nil) rfl [] [⟨0, 2, 1, true⟩] rfl rfl rfl rfl rfl ⟨_, _, rfl, rfl, rfl⟩
 ·
  refine ts 14 rfl (dF c2) (sk rfl (sk rfl (sv (EV.pf rfl rfl rfl) rfl (re (pr [0, 1, 2, 7, 8, 17] [] [0, 1, 2] rfl rfl rfl rfl (gf rfl rfl (gx rfl (gs (rg (sv (EV.mv rfl) rfl (sv (EV.as rfl) rfl (re (pr [6] [] [0] rfl rfl rfl rfl ?_)))))))))))))
  cases H
  exact rt Try.func18 rfl (.tmp rfl .nil) rfl [] [⟨0, 2, 1, true⟩] rfl rfl rfl rfl rfl ⟨_, _, rfl, rfl, rfl⟩
end Go.Proofs.Ytajjeemkdjfilaa.K
namespace Go.Proofs.Ytajjeemkdjfilaa.K
open Go Go.RowKit
set_option linter.unusedVariables false
set_option linter.unusedSimpArgs false
def spec_l6Rows.l0 : Nat → Int → (List S70) → (List S70) → Option (Bool)
 | 0, _, _, _ => none
 | k + 1, x2_5, l0, l1 => if x2_5 < (l0.length : Int) then (if 0 ≤ x2_5 then (if x2_5 < (l1.length : Int) then (if (((rd_T70 l0 x2_5).f0) == ((rd_T70 l1 x2_5).f0) && (((rd_T70 l0 x2_5).f1) == ((rd_T70 l1 x2_5).f1) && (((rd_T70 l0 x2_5).f2) == ((rd_T70 l1 x2_5).f2)))) = true then (spec_l6Rows.l0 k (wrap64 (x2_5 + 1)) l0 l1) else (some false)) else none) else none) else (some true)
def spec_l6Rows.f (k : Nat) (l0 : List S70) (l1 : List S70) : Option (Bool) := if (l0.length : Int) = (l1.length : Int) then (spec_l6Rows.l0 k 0 l0 l1) else (some false)
set_option maxHeartbeats 4000000 in
set_option maxRecDepth 100000 in
theorem spec_l6Rows.ok (k : Nat) (l0 : List S70) (Al0 : Option Addr) (cl0 : Nat) (l1 : List S70) (Al1 : Option Addr) (cl1 : Nat) (r0 : Bool) (H : spec_l6Rows.f k l0 l1 = some r0) : Fn Try.prog 82 [.slice Al0 l0.length cl0, .slice Al1 l1.length cl1] [] [.sl 0 k70 Al0 cl0 l0 0 false, .sl 0 k70 Al1 cl1 l1 0 false] (fun v bx en => v = .bool r0 ∧ bx = [] ∧ en = []) := by
 refine fn_ 26 Try.func82 rfl rfl rfl (fun base T w0 => ?_)
 rw [spec_l6Rows.f] at H
 refine gs (rg (sv (EV.as rfl) rfl (re (gs (gs (rg (sv (EV.mv rfl) rfl (sv (EV.ln rfl) rfl (sv (EV.mv rfl) rfl (sv (EV.ln rfl) rfl (sv (EV.neq rfl rfl) rfl (re ?_))))))))))))
 revert H; refine ifsI ?_ ?_ <;> intro c1 H
 ·
  refine gf rfl (nF c1) (gk (gs (gs (rg (sv (EV.as rfl) rfl (re (pr [0, 1, 5] [] [0, 1] rfl rfl rfl rfl (gb ?_))))))))
  refine lo (fun kk S => ∃ (x2_5 : Int), spec_l6Rows.l0 kk x2_5 l0 l1 = some r0 ∧ S = ⟨[(0, .slice Al0 l0.length cl0), (1, .slice Al1 l1.length cl1), (5, .int .i64 x2_5)], [], [.sl 0 k70 Al0 cl0 l0 0 false, .sl 0 k70 Al1 cl1 l1 0 false]⟩) (fun S hS => ?_) (fun n0 ih0 S hS => ?_) ⟨0, H, rfl⟩ (fun h => wk [0, 1, 5] [] [⟨0, 0, 0, false⟩, ⟨1, 0, 0, false⟩] h)
  · clear H; obtain ⟨_, H, _⟩ := hS; rw [spec_l6Rows.l0] at H; cases H
  clear H
  obtain ⟨x2_5, H, rfl⟩ := hS
  rw [spec_l6Rows.l0] at H
  refine gs (gs (rg (sv (EV.mv rfl) rfl (sv (EV.mv rfl) rfl (sv (EV.ln rfl) rfl (sv (EV.lss rfl rfl) rfl (re ?_)))))))
  revert H; refine ifsI ?_ ?_ <;> intro c2 H
  ·
   refine gt rfl (dT c2) (gk (gs (gb (gs ?_))))
   revert H; refine ggI ?_; intro g3 H
   revert H; refine ggI ?_; intro g4 H
   refine dr [] [0, 1] [] 9 rfl rfl rfl rfl (xv 0 [] [0, 1] rfl (EV.mv rfl) rfl rfl rfl rfl (xv 1 [] [0, 1] rfl (EV.mv rfl) rfl rfl rfl rfl (xv 2 [] [0, 1] rfl (EV.ix 0 rfl rfl rfl g3 c2 rfl) rfl rfl rfl rfl (xv 3 [] [0, 1] rfl (EV.le (v := .agg #[.int .i64 ((rd_T70 l0 x2_5).f0), .int .i64 ((rd_T70 l0 x2_5).f1), .int .i64 ((rd_T70 l0 x2_5).f2)]) x2_5 0 (some 3) 0 z70 rfl rfl rfl g3 c2 rfl rfl rfl) rfl rfl rfl rfl (xv 4 [] [0, 1] rfl (EV.mv rfl) rfl rfl rfl rfl (xv 5 [] [0, 1] rfl (EV.mv rfl) rfl rfl rfl rfl (xv 6 [] [0, 1] rfl (EV.ix 1 rfl rfl rfl g3 g4 rfl) rfl rfl rfl rfl (xv 7 [] [0, 1] rfl (EV.le (v := .agg #[.int .i64 ((rd_T70 l1 x2_5).f0), .int .i64 ((rd_T70 l1 x2_5).f1), .int .i64 ((rd_T70 l1 x2_5).f2)]) x2_5 0 (some 3) 1 z70 rfl rfl rfl g3 g4 rfl rfl rfl) rfl rfl rfl rfl (xv 8 [] [0, 1] rfl (EV.neS rfl rfl (fun d w => eq70 d w ((rd_T70 l0 x2_5).f0) ((rd_T70 l1 x2_5).f0) ((rd_T70 l0 x2_5).f1) ((rd_T70 l1 x2_5).f1) ((rd_T70 l0 x2_5).f2) ((rd_T70 l1 x2_5).f2))) rfl rfl rfl rfl (xd (pr [0, 1, 5, 25] [] [0, 1] rfl rfl rfl rfl ?_)))))))))))
   revert H; refine ifsI ?_ ?_ <;> intro c5 H
   ·
    exact gf rfl (bN c5) (gk (ge (rg (sv (EV.mv rfl) rfl (sv (EV.add rfl rfl) rfl (sv (EV.as rfl) rfl (re (wk [0, 1, 5] [] [⟨0, 0, 0, false⟩, ⟨1, 0, 0, false⟩] (ih0 _ (by omega) _ ⟨wrap64 (x2_5 + 1), H, rfl⟩)))))))))
   ·
    refine gt rfl (bM c5) (gs (rg (sv (EV.as rfl) rfl (re ?_))))
    cases H
    exact rt Try.func82 rfl (.tmp rfl .nil) rfl [] [] rfl rfl rfl rfl rfl ⟨rfl, rfl, rfl⟩
  ·
   refine gf rfl (dF c2) (gx rfl (gs (rg (sv (EV.as rfl) rfl (re (pr [4] [] [] rfl rfl rfl rfl ?_))))))
   cases H
   exact rt Try.func82 rfl (.tmp rfl .nil) rfl [] [] rfl rfl rfl rfl rfl ⟨rfl, rfl, rfl⟩
 ·
  refine gt rfl (nT c1) (gs (rg (sv (EV.as rfl) rfl (re (pr [4] [] [] rfl rfl rfl rfl ?_)))))
  cases H
  exact rt Try.func82 rfl (.tmp rfl .nil) rfl [] [] rfl rfl rfl rfl rfl ⟨rfl, rfl, rfl⟩
end Go.Proofs.Ytajjeemkdjfilaa.K
namespace Go.Proofs.Ytajjeemkdjfilaa.K
open Go Go.RowKit
set_option linter.unusedVariables false
set_option linter.unusedSimpArgs false
def spec_EqualTasks.l0 : Nat → Int → Int → Int → Int → Int → (List S70) → (List S70) → (List Bool) → (List S70) → (List S70) → (List Bool) → Option (Bool)
 | 0, _, _, _, _, _, _, _, _, _, _, _ => none
 | k + 1, x2_5, x2_2_0, x2_2_4, x2_3_0, x2_3_4, l0_1, l0_2, l0_3, l1_1, l1_2, l1_3 => if x2_5 < (l0_3.length : Int) then (if 0 ≤ x2_5 then (if x2_5 < (l1_3.length : Int) then (if ((rdOf false l0_3 x2_5) == (rdOf false l1_3 x2_5)) = true then (spec_EqualTasks.l0 k (wrap64 (x2_5 + 1)) x2_2_0 x2_2_4 x2_3_0 x2_3_4 l0_1 l0_2 l0_3 l1_1 l1_2 l1_3) else (some false)) else none) else none) else (some true)
def spec_EqualTasks.f (k : Nat) (a0_0 : Int) (l0_1 : List S70) (l0_2 : List S70) (l0_3 : List Bool) (a0_4 : Int) (a1_0 : Int) (l1_1 : List S70) (l1_2 : List S70) (l1_3 : List Bool) (a1_4 : Int) : Option (Bool) := if a0_0 = a1_0 then ((spec_l6Rows.f k l0_1 l1_1).bind fun t2 => (if t2 = true then ((spec_l6Rows.f k l0_2 l1_2).bind fun t4 => (if t4 = true then (if a0_4 = a1_4 then (if (l0_3.length : Int) = (l1_3.length : Int) then (spec_EqualTasks.l0 k 0 a0_0 a0_4 a1_0 a1_4 l0_1 l0_2 l0_3 l1_1 l1_2 l1_3) else (some false)) else (some false)) else (some false))) else (some false))) else (some false)
set_option maxHeartbeats 4000000 in
set_option maxRecDepth 100000 in
theorem spec_EqualTasks.ok (k : Nat) (a0_0 : Int) (l0_1 : List S70) (Al0_1 : Option Addr) (cl0_1 : Nat) (l0_2 : List S70) (Al0_2 : Option Addr) (cl0_2 : Nat) (l0_3 : List Bool) (Al0_3 : Option Addr) (cl0_3 : Nat) (a0_4 : Int) (a1_0 : Int) (l1_1 : List S70) (Al1_1 : Option Addr) (cl1_1 : Nat) (l1_2 : List S70) (Al1_2 : Option Addr) (cl1_2 : Nat) (l1_3 : List Bool) (Al1_3 : Option Addr) (cl1_3 : Nat) (a1_4 : Int) (r0 : Bool) (H : spec_EqualTasks.f k a0_0 l0_1 l0_2 l0_3 a0_4 a1_0 l1_1 l1_2 l1_3 a1_4 = some r0) : Fn Try.prog 28 [.agg #[.int .i64 a0_0, .slice Al0_1 l0_1.length cl0_1, .slice Al0_2 l0_2.length cl0_2, .slice Al0_3 l0_3.length cl0_3, .int .i64 a0_4], .agg #[.int .i64 a1_0, .slice Al1_1 l1_1.length cl1_1, .slice Al1_2 l1_2.length cl1_2, .slice Al1_3 l1_3.length cl1_3, .int .i64 a1_4]] [] [.sl 0 k70 Al0_1 cl0_1 l0_1 0 false, .sl 0 k70 Al0_2 cl0_2 l0_2 0 false, .sl 0 .bool Al0_3 cl0_3 l0_3 0 false, .sl 0 k70 Al1_1 cl1_1 l1_1 0 false, .sl 0 k70 Al1_2 cl1_2 l1_2 0 false, .sl 0 .bool Al1_3 cl1_3 l1_3 0 false] (fun v bx en => v = .bool r0 ∧ bx = [] ∧ en = []) := by
 refine fn_ 61 Try.func28 rfl rfl rfl (fun base T w0 => ?_)
 rw [spec_EqualTasks.f] at H
 refine gs (rg (so rfl (op_box (cs := [.int .i64 a0_0, .slice Al0_1 l0_1.length cl0_1, .slice Al0_2 l0_2.length cl0_2, .slice Al0_3 l0_3.length cl0_3, .int .i64 a0_4]) rfl rfl rfl fun b2 => (so rfl (op_box (cs := [.int .i64 a1_0, .slice Al1_1 l1_1.length cl1_1, .slice Al1_2 l1_2.length cl1_2, .slice Al1_3 l1_3.length cl1_3, .int .i64 a1_4]) rfl rfl rfl fun b3 => (sv (EV.as rfl) rfl (re (gs (gs (rg (sv (EV.fa 0 rfl) rfl (sv (EV.ld 0 none rfl rfl rfl) rfl (sv (EV.fa 0 rfl) rfl (sv (EV.ld 1 none rfl rfl rfl) rfl (sv (EV.neq rfl rfl) rfl (sv (EV.mv rfl) rfl ?_))))))))))))))))
 revert H; refine ifsI ?_ ?_ <;> intro c1 H
 ·
  refine ts 11 rfl (nF c1) (sv (EV.fa 1 rfl) rfl (sv (EV.ld 0 none rfl rfl rfl) rfl (sv (EV.fa 1 rfl) rfl (sv (EV.ld 1 none rfl rfl rfl) rfl ?_))))
  revert H; refine bdI ?_; rintro t2 A2 H
  refine so rfl (op_call (spec_l6Rows.ok k l0_1 Al0_1 cl0_1 l1_1 Al1_1 cl1_1 _ A2) [⟨0, 0, 0, false⟩, ⟨3, 0, 0, false⟩] 1 rfl rfl rfl rfl rfl ?_)
  rintro _ _ _ ⟨rfl, rfl, rfl⟩
  refine sv (EV.nt rfl) rfl (sv (EV.pf rfl rfl rfl) rfl (sv (EV.mv rfl) rfl ?_))
  revert H; refine ifsI ?_ ?_ <;> intro c3 H
  ·
   subst c3
   refine ts 19 rfl rfl (sv (EV.fa 2 rfl) rfl (sv (EV.ld 0 none rfl rfl rfl) rfl (sv (EV.fa 2 rfl) rfl (sv (EV.ld 1 none rfl rfl rfl) rfl ?_))))
   revert H; refine bdI ?_; rintro t4 A4 H
   refine so rfl (op_call (spec_l6Rows.ok k l0_2 Al0_2 cl0_2 l1_2 Al1_2 cl1_2 _ A4) [⟨1, 0, 0, false⟩, ⟨4, 0, 0, false⟩] 1 rfl rfl rfl rfl rfl ?_)
   rintro _ _ _ ⟨rfl, rfl, rfl⟩
   refine sv (EV.nt rfl) rfl (sv (EV.pf rfl rfl rfl) rfl (sv (EV.mv rfl) rfl ?_))
   revert H; refine ifsI ?_ ?_ <;> intro c5 H
   ·
    subst c5
    refine ts 27 rfl rfl (sv (EV.fa 4 rfl) rfl (sv (EV.ld 0 none rfl rfl rfl) rfl (sv (EV.fa 4 rfl) rfl (sv (EV.ld 1 none rfl rfl rfl) rfl (sv (EV.neq rfl rfl) rfl (sv (EV.pf rfl rfl rfl) rfl (sv (EV.mv rfl) rfl ?_)))))))
    revert H; refine ifsI ?_ ?_ <;> intro c6 H
    ·
     refine ts 34 rfl (nF c6) (sv (EV.fa 3 rfl) rfl (sv (EV.ld 0 none rfl rfl rfl) rfl (sv (EV.ln rfl) rfl (sv (EV.fa 3 rfl) rfl (sv (EV.ld 1 none rfl rfl rfl) rfl (sv (EV.ln rfl) rfl (sv (EV.neq rfl rfl) rfl (sv (EV.pf rfl rfl rfl) rfl (re (pr [2, 3, 42] [0, 1] [0, 1, 2, 3, 4, 5] rfl rfl rfl rfl ?_))))))))))
     revert H; refine ifsI ?_ ?_ <;> intro c7 H
     ·
      refine gf rfl (nF c7) (gk (gs (gs (rg (sv (EV.as rfl) rfl (re (gb ?_)))))))
      refine lo (fun kk S => ∃ (x2_5 : Int) (x2_2_0 : Int) (x2_2_4 : Int) (x2_3_0 : Int) (x2_3_4 : Int), spec_EqualTasks.l0 kk x2_5 x2_2_0 x2_2_4 x2_3_0 x2_3_4 l0_1 l0_2 l0_3 l1_1 l1_2 l1_3 = some r0 ∧ S = ⟨[(2, .pointer (some ⟨b2, 0, none⟩)), (3, .pointer (some ⟨b3, 0, none⟩)), (5, .int .i64 x2_5)], [⟨b2, 44, [.int .i64 x2_2_0, .slice Al0_1 l0_1.length cl0_1, .slice Al0_2 l0_2.length cl0_2, .slice Al0_3 l0_3.length cl0_3, .int .i64 x2_2_4]⟩, ⟨b3, 44, [.int .i64 x2_3_0, .slice Al1_1 l1_1.length cl1_1, .slice Al1_2 l1_2.length cl1_2, .slice Al1_3 l1_3.length cl1_3, .int .i64 x2_3_4]⟩], [.sl 0 k70 Al0_1 cl0_1 l0_1 0 false, .sl 0 k70 Al0_2 cl0_2 l0_2 0 false, .sl 0 .bool Al0_3 cl0_3 l0_3 0 false, .sl 0 k70 Al1_1 cl1_1 l1_1 0 false, .sl 0 k70 Al1_2 cl1_2 l1_2 0 false, .sl 0 .bool Al1_3 cl1_3 l1_3 0 false]⟩) (fun S hS => ?_) (fun n0 ih0 S hS => ?_) ⟨0, a0_0, a0_4, a1_0, a1_4, H, rfl⟩ (fun h => wk [2, 3, 5] [0, 1] [⟨0, 0, 0, false⟩, ⟨1, 0, 0, false⟩, ⟨2, 0, 0, false⟩, ⟨3, 0, 0, false⟩, ⟨4, 0, 0, false⟩, ⟨5, 0, 0, false⟩] h)
      · clear H; obtain ⟨_, _, _, _, _, H, _⟩ := hS; rw [spec_EqualTasks.l0] at H; cases H
      clear H
      obtain ⟨x2_5, x2_2_0, x2_2_4, x2_3_0, x2_3_4, H, rfl⟩ := hS
      rw [spec_EqualTasks.l0] at H
      refine gs (gs (rg (sv (EV.mv rfl) rfl (sv (EV.fa 3 rfl) rfl (sv (EV.ld 0 none rfl rfl rfl) rfl (sv (EV.ln rfl) rfl (sv (EV.lss rfl rfl) rfl (re ?_))))))))
      revert H; refine ifsI ?_ ?_ <;> intro c8 H
      ·
       refine gt rfl (dT c8) (gk (gs (gb (gs ?_))))
       revert H; refine ggI ?_; intro g9 H
       revert H; refine ggI ?_; intro g10 H
       refine dr [0, 1] [0, 1, 2, 3, 4, 5] [] 11 rfl rfl rfl rfl (xv 0 [0, 1] [0, 1, 2, 3, 4, 5] rfl (EV.fa 3 rfl) rfl rfl rfl rfl (xv 1 [0, 1] [0, 1, 2, 3, 4, 5] rfl (EV.ld 0 none rfl rfl rfl) rfl rfl rfl rfl (xv 2 [0, 1] [0, 1, 2, 3, 4, 5] rfl (EV.mv rfl) rfl rfl rfl rfl (xv 3 [0, 1] [0, 1, 2, 3, 4, 5] rfl (EV.ix 2 rfl rfl rfl g9 c8 rfl) rfl rfl rfl rfl (xv 4 [0, 1] [0, 1, 2, 3, 4, 5] rfl (EV.le (v := .bool (rdOf false l0_3 x2_5)) x2_5 0 none 2 false rfl rfl rfl g9 c8 rfl rfl rfl) rfl rfl rfl rfl (xv 5 [0, 1] [0, 1, 2, 3, 4, 5] rfl (EV.fa 3 rfl) rfl rfl rfl rfl (xv 6 [0, 1] [0, 1, 2, 3, 4, 5] rfl (EV.ld 1 none rfl rfl rfl) rfl rfl rfl rfl (xv 7 [0, 1] [0, 1, 2, 3, 4, 5] rfl (EV.mv rfl) rfl rfl rfl rfl (xv 8 [0, 1] [0, 1, 2, 3, 4, 5] rfl (EV.ix 5 rfl rfl rfl g9 g10 rfl) rfl rfl rfl rfl (xv 9 [0, 1] [0, 1, 2, 3, 4, 5] rfl (EV.le (v := .bool (rdOf false l1_3 x2_5)) x2_5 0 none 5 false rfl rfl rfl g9 g10 rfl rfl rfl) rfl rfl rfl rfl (xv 10 [0, 1] [0, 1, 2, 3, 4, 5] rfl (EV.neb rfl rfl) rfl rfl rfl rfl (xd (pr [2, 3, 5, 60] [0, 1] [0, 1, 2, 3, 4, 5] rfl rfl rfl rfl ?_)))))))))))))
       revert H; refine ifsI ?_ ?_ <;> intro c11 H
       ·
        exact gf rfl (bN c11) (gk (ge (rg (sv (EV.mv rfl) rfl (sv (EV.add rfl rfl) rfl (sv (EV.as rfl) rfl (re (wk [2, 3, 5] [0, 1] [⟨0, 0, 0, false⟩, ⟨1, 0, 0, false⟩, ⟨2, 0, 0, false⟩, ⟨3, 0, 0, false⟩, ⟨4, 0, 0, false⟩, ⟨5, 0, 0, false⟩] (ih0 _ (by omega) _ ⟨wrap64 (x2_5 + 1), x2_2_0, x2_2_4, x2_3_0, x2_3_4, H, rfl⟩)))))))))
       ·
        refine gt rfl (bM c11) (gs (rg (sv (EV.as rfl) rfl (re ?_))))
        cases H
        exact rt Try.func28 rfl (.tmp rfl .nil) rfl [] [] rfl rfl rfl rfl rfl ⟨rfl, rfl, rfl⟩
      ·
       refine gf rfl (dF c8) (gx rfl (gs (rg (sv (EV.as rfl) rfl (re (pr [4] [] [] rfl rfl rfl rfl ?_))))))
       cases H
       exact rt Try.func28 rfl (.tmp rfl .nil) rfl [] [] rfl rfl rfl rfl rfl ⟨rfl, rfl, rfl⟩
     ·
      refine gt rfl (nT c7) (gs (rg (sv (EV.as rfl) rfl (re ?_))))
      cases H
      exact rt Try.func28 rfl (.tmp rfl .nil) rfl [] [] rfl rfl rfl rfl rfl ⟨rfl, rfl, rfl⟩
    ·
     refine ts 34 rfl (nT c6) (sk rfl (sk rfl (sk rfl (sk rfl (sk rfl (sk rfl (sk rfl (sv (EV.pt rfl rfl rfl) rfl (re (pr [2, 3, 42] [0, 1] [0, 1, 2, 3, 4, 5] rfl rfl rfl rfl (gt rfl rfl (gs (rg (sv (EV.as rfl) rfl (re ?_)))))))))))))))
     cases H
     exact rt Try.func28 rfl (.tmp rfl .nil) rfl [] [] rfl rfl rfl rfl rfl ⟨rfl, rfl, rfl⟩
   ·
    obtain rfl := bF c5
    refine ts 27 rfl rfl (sk rfl (sk rfl (sk rfl (sk rfl (sk rfl (sv (EV.pt rfl rfl rfl) rfl (sv (EV.mv rfl) rfl (sk rfl (sk rfl (sk rfl (sk rfl (sk rfl (sk rfl (sk rfl (sv (EV.pt rfl rfl rfl) rfl (re (pr [2, 3, 42] [0, 1] [0, 1, 2, 3, 4, 5] rfl rfl rfl rfl (gt rfl rfl (gs (rg (sv (EV.as rfl) rfl (re ?_))))))))))))))))))))))
    cases H
    exact rt Try.func28 rfl (.tmp rfl .nil) rfl [] [] rfl rfl rfl rfl rfl ⟨rfl, rfl, rfl⟩
  ·
   obtain rfl := bF c3
   refine ts 19 rfl rfl (sk rfl (sk rfl (sk rfl (sk rfl (sk rfl (sk rfl (sv (EV.pt rfl rfl rfl) rfl (sv (EV.mv rfl) rfl (sk rfl (sk rfl (sk rfl (sk rfl (sk rfl (sv (EV.pt rfl rfl rfl) rfl (sv (EV.mv rfl) rfl (sk rfl (sk rfl (sk rfl (sk rfl (sk rfl (sk rfl (sk rfl (sv (EV.pt rfl rfl rfl) rfl (re (pr [2, 3, 42] [0, 1] [0, 1, 2, 3, 4, 5] rfl rfl rfl rfl (gt rfl rfl (gs (rg (sv (EV.as rfl) rfl ?_)))))))))))))))))))))))))))))
   refine re ?_
   cases H
   exact rt Try.func28 rfl (.tmp rfl .nil) rfl [] [] rfl rfl rfl rfl rfl ⟨rfl, rfl, rfl⟩
 ·
  refine ts 11 rfl (nT c1) (sk rfl (sk rfl (sk rfl (sk rfl (sk rfl (sk rfl (sv (EV.pt rfl rfl rfl) rfl (sv (EV.mv rfl) rfl (sk rfl (sk rfl (sk rfl (sk rfl (sk rfl (sk rfl (sv (EV.pt rfl rfl rfl) rfl (sv (EV.mv rfl) rfl (sk rfl (sk rfl (sk rfl (sk rfl (sk rfl (sv (EV.pt rfl rfl rfl) rfl (sv (EV.mv rfl) rfl (sk rfl (sk rfl (sk rfl (sk rfl (sk rfl (sk rfl ?_)))))))))))))))))))))))))))))
  refine sk rfl (sv (EV.pt rfl rfl rfl) rfl (re (pr [2, 3, 42] [0, 1] [0, 1, 2, 3, 4, 5] rfl rfl rfl rfl (gt rfl rfl (gs (rg (sv (EV.as rfl) rfl (re ?_))))))))
  cases H
  exact rt Try.func28 rfl (.tmp rfl .nil) rfl [] [] rfl rfl rfl rfl rfl ⟨rfl, rfl, rfl⟩
end Go.Proofs.Ytajjeemkdjfilaa.K
namespace Go.Proofs.Ytajjeemkdjfilaa.K
open Go Go.RowKit
set_option linter.unusedVariables false
set_option linter.unusedSimpArgs false
mutual
def spec_l1New.j0 : Nat → Int → (List Int) → Option (Int × Int)
 | 0, _, _ => none
 | k + 1, x2_3, l0 => some (0, x2_3)
def spec_l1New.l0 : Nat → Int → Int → (List Int) → Option (Int × Int)
 | 0, _, _, _ => none
 | k + 1, x3_3, x3_4, l0 => if x3_4 < (l0.length : Int) then (if x3_4 < 4000 then (if 0 ≤ x3_4 then (spec_l1New.l0 k (andI (wrap64 ((wrap64 ((wrap64 (x3_3 * 131)) + (IntKind.i64.wrap (rdOf 0 l0 x3_4)))) + 7)) 1073741823) (wrap64 (x3_4 + 1)) l0) else none) else (spec_l1New.j0 k x3_3 l0)) else (spec_l1New.j0 k x3_3 l0)
end
def spec_l1New.f (k : Nat) (l0 : List Int) : Option (Int × Int) := spec_l1New.l0 k (wrap64 (10101 + (l0.length : Int))) 0 l0
set_option maxHeartbeats 4000000 in
set_option maxRecDepth 100000 in
theorem spec_l1New.ok (k : Nat) (l0 : List Int) (Al0 : Option Addr) (cl0 : Nat) (r0 : Int) (r1 : Int) (H : spec_l1New.f k l0 = some (r0, r1)) : Fn Try.prog 61 [.slice Al0 l0.length cl0] [] [.sl 0 (.int .u8) Al0 cl0 l0 0 false] (fun v bx en => ∃ rb0, v = .pointer (some ⟨rb0, 0, none⟩) ∧ bx = [⟨rb0, 111, [.slice Al0 l0.length cl0, .int .i64 r0, .int .i64 r1]⟩] ∧ en = []) := by
 refine fn_ 32 Try.func61 rfl rfl rfl (fun base T w0 => ?_)
 rw [spec_l1New.f] at H
 refine gs (rg (sv (EV.as rfl) rfl (re (gs (rg (sv (EV.mv rfl) rfl (sv (EV.ln rfl) rfl (sv (EV.add rfl rfl) rfl (sv (EV.as rfl) rfl (re ?_))))))))))
 refine jo (fun S => ∃ (m : Nat) (x2_3 : Int), spec_l1New.j0 m x2_3 l0 = some (r0, r1) ∧ S = ⟨[(0, .slice Al0 l0.length cl0), (3, .int .i64 x2_3)], [], [.sl 0 (.int .u8) Al0 cl0 l0 0 false]⟩) (fun S hS => ?_) (fun jh0 => ?_)
 ·
  clear H
  obtain ⟨m1, x2_3, H, rfl⟩ := hS
  rcases m1 with _ | m1
  · rw [spec_l1New.j0] at H; cases H
  rw [spec_l1New.j0] at H
  refine gs (rg (sv (EV.mv rfl) rfl (sv (EV.mv rfl) rfl (sv (EV.bd (v := .agg #[.slice Al0 l0.length cl0, .int .i64 0, .int .i64 x2_3]) rfl (by kernel_rfl)) rfl (so rfl (op_box (cs := [.slice Al0 l0.length cl0, .int .i64 0, .int .i64 x2_3]) rfl rfl rfl fun b31 => (sv (EV.as rfl) rfl (re (pr [2] [0] [0] rfl rfl rfl rfl ?_)))))))))
  cases H
  exact rt Try.func61 rfl (.tmp rfl .nil) rfl [0] [] rfl rfl rfl rfl rfl ⟨_, rfl, rfl, rfl⟩
 ·
  refine gs (rg (sv (EV.as rfl) rfl (re (gb ?_))))
  refine lo (fun kk S => ∃ (x3_3 : Int) (x3_4 : Int), spec_l1New.l0 kk x3_3 x3_4 l0 = some (r0, r1) ∧ S = ⟨[(0, .slice Al0 l0.length cl0), (3, .int .i64 x3_3), (4, .int .i64 x3_4)], [], [.sl 0 (.int .u8) Al0 cl0 l0 0 false]⟩) (fun S hS => ?_) (fun n0 ih0 S hS => ?_) ⟨wrap64 (10101 + (l0.length : Int)), 0, H, rfl⟩ (fun h => wk [0, 3, 4] [] [⟨0, 0, 0, false⟩] h)
  · clear H; obtain ⟨_, _, H, _⟩ := hS; rw [spec_l1New.l0] at H; cases H
  clear H
  obtain ⟨x3_3, x3_4, H, rfl⟩ := hS
  rw [spec_l1New.l0] at H
  refine gs (gs (rg (sv (EV.mv rfl) rfl (sv (EV.mv rfl) rfl (sv (EV.ln rfl) rfl (sv (EV.lss rfl rfl) rfl (sv (EV.mv rfl) rfl ?_)))))))
  revert H; refine ifsI ?_ ?_ <;> intro c2 H
  ·
   refine ts 12 rfl (dT c2) (sv (EV.mv rfl) rfl (sv (EV.lss rfl rfl) rfl (sv (EV.pt rfl rfl rfl) rfl (re ?_))))
   revert H; refine ifsI ?_ ?_ <;> intro c3 H
   ·
    refine gt rfl (dT c3) (gk (gs (gb (rg (sv (EV.mv rfl) rfl (sv (EV.mul rfl rfl) rfl (sv (EV.mv rfl) rfl (sv (EV.mv rfl) rfl ?_))))))))
    revert H; refine ggI ?_; intro g4 H
    exact sv (EV.ix 0 rfl rfl rfl g4 c2 rfl) rfl (sv (EV.le (v := .int .u8 (rdOf 0 l0 x3_4)) x3_4 0 none 0 0 rfl rfl rfl g4 c2 rfl rfl rfl) rfl (sv (EV.cv (k' := .i64) rfl) rfl (sv (EV.add rfl rfl) rfl (sv (EV.add rfl rfl) rfl (sv (EV.andI rfl rfl) rfl (sv (EV.as rfl) rfl (re (pr [0, 3, 4, 13, 14] [] [0] rfl rfl rfl rfl (ge (rg (sv (EV.mv rfl) rfl (sv (EV.add rfl rfl) rfl (sv (EV.as rfl) rfl (re (wk [0, 3, 4] [] [⟨0, 0, 0, false⟩] (ih0 _ (by omega) _ ⟨andI (wrap64 ((wrap64 ((wrap64 (x3_3 * 131)) + (IntKind.i64.wrap (rdOf 0 l0 x3_4)))) + 7)) 1073741823, wrap64 (x3_4 + 1), H, rfl⟩))))))))))))))))
   ·
    exact gf rfl (dF c3) (gx rfl (wk [0, 3] [] [⟨0, 0, 0, false⟩] (jh0 _ ⟨_, x3_3, H, rfl⟩)))
  ·
   exact ts 12 rfl (dF c2) (sk rfl (sk rfl (sv (EV.pf rfl rfl rfl) rfl (re (pr [0, 3, 4, 15] [] [0] rfl rfl rfl rfl (gf rfl rfl (gx rfl (wk [0, 3] [] [⟨0, 0, 0, false⟩] (jh0 _ ⟨_, x3_3, H, rfl⟩)))))))))
end Go.Proofs.Ytajjeemkdjfilaa.K
namespace Go.Proofs.Ytajjeemkdjfilaa.K
open Go Go.RowKit
set_option linter.unusedVariables false
set_option linter.unusedSimpArgs false
def spec_l1Byte.f (l0_0 : List Int) (a0_1 : Int) (a0_2 : Int) : Option (Int × Int × Int) := if a0_1 < (l0_0.length : Int) then (if 0 ≤ a0_1 then (some (andI (wrap64 ((andI (xorI (shrI (wrap64 ((wrap64 (a0_2 * 6364136223846793005)) + 1442695040888963407)) 33) (shrI (wrap64 ((wrap64 (a0_2 * 6364136223846793005)) + 1442695040888963407)) 45)) 255) + (IntKind.i64.wrap (rdOf 0 l0_0 a0_1)))) 255, wrap64 (a0_1 + 1), wrap64 ((wrap64 (a0_2 * 6364136223846793005)) + 1442695040888963407))) else none) else (some (andI (xorI (shrI (wrap64 ((wrap64 (a0_2 * 6364136223846793005)) + 1442695040888963407)) 33) (shrI (wrap64 ((wrap64 (a0_2 * 6364136223846793005)) + 1442695040888963407)) 45)) 255, a0_1, wrap64 ((wrap64 (a0_2 * 6364136223846793005)) + 1442695040888963407)))
set_option maxHeartbeats 4000000 in
set_option maxRecDepth 100000 in
theorem spec_l1Byte.ok (b1000 : Nat) (l0_0 : List Int) (Al0_0 : Option Addr) (cl0_0 : Nat) (a0_1 : Int) (a0_2 : Int) (r0 : Int) (r1 : Int) (r2 : Int) (H : spec_l1Byte.f l0_0 a0_1 a0_2 = some (r0, r1, r2)) : Fn Try.prog 114 [.pointer (some ⟨b1000, 0, none⟩)] [⟨b1000, 111, [.slice Al0_0 l0_0.length cl0_0, .int .i64 a0_1, .int .i64 a0_2]⟩] [.sl 0 (.int .u8) Al0_0 cl0_0 l0_0 0 false] (fun v bx en => v = .int .i64 r0 ∧ bx = [⟨b1000, 111, [.slice Al0_0 l0_0.length cl0_0, .int .i64 r1, .int .i64 r2]⟩] ∧ en = []) := by
 refine fn_ 58 Try.func114 rfl rfl rfl (fun base T w0 => ?_)
 rw [spec_l1Byte.f] at H
 refine gs (rg (sv (EV.as rfl) rfl (re (gs (rg (sv (EV.mv rfl) rfl (sv (EV.mv rfl) rfl (sv (EV.nc rfl) rfl (sv (EV.fa 2 rfl) rfl (sv (EV.ld 0 none rfl rfl rfl) rfl (sv (EV.mul rfl rfl) rfl (sv (EV.add rfl rfl) rfl (sv (EV.nc rfl) rfl (sv (EV.fa 2 rfl) rfl (so rfl (op_st (cs' := [.slice Al0_0 l0_0.length cl0_0, .int .i64 a0_1, .int .i64 (wrap64 ((wrap64 (a0_2 * 6364136223846793005)) + 1442695040888963407))]) 0 rfl rfl rfl rfl rfl rfl (re (pr [0] [0] [0] rfl rfl rfl rfl (gs (dr [0] [0] [] 13 rfl rfl rfl rfl (xv 0 [0] [0] rfl (EV.mv rfl) rfl rfl rfl rfl (xv 1 [0] [0] rfl (EV.nc rfl) rfl rfl rfl rfl (xv 2 [0] [0] rfl (EV.fa 2 rfl) rfl rfl rfl rfl (xv 3 [0] [0] rfl (EV.ld 0 none rfl rfl rfl) rfl rfl rfl rfl (xv 4 [0] [0] rfl (EV.shr rfl rfl dq) rfl rfl rfl rfl (xv 5 [0] [0] rfl (EV.mv rfl) rfl rfl rfl rfl (xv 6 [0] [0] rfl (EV.nc rfl) rfl rfl rfl rfl (xv 7 [0] [0] rfl (EV.fa 2 rfl) rfl rfl rfl rfl (xv 8 [0] [0] rfl (EV.ld 0 none rfl rfl rfl) rfl rfl rfl rfl ?_)))))))))))))))))))))))))))))
 refine xv 9 [0] [0] rfl (EV.shr rfl rfl dq) rfl rfl rfl rfl (xv 10 [0] [0] rfl (EV.xorI rfl rfl) rfl rfl rfl rfl (xv 11 [0] [0] rfl (EV.andI rfl rfl) rfl rfl rfl rfl (xv 12 [0] [0] rfl (EV.as rfl) rfl rfl rfl rfl (xd (pr [0, 3] [0] [0] rfl rfl rfl rfl (gs (gs (dr [0] [0] [] 10 rfl rfl rfl rfl (xv 0 [0] [0] rfl (EV.mv rfl) rfl rfl rfl rfl (xv 1 [0] [0] rfl (EV.nc rfl) rfl rfl rfl rfl (xv 2 [0] [0] rfl (EV.fa 1 rfl) rfl rfl rfl rfl (xv 3 [0] [0] rfl (EV.ld 0 none rfl rfl rfl) rfl rfl rfl rfl (xv 4 [0] [0] rfl (EV.mv rfl) rfl rfl rfl rfl (xv 5 [0] [0] rfl (EV.nc rfl) rfl rfl rfl rfl (xv 6 [0] [0] rfl (EV.fa 0 rfl) rfl rfl rfl rfl (xv 7 [0] [0] rfl (EV.ld 0 none rfl rfl rfl) rfl rfl rfl rfl (xv 8 [0] [0] rfl (EV.ln rfl) rfl rfl rfl rfl (xv 9 [0] [0] rfl (EV.lss rfl rfl) rfl rfl rfl rfl (xd (pr [0, 3, 34] [0] [0] rfl rfl rfl rfl ?_))))))))))))))))))))
 revert H; refine ifsI ?_ ?_ <;> intro c1 H
 ·
  refine gt rfl (dT c1) (gs ?_)
  revert H; refine ggI ?_; intro g2 H
  refine dr [0] [0] [] 15 rfl rfl rfl rfl (xv 0 [0] [0] rfl (EV.mv rfl) rfl rfl rfl rfl (xv 1 [0] [0] rfl (EV.mv rfl) rfl rfl rfl rfl (xv 2 [0] [0] rfl (EV.nc rfl) rfl rfl rfl rfl (xv 3 [0] [0] rfl (EV.fa 0 rfl) rfl rfl rfl rfl (xv 4 [0] [0] rfl (EV.ld 0 none rfl rfl rfl) rfl rfl rfl rfl (xv 5 [0] [0] rfl (EV.mv rfl) rfl rfl rfl rfl (xv 6 [0] [0] rfl (EV.nc rfl) rfl rfl rfl rfl (xv 7 [0] [0] rfl (EV.fa 1 rfl) rfl rfl rfl rfl (xv 8 [0] [0] rfl (EV.ld 0 none rfl rfl rfl) rfl rfl rfl rfl (xv 9 [0] [0] rfl (EV.ix 0 rfl rfl rfl g2 c1 rfl) rfl rfl rfl rfl (xv 10 [0] [0] rfl (EV.le (v := .int .u8 (rdOf 0 l0_0 a0_1)) a0_1 0 none 0 0 rfl rfl rfl g2 c1 rfl rfl rfl) rfl rfl rfl rfl (xv 11 [0] [0] rfl (EV.cv (k' := .i64) rfl) rfl rfl rfl rfl (xv 12 [0] [0] rfl (EV.add rfl rfl) rfl rfl rfl rfl (xv 13 [0] [0] rfl (EV.andI rfl rfl) rfl rfl rfl rfl (xv 14 [0] [0] rfl (EV.as rfl) rfl rfl rfl rfl (xd (pr [0, 3] [0] [0] rfl rfl rfl rfl (rg (sv (EV.mv rfl) rfl (sv (EV.mv rfl) rfl (sv (EV.nc rfl) rfl (sv (EV.fa 1 rfl) rfl (sv (EV.ld 0 none rfl rfl rfl) rfl (sv (EV.add rfl rfl) rfl (sv (EV.nc rfl) rfl (sv (EV.fa 1 rfl) rfl (so rfl (op_st (cs' := [.slice Al0_0 l0_0.length cl0_0, .int .i64 (wrap64 (a0_1 + 1)), .int .i64 (wrap64 ((wrap64 (a0_2 * 6364136223846793005)) + 1442695040888963407))]) 0 rfl rfl rfl rfl rfl rfl (re ?_)))))))))))))))))))))))))))))
  refine pr [3] [0] [0] rfl rfl rfl rfl (gs (rg (sv (EV.mv rfl) rfl (sv (EV.as rfl) rfl (re ?_)))))
  cases H
  exact rt Try.func114 rfl (.tmp rfl .nil) rfl [0] [] rfl rfl rfl rfl rfl ⟨rfl, rfl, rfl⟩
 ·
  refine gf rfl (dF c1) (gk (gs (rg (sv (EV.mv rfl) rfl (sv (EV.as rfl) rfl (re ?_))))))
  cases H
  exact rt Try.func114 rfl (.tmp rfl .nil) rfl [0] [] rfl rfl rfl rfl rfl ⟨rfl, rfl, rfl⟩
end Go.Proofs.Ytajjeemkdjfilaa.K
namespace Go.Proofs.Ytajjeemkdjfilaa.K
open Go Go.RowKit
set_option linter.unusedVariables false
set_option linter.unusedSimpArgs false
def spec_l1Below.f (l0_0 : List Int) (a0_1 : Int) (a0_2 : Int) (a1 : Int) : Option (Int × Int × Int) := if a1 ≤ 0 then (some (0, a0_1, a0_2)) else (if a1 ≤ 256 then ((spec_l1Byte.f l0_0 a0_1 a0_2).bind fun bt3 => (if a1 ≠ 0 then (some (Int.tmod bt3.1 a1, bt3.2.1, bt3.2.2)) else none)) else ((spec_l1Byte.f l0_0 a0_1 a0_2).bind fun bt5 => ((spec_l1Byte.f l0_0 bt5.2.1 bt5.2.2).bind fun bt6 => ((spec_l1Byte.f l0_0 bt6.2.1 bt6.2.2).bind fun bt7 => ((spec_l1Byte.f l0_0 bt7.2.1 bt7.2.2).bind fun bt8 => (if a1 ≠ 0 then (some (Int.tmod (wrap64 ((wrap64 ((wrap64 ((wrap64 (bt5.1 * 16777216)) + (wrap64 (bt6.1 * 65536)))) + (wrap64 (bt7.1 * 256)))) + bt8.1)) a1, bt8.2.1, bt8.2.2)) else none))))))
set_option maxHeartbeats 4000000 in
set_option maxRecDepth 100000 in
theorem spec_l1Below.ok (b1000 : Nat) (l0_0 : List Int) (Al0_0 : Option Addr) (cl0_0 : Nat) (a0_1 : Int) (a0_2 : Int) (a1 : Int) (r0 : Int) (r1 : Int) (r2 : Int) (H : spec_l1Below.f l0_0 a0_1 a0_2 a1 = some (r0, r1, r2)) : Fn Try.prog 106 [.pointer (some ⟨b1000, 0, none⟩), .int .i64 a1] [⟨b1000, 111, [.slice Al0_0 l0_0.length cl0_0, .int .i64 a0_1, .int .i64 a0_2]⟩] [.sl 0 (.int .u8) Al0_0 cl0_0 l0_0 0 false] (fun v bx en => v = .int .i64 r0 ∧ bx = [⟨b1000, 111, [.slice Al0_0 l0_0.length cl0_0, .int .i64 r1, .int .i64 r2]⟩] ∧ en = []) := by
 refine fn_ 37 Try.func106 rfl rfl rfl (fun base T w0 => ?_)
 rw [spec_l1Below.f] at H
 refine gs (rg (sv (EV.as rfl) rfl (re (gs (gs (rg (sv (EV.mv rfl) rfl (sv (EV.leq rfl rfl) rfl (re ?_)))))))))
 revert H; refine ifsI ?_ ?_ <;> intro c1 H
 ·
  refine gt rfl (dT c1) (gs (rg (sv (EV.as rfl) rfl (re ?_))))
  cases H
  exact rt Try.func106 rfl (.tmp rfl .nil) rfl [0] [] rfl rfl rfl rfl rfl ⟨rfl, rfl, rfl⟩
 ·
  refine gf rfl (dF c1) (gk (gs (gs (rg (sv (EV.mv rfl) rfl (sv (EV.leq rfl rfl) rfl (re ?_)))))))
  revert H; refine ifsI ?_ ?_ <;> intro c2 H
  ·
   refine gt rfl (dT c2) (gs (rg (sv (EV.mv rfl) rfl ?_)))
   revert H; refine bdI ?_; rintro ⟨t3_0, t3_1, t3_2⟩ A3 H
   refine so rfl (op_callM (spec_l1Byte.ok b1000 l0_0 Al0_0 cl0_0 a0_1 a0_2 _ _ _ A3) [⟨0, 0, 0, false⟩] [0] [] 1 rfl rfl rfl rfl rfl rfl rfl rfl ?_)
   rintro _ _ _ ⟨rfl, rfl, rfl⟩
   refine nmE (en := [.sl 0 (.int .u8) Al0_0 cl0_0 l0_0 0 false]) (by kernel_rfl) (sv (EV.mv rfl) rfl ?_)
   revert H; refine ggI ?_; intro g4 H
   refine sv (EV.rem rfl rfl g4) rfl (sv (EV.as rfl) rfl (re (pr [4] [0] [0] rfl rfl rfl rfl ?_)))
   cases H
   exact rt Try.func106 rfl (.tmp rfl .nil) rfl [0] [] rfl rfl rfl rfl rfl ⟨rfl, rfl, rfl⟩
  ·
   refine gf rfl (dF c2) (gk (gs (rg (sv (EV.mv rfl) rfl ?_))))
   revert H; refine bdI ?_; rintro ⟨t5_0, t5_1, t5_2⟩ A5 H
   refine so rfl (op_callM (spec_l1Byte.ok b1000 l0_0 Al0_0 cl0_0 a0_1 a0_2 _ _ _ A5) [⟨0, 0, 0, false⟩] [0] [] 1 rfl rfl rfl rfl rfl rfl rfl rfl ?_)
   rintro _ _ _ ⟨rfl, rfl, rfl⟩
   refine nmE (en := [.sl 0 (.int .u8) Al0_0 cl0_0 l0_0 0 false]) (by kernel_rfl) (sv (EV.as rfl) rfl (re (pr [0, 1, 5] [0] [0] rfl rfl rfl rfl (gs (rg (sv (EV.mv rfl) rfl ?_))))))
   revert H; refine bdI ?_; rintro ⟨t6_0, t6_1, t6_2⟩ A6 H
   refine so rfl (op_callM (spec_l1Byte.ok b1000 l0_0 Al0_0 cl0_0 t5_1 t5_2 _ _ _ A6) [⟨0, 0, 0, false⟩] [0] [] 1 rfl rfl rfl rfl rfl rfl rfl rfl ?_)
   rintro _ _ _ ⟨rfl, rfl, rfl⟩
   refine nmE (en := [.sl 0 (.int .u8) Al0_0 cl0_0 l0_0 0 false]) (by kernel_rfl) (sv (EV.as rfl) rfl (re (gs (rg (sv (EV.mv rfl) rfl ?_)))))
   revert H; refine bdI ?_; rintro ⟨t7_0, t7_1, t7_2⟩ A7 H
   refine so rfl (op_callM (spec_l1Byte.ok b1000 l0_0 Al0_0 cl0_0 t6_1 t6_2 _ _ _ A7) [⟨0, 0, 0, false⟩] [0] [] 1 rfl rfl rfl rfl rfl rfl rfl rfl ?_)
   rintro _ _ _ ⟨rfl, rfl, rfl⟩
   refine nmE (en := [.sl 0 (.int .u8) Al0_0 cl0_0 l0_0 0 false]) (by kernel_rfl) (sv (EV.as rfl) rfl (re (gs (rg (sv (EV.mv rfl) rfl ?_)))))
   revert H; refine bdI ?_; rintro ⟨t8_0, t8_1, t8_2⟩ A8 H
   refine so rfl (op_callM (spec_l1Byte.ok b1000 l0_0 Al0_0 cl0_0 t7_1 t7_2 _ _ _ A8) [⟨0, 0, 0, false⟩] [0] [] 1 rfl rfl rfl rfl rfl rfl rfl rfl ?_)
   rintro _ _ _ ⟨rfl, rfl, rfl⟩
   refine nmE (en := [.sl 0 (.int .u8) Al0_0 cl0_0 l0_0 0 false]) (by kernel_rfl) (sv (EV.as rfl) rfl (re (pr [1, 5, 6, 7, 8] [0] [0] rfl rfl rfl rfl (gs (rg (sv (EV.mv rfl) rfl (sv (EV.mul rfl rfl) rfl (sv (EV.mv rfl) rfl (sv (EV.mul rfl rfl) rfl (sv (EV.add rfl rfl) rfl (sv (EV.mv rfl) rfl (sv (EV.mul rfl rfl) rfl (sv (EV.add rfl rfl) rfl (sv (EV.mv rfl) rfl (sv (EV.add rfl rfl) rfl (sv (EV.mv rfl) rfl ?_))))))))))))))))
   revert H; refine ggI ?_; intro g9 H
   refine sv (EV.rem rfl rfl g9) rfl (sv (EV.as rfl) rfl (re (pr [4] [0] [0] rfl rfl rfl rfl ?_)))
   cases H
   exact rt Try.func106 rfl (.tmp rfl .nil) rfl [0] [] rfl rfl rfl rfl rfl ⟨rfl, rfl, rfl⟩
end Go.Proofs.Ytajjeemkdjfilaa.K
namespace Go.Proofs.Ytajjeemkdjfilaa.K
open Go Go.RowKit
set_option linter.unusedVariables false
set_option linter.unusedSimpArgs false
def spec_l1PickInt.f (l0_0 : List Int) (a0_1 : Int) (a0_2 : Int) (l1 : List Int) : Option (Int × Int × Int) := (spec_l1Below.f l0_0 a0_1 a0_2 (l1.length : Int)).bind fun bt1 => (if 0 ≤ bt1.1 then (if bt1.1 < (l1.length : Int) then (some (rdOf 0 l1 bt1.1, bt1.2.1, bt1.2.2)) else none) else none)
set_option maxHeartbeats 4000000 in
set_option maxRecDepth 100000 in
theorem spec_l1PickInt.ok (b1000 : Nat) (l0_0 : List Int) (Al0_0 : Option Addr) (cl0_0 : Nat) (a0_1 : Int) (a0_2 : Int) (l1 : List Int) (Al1 : Option Addr) (cl1 : Nat) (r0 : Int) (r1 : Int) (r2 : Int) (H : spec_l1PickInt.f l0_0 a0_1 a0_2 l1 = some (r0, r1, r2)) : Fn Try.prog 84 [.pointer (some ⟨b1000, 0, none⟩), .slice Al1 l1.length cl1] [⟨b1000, 111, [.slice Al0_0 l0_0.length cl0_0, .int .i64 a0_1, .int .i64 a0_2]⟩] [.sl 0 (.int .u8) Al0_0 cl0_0 l0_0 0 false, .sl 0 (.int .i64) Al1 cl1 l1 0 false] (fun v bx en => v = .int .i64 r0 ∧ bx = [⟨b1000, 111, [.slice Al0_0 l0_0.length cl0_0, .int .i64 r1, .int .i64 r2]⟩] ∧ en = []) := by
 refine fn_ 12 Try.func84 rfl rfl rfl (fun base T w0 => ?_)
 rw [spec_l1PickInt.f] at H
 refine gs (rg (sv (EV.as rfl) rfl (re (gs (rg (sv (EV.mv rfl) rfl (sv (EV.mv rfl) rfl (sv (EV.mv rfl) rfl (sv (EV.ln rfl) rfl ?_)))))))))
 revert H; refine bdI ?_; rintro ⟨t1_0, t1_1, t1_2⟩ A1 H
 refine so rfl (op_callM (spec_l1Below.ok b1000 l0_0 Al0_0 cl0_0 a0_1 a0_2 (l1.length : Int) _ _ _ A1) [⟨0, 0, 0, false⟩] [0] [] 1 rfl rfl rfl rfl rfl rfl rfl rfl ?_)
 rintro _ _ _ ⟨rfl, rfl, rfl⟩
 refine nmE (en := [.sl 0 (.int .u8) Al0_0 cl0_0 l0_0 0 false, .sl 0 (.int .i64) Al1 cl1 l1 0 false]) (by kernel_rfl) ?_
 revert H; refine ggI ?_; intro g2 H
 revert H; refine ggI ?_; intro g3 H
 refine sv (EV.ix 1 rfl rfl rfl g2 g3 rfl) rfl (sv (EV.le (v := .int .i64 (rdOf 0 l1 t1_0)) t1_0 0 none 1 0 rfl rfl rfl g2 g3 rfl rfl rfl) rfl (sv (EV.as rfl) rfl (re (pr [4] [0] [0] rfl rfl rfl rfl ?_))))
 cases H
 exact rt Try.func84 rfl (.tmp rfl .nil) rfl [0] [] rfl rfl rfl rfl rfl ⟨rfl, rfl, rfl⟩
end Go.Proofs.Ytajjeemkdjfilaa.K
namespace Go.Proofs.Ytajjeemkdjfilaa.K
open Go Go.RowKit
set_option linter.unusedVariables false
set_option linter.unusedSimpArgs false
def spec_l2Row.f (l0_0 : List Int) (a0_1 : Int) (a0_2 : Int) (a1 : Int) : Option (Int × Int × Int × Int × Int) := (spec_l1Below.f l0_0 a0_1 a0_2 a1).bind fun bt1 => ((spec_l1Below.f l0_0 bt1.2.1 bt1.2.2 100).bind fun bt2 => ((spec_l1PickInt.f l0_0 bt2.2.1 bt2.2.2 ([0, 0, 1, 2, 3] : List Int)).bind fun bt4 => (some (bt1.1, bt2.1, bt4.1, bt4.2.1, bt4.2.2))))
set_option maxHeartbeats 4000000 in
set_option maxRecDepth 100000 in
theorem spec_l2Row.ok (b1000 : Nat) (l0_0 : List Int) (Al0_0 : Option Addr) (cl0_0 : Nat) (a0_1 : Int) (a0_2 : Int) (a1 : Int) (r0 : Int) (r1 : Int) (r2 : Int) (r3 : Int) (r4 : Int) (H : spec_l2Row.f l0_0 a0_1 a0_2 a1 = some (r0, r1, r2, r3, r4)) : Fn Try.prog 111 [.pointer (some ⟨b1000, 0, none⟩), .int .i64 a1] [⟨b1000, 111, [.slice Al0_0 l0_0.length cl0_0, .int .i64 a0_1, .int .i64 a0_2]⟩] [.sl 0 (.int .u8) Al0_0 cl0_0 l0_0 0 false] (fun v bx en => v = .agg #[.int .i64 r0, .int .i64 r1, .int .i64 r2] ∧ bx = [⟨b1000, 111, [.slice Al0_0 l0_0.length cl0_0, .int .i64 r3, .int .i64 r4]⟩] ∧ en = []) := by
 refine fn_ 14 Try.func111 rfl rfl rfl (fun base T w0 => ?_)
 rw [spec_l2Row.f] at H
 refine gs (rg (so rfl (op_alloc (cs := [.int .i64 0, .int .i64 0, .int .i64 0]) (by kernel_rfl) rfl fun b4 => (re (gs (rg (sv (EV.mv rfl) rfl (sv (EV.mv rfl) rfl ?_))))))))
 revert H; refine bdI ?_; rintro ⟨t1_0, t1_1, t1_2⟩ A1 H
 refine so rfl (op_callM (spec_l1Below.ok b1000 l0_0 Al0_0 cl0_0 a0_1 a0_2 a1 _ _ _ A1) [⟨0, 0, 0, false⟩] [0] [1] 1 rfl rfl rfl rfl rfl rfl rfl rfl ?_)
 rintro _ _ _ ⟨rfl, rfl, rfl⟩
 refine nmE (en := [.sl 0 (.int .u8) Al0_0 cl0_0 l0_0 0 false]) (by kernel_rfl) (sv (EV.mv rfl) rfl ?_)
 revert H; refine bdI ?_; rintro ⟨t2_0, t2_1, t2_2⟩ A2 H
 refine so rfl (op_callM (spec_l1Below.ok b1000 l0_0 Al0_0 cl0_0 t1_1 t1_2 100 _ _ _ A2) [⟨0, 0, 0, false⟩] [1] [0] 1 rfl rfl rfl rfl rfl rfl rfl rfl ?_)
 rintro _ _ _ ⟨rfl, rfl, rfl⟩
 refine nmE (en := [.sl 0 (.int .u8) Al0_0 cl0_0 l0_0 0 false]) (by kernel_rfl) (sv (EV.mv rfl) rfl (so rfl (op_lit (s := 1) (by_ := 8) (.int .i64) ([0, 0, 1, 2, 3] : List Int) [[], [], [], [], []] [] 1 [.const (.int .i64 0), .const (.int .i64 0), .const (.int .i64 1), .const (.int .i64 2), .const (.int .i64 3)] rfl rfl rfl rfl rfl rfl rfl rfl rfl rfl rfl rfl rfl dq rfl fun A11_3 c11_3 => ?_)))
 revert H; refine bdI ?_; rintro ⟨t4_0, t4_1, t4_2⟩ A4 H
 refine so rfl (op_callM (spec_l1PickInt.ok b1000 l0_0 Al0_0 cl0_0 t2_1 t2_2 ([0, 0, 1, 2, 3] : List Int) A11_3 c11_3 _ _ _ A4) [⟨0, 0, 0, false⟩, ⟨1, 0, 0, false⟩] [1] [0] 2 rfl rfl rfl rfl rfl rfl rfl rfl ?_)
 rintro _ _ _ ⟨rfl, rfl, rfl⟩
 refine nmE (en := [.sl 0 (.int .u8) Al0_0 cl0_0 l0_0 0 false, .sl 2 (.int .i64) A11_3 c11_3 ([0, 0, 1, 2, 3] : List Int) 1 true]) (by kernel_rfl) (sv (EV.bd (v := .agg #[.int .i64 t1_0, .int .i64 t2_0, .int .i64 t4_0]) rfl (by kernel_rfl)) rfl (so rfl (op_st (cs' := [.int .i64 t1_0, .int .i64 t2_0, .int .i64 t4_0]) 0 rfl rfl rfl rfl rfl rfl (re (pr [4] [0, 1] [0] rfl rfl rfl rfl ?_)))))
 cases H
 exact rt Try.func111 rfl (.cell 0 (some 3) rfl rfl rfl .nil) rfl [1] [] rfl rfl rfl rfl rfl ⟨rfl, rfl, rfl⟩
end Go.Proofs.Ytajjeemkdjfilaa.K
namespace Go.Proofs.Ytajjeemkdjfilaa.K
open Go Go.RowKit
set_option linter.unusedVariables false
set_option linter.unusedSimpArgs false
def spec_l2Any.f (l0_0 : List Int) (a0_1 : Int) (a0_2 : Int) : Option (Int × Int × Int × Int × Int) := (spec_l2Row.f l0_0 a0_1 a0_2 10).bind fun bt1 => ((spec_l1Below.f l0_0 bt1.2.2.2.1 bt1.2.2.2.2 8).bind fun bt2 => (if bt2.1 = 0 then ((spec_l1PickInt.f l0_0 bt2.2.1 bt2.2.2 ([(-1), 10] : List Int)).bind fun bt5 => (some (bt5.1, bt1.2.1, bt1.2.2.1, bt5.2.1, bt5.2.2))) else (if bt2.1 = 1 then ((spec_l1PickInt.f l0_0 bt2.2.1 bt2.2.2 ([(-1), 100, 99] : List Int)).bind fun bt8 => (some (bt1.1, bt8.1, bt1.2.2.1, bt8.2.1, bt8.2.2))) else (if bt2.1 = 2 then ((spec_l1PickInt.f l0_0 bt2.2.1 bt2.2.2 ([(-1), 4] : List Int)).bind fun bt11 => (some (bt1.1, bt1.2.1, bt11.1, bt11.2.1, bt11.2.2))) else (some (bt1.1, bt1.2.1, bt1.2.2.1, bt2.2.1, bt2.2.2))))))
set_option maxHeartbeats 4000000 in
set_option maxRecDepth 100000 in
theorem spec_l2Any.ok (b1000 : Nat) (l0_0 : List Int) (Al0_0 : Option Addr) (cl0_0 : Nat) (a0_1 : Int) (a0_2 : Int) (r0 : Int) (r1 : Int) (r2 : Int) (r3 : Int) (r4 : Int) (H : spec_l2Any.f l0_0 a0_1 a0_2 = some (r0, r1, r2, r3, r4)) : Fn Try.prog 107 [.pointer (some ⟨b1000, 0, none⟩)] [⟨b1000, 111, [.slice Al0_0 l0_0.length cl0_0, .int .i64 a0_1, .int .i64 a0_2]⟩] [.sl 0 (.int .u8) Al0_0 cl0_0 l0_0 0 false] (fun v bx en => v = .agg #[.int .i64 r0, .int .i64 r1, .int .i64 r2] ∧ bx = [⟨b1000, 111, [.slice Al0_0 l0_0.length cl0_0, .int .i64 r3, .int .i64 r4]⟩] ∧ en = []) := by
 refine fn_ 27 Try.func107 rfl rfl rfl (fun base T w0 => ?_)
 rw [spec_l2Any.f] at H
 refine gs (rg (so rfl (op_alloc (cs := [.int .i64 0, .int .i64 0, .int .i64 0]) (by kernel_rfl) rfl fun b2 => (re (gs (rg (sv (EV.mv rfl) rfl ?_)))))))
 revert H; refine bdI ?_; rintro ⟨t1_0, t1_1, t1_2, t1_3, t1_4⟩ A1 H
 refine so rfl (op_callM (spec_l2Row.ok b1000 l0_0 Al0_0 cl0_0 a0_1 a0_2 10 _ _ _ _ _ A1) [⟨0, 0, 0, false⟩] [0] [1] 1 rfl rfl rfl rfl rfl rfl rfl rfl ?_)
 rintro _ _ _ ⟨rfl, rfl, rfl⟩
 refine nmE (en := [.sl 0 (.int .u8) Al0_0 cl0_0 l0_0 0 false]) (by kernel_rfl) (so rfl (op_alloc (cs := [.int .i64 0, .int .i64 0, .int .i64 0]) (by kernel_rfl) rfl fun b3 => (so rfl (op_st (cs' := [.int .i64 t1_0, .int .i64 t1_1, .int .i64 t1_2]) 2 rfl rfl rfl rfl rfl rfl (re (gs (gs (rg (sv (EV.mv rfl) rfl ?_)))))))))
 revert H; refine bdI ?_; rintro ⟨t2_0, t2_1, t2_2⟩ A2 H
 refine so rfl (op_callM (spec_l1Below.ok b1000 l0_0 Al0_0 cl0_0 t1_3 t1_4 8 _ _ _ A2) [⟨0, 0, 0, false⟩] [1] [0, 2] 1 rfl rfl rfl rfl rfl rfl rfl rfl ?_)
 rintro _ _ _ ⟨rfl, rfl, rfl⟩
 refine nmE (en := [.sl 0 (.int .u8) Al0_0 cl0_0 l0_0 0 false]) (by kernel_rfl) (re (gb (gs (rg (sv (EV.eql rfl rfl) rfl (sv (EV.as rfl) rfl (re ?_)))))))
 revert H; refine ifsI ?_ ?_ <;> intro c3 H
 ·
  refine gt rfl (dT c3) (rg (sv (EV.mv rfl) rfl (so rfl (op_lit (s := 1) (by_ := 8) (.int .i64) ([(-1), 10] : List Int) [[], []] [] 1 [.const (.int .i64 (-1)), .const (.int .i64 10)] rfl rfl rfl rfl rfl rfl rfl rfl rfl rfl rfl rfl rfl dq rfl fun A11_4 c11_4 => ?_))))
  revert H; refine bdI ?_; rintro ⟨t5_0, t5_1, t5_2⟩ A5 H
  refine so rfl (op_callM (spec_l1PickInt.ok b1000 l0_0 Al0_0 cl0_0 t2_1 t2_2 ([(-1), 10] : List Int) A11_4 c11_4 _ _ _ A5) [⟨0, 0, 0, false⟩, ⟨1, 0, 0, false⟩] [2] [0, 1] 2 rfl rfl rfl rfl rfl rfl rfl rfl ?_)
  rintro _ _ _ ⟨rfl, rfl, rfl⟩
  refine nmE (en := [.sl 0 (.int .u8) Al0_0 cl0_0 l0_0 0 false, .sl 2 (.int .i64) A11_4 c11_4 ([(-1), 10] : List Int) 1 true]) (by kernel_rfl) (sv (EV.fa 0 rfl) rfl (so rfl (op_st (cs' := [.int .i64 t5_0, .int .i64 t1_1, .int .i64 t1_2]) 1 rfl rfl rfl rfl rfl rfl (re (pr [2, 3] [0, 1, 2] [0] rfl rfl rfl rfl (ge (gs (rg (sv (EV.ld (v := .agg #[.int .i64 t5_0, .int .i64 t1_1, .int .i64 t1_2]) 1 (some 3) rfl rfl rfl) rfl (so rfl (op_st (cs' := [.int .i64 t5_0, .int .i64 t1_1, .int .i64 t1_2]) 0 rfl rfl rfl rfl rfl rfl (re ?_))))))))))))
  cases H
  exact rt Try.func107 rfl (.cell 0 (some 3) rfl rfl rfl .nil) rfl [2] [] rfl rfl rfl rfl rfl ⟨rfl, rfl, rfl⟩
 ·
  refine gf rfl (dF c3) (gs (rg (sv (EV.eql rfl rfl) rfl (sv (EV.as rfl) rfl (re (pr [0, 2, 3, 7, 14] [0, 1, 2] [0] rfl rfl rfl rfl ?_))))))
  revert H; refine ifsI ?_ ?_ <;> intro c6 H
  ·
   refine gt rfl (dT c6) (rg (sv (EV.mv rfl) rfl (so rfl (op_lit (s := 1) (by_ := 8) (.int .i64) ([(-1), 100, 99] : List Int) [[], [], []] [] 1 [.const (.int .i64 (-1)), .const (.int .i64 100), .const (.int .i64 99)] rfl rfl rfl rfl rfl rfl rfl rfl rfl rfl rfl rfl rfl dq rfl fun A17_7 c17_7 => ?_))))
   revert H; refine bdI ?_; rintro ⟨t8_0, t8_1, t8_2⟩ A8 H
   refine so rfl (op_callM (spec_l1PickInt.ok b1000 l0_0 Al0_0 cl0_0 t2_1 t2_2 ([(-1), 100, 99] : List Int) A17_7 c17_7 _ _ _ A8) [⟨0, 0, 0, false⟩, ⟨1, 0, 0, false⟩] [2] [0, 1] 2 rfl rfl rfl rfl rfl rfl rfl rfl ?_)
   rintro _ _ _ ⟨rfl, rfl, rfl⟩
   refine nmE (en := [.sl 0 (.int .u8) Al0_0 cl0_0 l0_0 0 false, .sl 2 (.int .i64) A17_7 c17_7 ([(-1), 100, 99] : List Int) 1 true]) (by kernel_rfl) (sv (EV.fa 1 rfl) rfl (so rfl (op_st (cs' := [.int .i64 t1_0, .int .i64 t8_0, .int .i64 t1_2]) 1 rfl rfl rfl rfl rfl rfl (re (pr [2, 3] [0, 1, 2] [0] rfl rfl rfl rfl (ge (gs (rg (sv (EV.ld (v := .agg #[.int .i64 t1_0, .int .i64 t8_0, .int .i64 t1_2]) 1 (some 3) rfl rfl rfl) rfl (so rfl (op_st (cs' := [.int .i64 t1_0, .int .i64 t8_0, .int .i64 t1_2]) 0 rfl rfl rfl rfl rfl rfl (re ?_))))))))))))
   cases H
   exact rt Try.func107 rfl (.cell 0 (some 3) rfl rfl rfl .nil) rfl [2] [] rfl rfl rfl rfl rfl ⟨rfl, rfl, rfl⟩
  ·
   refine gf rfl (dF c6) (gs (rg (sv (EV.eql rfl rfl) rfl (sv (EV.as rfl) rfl (re ?_)))))
   revert H; refine ifsI ?_ ?_ <;> intro c9 H
   ·
    refine gt rfl (dT c9) (rg (sv (EV.mv rfl) rfl (so rfl (op_lit (s := 1) (by_ := 8) (.int .i64) ([(-1), 4] : List Int) [[], []] [] 1 [.const (.int .i64 (-1)), .const (.int .i64 4)] rfl rfl rfl rfl rfl rfl rfl rfl rfl rfl rfl rfl rfl dq rfl fun A23_10 c23_10 => ?_))))
    revert H; refine bdI ?_; rintro ⟨t11_0, t11_1, t11_2⟩ A11 H
    refine so rfl (op_callM (spec_l1PickInt.ok b1000 l0_0 Al0_0 cl0_0 t2_1 t2_2 ([(-1), 4] : List Int) A23_10 c23_10 _ _ _ A11) [⟨0, 0, 0, false⟩, ⟨1, 0, 0, false⟩] [2] [0, 1] 2 rfl rfl rfl rfl rfl rfl rfl rfl ?_)
    rintro _ _ _ ⟨rfl, rfl, rfl⟩
    refine nmE (en := [.sl 0 (.int .u8) Al0_0 cl0_0 l0_0 0 false, .sl 2 (.int .i64) A23_10 c23_10 ([(-1), 4] : List Int) 1 true]) (by kernel_rfl) (sv (EV.fa 2 rfl) rfl (so rfl (op_st (cs' := [.int .i64 t1_0, .int .i64 t1_1, .int .i64 t11_0]) 1 rfl rfl rfl rfl rfl rfl (re (pr [2, 3] [0, 1, 2] [0] rfl rfl rfl rfl (ge (gs (rg (sv (EV.ld (v := .agg #[.int .i64 t1_0, .int .i64 t1_1, .int .i64 t11_0]) 1 (some 3) rfl rfl rfl) rfl (so rfl (op_st (cs' := [.int .i64 t1_0, .int .i64 t1_1, .int .i64 t11_0]) 0 rfl rfl rfl rfl rfl rfl (re ?_))))))))))))
    cases H
    exact rt Try.func107 rfl (.cell 0 (some 3) rfl rfl rfl .nil) rfl [2] [] rfl rfl rfl rfl rfl ⟨rfl, rfl, rfl⟩
   ·
    refine gf rfl (dF c9) (gk (ge (gs (rg (sv (EV.ld (v := .agg #[.int .i64 t1_0, .int .i64 t1_1, .int .i64 t1_2]) 1 (some 3) rfl rfl rfl) rfl (so rfl (op_st (cs' := [.int .i64 t1_0, .int .i64 t1_1, .int .i64 t1_2]) 0 rfl rfl rfl rfl rfl rfl (re (pr [2] [0, 2] [0] rfl rfl rfl rfl ?_)))))))))
    cases H
    exact rt Try.func107 rfl (.cell 0 (some 3) rfl rfl rfl .nil) rfl [1] [] rfl rfl rfl rfl rfl ⟨rfl, rfl, rfl⟩
end Go.Proofs.Ytajjeemkdjfilaa.K
namespace Go.Proofs.Ytajjeemkdjfilaa.K
open Go Go.RowKit
set_option linter.unusedVariables false
set_option linter.unusedSimpArgs false
def spec_l1Once.f (l0_0 : List Int) (a0_1 : Int) (a0_2 : Int) (a1 : Int) : Option (Bool × Int × Int) := (spec_l1Below.f l0_0 a0_1 a0_2 a1).bind fun bt1 => (some (decide (bt1.1 = 0), bt1.2.1, bt1.2.2))
set_option maxHeartbeats 4000000 in
set_option maxRecDepth 100000 in
theorem spec_l1Once.ok (b1000 : Nat) (l0_0 : List Int) (Al0_0 : Option Addr) (cl0_0 : Nat) (a0_1 : Int) (a0_2 : Int) (a1 : Int) (r0 : Bool) (r1 : Int) (r2 : Int) (H : spec_l1Once.f l0_0 a0_1 a0_2 a1 = some (r0, r1, r2)) : Fn Try.prog 105 [.pointer (some ⟨b1000, 0, none⟩), .int .i64 a1] [⟨b1000, 111, [.slice Al0_0 l0_0.length cl0_0, .int .i64 a0_1, .int .i64 a0_2]⟩] [.sl 0 (.int .u8) Al0_0 cl0_0 l0_0 0 false] (fun v bx en => v = .bool r0 ∧ bx = [⟨b1000, 111, [.slice Al0_0 l0_0.length cl0_0, .int .i64 r1, .int .i64 r2]⟩] ∧ en = []) := by
 refine fn_ 9 Try.func105 rfl rfl rfl (fun base T w0 => ?_)
 rw [spec_l1Once.f] at H
 refine gs (rg (sv (EV.as rfl) rfl (re (gs (rg (sv (EV.mv rfl) rfl (sv (EV.mv rfl) rfl ?_)))))))
 revert H; refine bdI ?_; rintro ⟨t1_0, t1_1, t1_2⟩ A1 H
 refine so rfl (op_callM (spec_l1Below.ok b1000 l0_0 Al0_0 cl0_0 a0_1 a0_2 a1 _ _ _ A1) [⟨0, 0, 0, false⟩] [0] [] 1 rfl rfl rfl rfl rfl rfl rfl rfl ?_)
 rintro _ _ _ ⟨rfl, rfl, rfl⟩
 refine nmE (en := [.sl 0 (.int .u8) Al0_0 cl0_0 l0_0 0 false]) (by kernel_rfl) (sv (EV.eql rfl rfl) rfl (sv (EV.as rfl) rfl (re (pr [4] [0] [0] rfl rfl rfl rfl ?_))))
 cases H
 exact rt Try.func105 rfl (.tmp rfl .nil) rfl [0] [] rfl rfl rfl rfl rfl ⟨rfl, rfl, rfl⟩
end Go.Proofs.Ytajjeemkdjfilaa.K
namespace Go.Proofs.Ytajjeemkdjfilaa.K
open Go Go.RowKit
set_option linter.unusedVariables false
set_option linter.unusedSimpArgs false
def spec_l2Rows.l0 : Nat → (List S70) → Int → Int → Int → Int → (List Int) → Option ((List S70) × Int × Int)
 | 0, _, _, _, _, _, _ => none
 | k + 1, x2_5, x2_6, x2_7, x2_1000_1, x2_1000_2, l0_0 => if x2_7 > 0 then ((spec_l2Row.f l0_0 x2_1000_1 x2_1000_2 x2_6).bind fun bt6 => (if x2_5.length < 5864062014805 then (spec_l2Rows.l0 k (x2_5 ++ ([(⟨bt6.1, bt6.2.1, bt6.2.2.1⟩ : S70)] : List S70)) x2_6 (wrap64 (x2_7 - 1)) bt6.2.2.2.1 bt6.2.2.2.2 l0_0) else none)) else (some (x2_5, x2_1000_1, x2_1000_2))
def spec_l2Rows.f (k : Nat) (l0_0 : List Int) (a0_1 : Int) (a0_2 : Int) (a1 : Int) : Option ((List S70) × Int × Int) := (spec_l1PickInt.f l0_0 a0_1 a0_2 ([1, 2, 4, 10] : List Int)).bind fun bt3 => ((spec_l1Below.f l0_0 bt3.2.1 bt3.2.2 (wrap64 (a1 + 1))).bind fun bt4 => (spec_l2Rows.l0 k [] bt3.1 bt4.1 bt4.2.1 bt4.2.2 l0_0))
set_option maxHeartbeats 4000000 in
set_option maxRecDepth 100000 in
theorem spec_l2Rows.ok (k : Nat) (b1000 : Nat) (l0_0 : List Int) (Al0_0 : Option Addr) (cl0_0 : Nat) (a0_1 : Int) (a0_2 : Int) (a1 : Int) (r0 : List S70) (r1 : Int) (r2 : Int) (H : spec_l2Rows.f k l0_0 a0_1 a0_2 a1 = some (r0, r1, r2)) : Fn Try.prog 77 [.pointer (some ⟨b1000, 0, none⟩), .int .i64 a1] [⟨b1000, 111, [.slice Al0_0 l0_0.length cl0_0, .int .i64 a0_1, .int .i64 a0_2]⟩] [.sl 0 (.int .u8) Al0_0 cl0_0 l0_0 0 false] (fun v bx en => ∃ A0 c0, v = .slice A0 r0.length c0 ∧ bx = [⟨b1000, 111, [.slice Al0_0 l0_0.length cl0_0, .int .i64 r1, .int .i64 r2]⟩] ∧ en = [.sl 2 k70 A0 c0 r0 1 true]) := by
 refine fn_ 27 Try.func77 rfl rfl rfl (fun base T w0 => ?_)
 rw [spec_l2Rows.f] at H
 refine gs (rg (sv (EV.as rfl) rfl (re (gs (rg (so rfl (op_lit (s := 3) (by_ := 24) k70 ([] : List S70) [] [] 1 [] rfl rfl rfl rfl rfl rfl rfl rfl rfl rfl rfl rfl rfl dq rfl fun A8_1 c8_1 => (sv (EV.as rfl) rfl (re (gs (rg (sv (EV.mv rfl) rfl (so rfl (op_lit (s := 1) (by_ := 8) (.int .i64) ([1, 2, 4, 10] : List Int) [[], [], [], []] [] 2 [.const (.int .i64 1), .const (.int .i64 2), .const (.int .i64 4), .const (.int .i64 10)] rfl rfl rfl rfl rfl rfl rfl rfl rfl rfl rfl rfl rfl dq rfl fun A10_2 c10_2 => ?_))))))))))))))
 revert H; refine bdI ?_; rintro ⟨t3_0, t3_1, t3_2⟩ A3 H
 refine so rfl (op_callM (spec_l1PickInt.ok b1000 l0_0 Al0_0 cl0_0 a0_1 a0_2 ([1, 2, 4, 10] : List Int) A10_2 c10_2 _ _ _ A3) [⟨0, 0, 0, false⟩, ⟨2, 0, 0, false⟩] [0] [] 3 rfl rfl rfl rfl rfl rfl rfl rfl ?_)
 rintro _ _ _ ⟨rfl, rfl, rfl⟩
 refine nmE (en := [.sl 0 (.int .u8) Al0_0 cl0_0 l0_0 0 false, .sl 2 k70 A8_1 c8_1 [] 1 true, .sl 2 (.int .i64) A10_2 c10_2 ([1, 2, 4, 10] : List Int) 2 true]) (by kernel_rfl) (sv (EV.as rfl) rfl (re (gs (gs (rg (sv (EV.mv rfl) rfl (sv (EV.mv rfl) rfl (sv (EV.add rfl rfl) rfl ?_))))))))
 revert H; refine bdI ?_; rintro ⟨t4_0, t4_1, t4_2⟩ A4 H
 refine so rfl (op_callM (spec_l1Below.ok b1000 l0_0 Al0_0 cl0_0 t3_1 t3_2 (wrap64 (a1 + 1)) _ _ _ A4) [⟨0, 0, 0, false⟩] [0] [] 3 rfl rfl rfl rfl rfl rfl rfl rfl ?_)
 rintro _ _ _ ⟨rfl, rfl, rfl⟩
 refine nmE (en := [.sl 0 (.int .u8) Al0_0 cl0_0 l0_0 0 false, .sl 2 k70 A8_1 c8_1 [] 1 true, .sl 2 (.int .i64) A10_2 c10_2 ([1, 2, 4, 10] : List Int) 2 true]) (by kernel_rfl) (sv (EV.as rfl) rfl (re (pr [0, 5, 6, 7] [0] [0, 1] rfl rfl rfl rfl (gb ?_))))
 refine lo (fun kk S => ∃ (x2_5 : List S70) (Ax2_5 : Option Addr) (cx2_5 : Nat) (x2_6 : Int) (x2_7 : Int) (x2_1000_1 : Int) (x2_1000_2 : Int), spec_l2Rows.l0 kk x2_5 x2_6 x2_7 x2_1000_1 x2_1000_2 l0_0 = some (r0, r1, r2) ∧ S = ⟨[(0, .pointer (some ⟨b1000, 0, none⟩)), (5, .slice Ax2_5 x2_5.length cx2_5), (6, .int .i64 x2_6), (7, .int .i64 x2_7)], [⟨b1000, 111, [.slice Al0_0 l0_0.length cl0_0, .int .i64 x2_1000_1, .int .i64 x2_1000_2]⟩], [.sl 2 k70 Ax2_5 cx2_5 x2_5 1 true, .sl 0 (.int .u8) Al0_0 cl0_0 l0_0 0 false]⟩) (fun S hS => ?_) (fun n0 ih0 S hS => ?_) ⟨[], A8_1, c8_1, t3_0, t4_0, t4_1, t4_2, H, rfl⟩ (fun h => wk [0, 5, 6, 7] [0] [⟨1, 2, 1, true⟩, ⟨0, 0, 0, false⟩] h)
 · clear H; obtain ⟨_, _, _, _, _, _, _, H, _⟩ := hS; rw [spec_l2Rows.l0] at H; cases H
 clear H
 obtain ⟨x2_5, Ax2_5, cx2_5, x2_6, x2_7, x2_1000_1, x2_1000_2, H, rfl⟩ := hS
 rw [spec_l2Rows.l0] at H
 refine gs (gs (rg (sv (EV.mv rfl) rfl (sv (EV.gtr rfl rfl) rfl (re ?_)))))
 revert H; refine ifsI ?_ ?_ <;> intro c5 H
 ·
  refine gt rfl (dT c5) (gk (gs (gb (rg (sv (EV.mv rfl) rfl (sv (EV.mv rfl) rfl (sv (EV.mv rfl) rfl ?_)))))))
  revert H; refine bdI ?_; rintro ⟨t6_0, t6_1, t6_2, t6_3, t6_4⟩ A6 H
  refine so rfl (op_callM (spec_l2Row.ok b1000 l0_0 Al0_0 cl0_0 x2_1000_1 x2_1000_2 x2_6 _ _ _ _ _ A6) [⟨1, 0, 0, false⟩] [0] [] 2 rfl rfl rfl rfl rfl rfl rfl rfl ?_)
  rintro _ _ _ ⟨rfl, rfl, rfl⟩
  refine nmE (en := [.sl 2 k70 Ax2_5 cx2_5 x2_5 1 true, .sl 0 (.int .u8) Al0_0 cl0_0 l0_0 0 false]) (by kernel_rfl) (so rfl (op_lit (s := 3) (by_ := 24) k70 ([(⟨t6_0, t6_1, t6_2⟩ : S70)] : List S70) [[]] [] 2 [.tmp 23] rfl rfl rfl rfl rfl rfl rfl rfl rfl rfl rfl rfl rfl dq rfl fun A24_7 c24_7 => ?_))
  revert H; refine ggI ?_; intro g8 H
  exact so rfl (op_app (k := k70) (s := 3) (by_ := 24) 0 2 rfl rfl rfl rfl (ap1 g8 dq) (ap1n g8 dq) (.inl rfl) true (fun _ => .inl rfl) rfl rfl fun A25_9 c25_9 => (nmE (en := [.sl 0 (.int .u8) Al0_0 cl0_0 l0_0 0 false, .sl 2 k70 A24_7 c24_7 ([(⟨t6_0, t6_1, t6_2⟩ : S70)] : List S70) 2 true, .sl 2 k70 A25_9 c25_9 (x2_5 ++ ([(⟨t6_0, t6_1, t6_2⟩ : S70)] : List S70)) 1 true]) (by kernel_rfl) (sv (EV.as rfl) rfl (re (pr [0, 5, 6, 7] [0] [0, 2] rfl rfl rfl rfl (ge (rg (sv (EV.mv rfl) rfl (sv (EV.sub rfl rfl) rfl (sv (EV.as rfl) rfl (re (wk [0, 5, 6, 7] [0] [⟨1, 2, 1, true⟩, ⟨0, 0, 0, false⟩] (ih0 _ (by omega) _ ⟨x2_5 ++ ([(⟨t6_0, t6_1, t6_2⟩ : S70)] : List S70), A25_9, c25_9, x2_6, wrap64 (x2_7 - 1), t6_3, t6_4, H, rfl⟩)))))))))))))
 ·
  refine gf rfl (dF c5) (gx rfl (gs (rg (sv (EV.mv rfl) rfl (sv (EV.as rfl) rfl (re (pr [4] [0] [0, 1] rfl rfl rfl rfl ?_)))))))
  cases H
  exact rt Try.func77 rfl (.tmp rfl .nil) rfl [0] [⟨0, 2, 1, true⟩] rfl rfl rfl rfl rfl ⟨_, _, rfl, rfl, rfl⟩
end Go.Proofs.Ytajjeemkdjfilaa.K
namespace Go.Proofs.Ytajjeemkdjfilaa.K
open Go Go.RowKit
set_option linter.unusedVariables false
set_option linter.unusedSimpArgs false
def spec_IsValidRow.f (a0_0 : Int) (a0_1 : Int) (a0_2 : Int) : Option (Bool) := (spec_l1In.f a0_0 0 9).bind fun t1 => (if t1 = true then ((spec_l1In.f a0_1 0 99).bind fun t3 => (if t3 = true then ((spec_l1In.f a0_2 0 3).bind fun t5 => (some t5)) else (some false))) else (some false))
set_option maxHeartbeats 4000000 in
set_option maxRecDepth 100000 in
theorem spec_IsValidRow.ok (a0_0 : Int) (a0_1 : Int) (a0_2 : Int) (r0 : Bool) (H : spec_IsValidRow.f a0_0 a0_1 a0_2 = some r0) : Fn Try.prog 73 [.agg #[.int .i64 a0_0, .int .i64 a0_1, .int .i64 a0_2]] [] [] (fun v bx en => v = .bool r0 ∧ bx = [] ∧ en = []) := by
 refine fn_ 16 Try.func73 rfl rfl rfl (fun base T w0 => ?_)
 rw [spec_IsValidRow.f] at H
 refine gs (rg (so rfl (op_box (cs := [.int .i64 a0_0, .int .i64 a0_1, .int .i64 a0_2]) rfl rfl rfl fun b1 => (sv (EV.as rfl) rfl (re (gs (rg (sv (EV.fa 0 rfl) rfl (sv (EV.ld 0 none rfl rfl rfl) rfl ?_)))))))))
 revert H; refine bdI ?_; rintro t1 A1 H
 refine so rfl (op_call (spec_l1In.ok a0_0 0 9 _ A1) [] 1 rfl rfl rfl rfl rfl ?_)
 rintro _ _ _ ⟨rfl, rfl, rfl⟩
 refine sv (EV.mv rfl) rfl ?_
 revert H; refine ifsI ?_ ?_ <;> intro c2 H
 ·
  subst c2
  refine ts 6 rfl rfl (sv (EV.fa 1 rfl) rfl (sv (EV.ld 0 none rfl rfl rfl) rfl ?_))
  revert H; refine bdI ?_; rintro t3 A3 H
  refine so rfl (op_call (spec_l1In.ok a0_1 0 99 _ A3) [] 1 rfl rfl rfl rfl rfl ?_)
  rintro _ _ _ ⟨rfl, rfl, rfl⟩
  refine sv (EV.pt rfl rfl rfl) rfl (sv (EV.mv rfl) rfl ?_)
  revert H; refine ifsI ?_ ?_ <;> intro c4 H
  ·
   subst c4
   refine ts 11 rfl rfl (sv (EV.fa 2 rfl) rfl (sv (EV.ld 0 none rfl rfl rfl) rfl ?_))
   revert H; refine bdI ?_; rintro t5 A5 H
   refine so rfl (op_call (spec_l1In.ok a0_2 0 3 _ A5) [] 1 rfl rfl rfl rfl rfl ?_)
   rintro _ _ _ ⟨rfl, rfl, rfl⟩
   refine sv (EV.pt rfl rfl rfl) rfl (sv (EV.as rfl) rfl (re (pr [2] [] [] rfl rfl rfl rfl ?_)))
   cases H
   exact rt Try.func73 rfl (.tmp rfl .nil) rfl [] [] rfl rfl rfl rfl rfl ⟨rfl, rfl, rfl⟩
  ·
   obtain rfl := bF c4
   refine ts 11 rfl rfl (sk rfl (sk rfl (sk rfl (sv (EV.pf rfl rfl rfl) rfl (sv (EV.as rfl) rfl (re (pr [2] [] [] rfl rfl rfl rfl ?_)))))))
   cases H
   exact rt Try.func73 rfl (.tmp rfl .nil) rfl [] [] rfl rfl rfl rfl rfl ⟨rfl, rfl, rfl⟩
 ·
  obtain rfl := bF c2
  refine ts 6 rfl rfl (sk rfl (sk rfl (sk rfl (sv (EV.pf rfl rfl rfl) rfl (sv (EV.mv rfl) rfl (sk rfl (sk rfl (sk rfl (sv (EV.pf rfl rfl rfl) rfl (sv (EV.as rfl) rfl (re (pr [2] [] [] rfl rfl rfl rfl ?_))))))))))))
  cases H
  exact rt Try.func73 rfl (.tmp rfl .nil) rfl [] [] rfl rfl rfl rfl rfl ⟨rfl, rfl, rfl⟩
end Go.Proofs.Ytajjeemkdjfilaa.K
namespace Go.Proofs.Ytajjeemkdjfilaa.K
open Go Go.RowKit
set_option linter.unusedVariables false
set_option linter.unusedSimpArgs false
def spec_AreValidRows.l0 : Nat → Int → (List S70) → Option (Bool)
 | 0, _, _ => none
 | k + 1, x2_3, l0 => if x2_3 < (l0.length : Int) then (if 0 ≤ x2_3 then ((spec_IsValidRow.f ((rd_T70 l0 x2_3).f0) ((rd_T70 l0 x2_3).f1) ((rd_T70 l0 x2_3).f2)).bind fun t3 => (if t3 = true then (spec_AreValidRows.l0 k (wrap64 (x2_3 + 1)) l0) else (some false))) else none) else (some (decide ((l0.length : Int) ≤ 24)))
def spec_AreValidRows.f (k : Nat) (l0 : List S70) : Option (Bool) := spec_AreValidRows.l0 k 0 l0
set_option maxHeartbeats 4000000 in
set_option maxRecDepth 100000 in
theorem spec_AreValidRows.ok (k : Nat) (l0 : List S70) (Al0 : Option Addr) (cl0 : Nat) (r0 : Bool) (H : spec_AreValidRows.f k l0 = some r0) : Fn Try.prog 15 [.slice Al0 l0.length cl0] [] [.sl 0 k70 Al0 cl0 l0 0 false] (fun v bx en => v = .bool r0 ∧ bx = [] ∧ en = []) := by
 refine fn_ 19 Try.func15 rfl rfl rfl (fun base T w0 => ?_)
 rw [spec_AreValidRows.f] at H
 refine gs (rg (sv (EV.as rfl) rfl (re (gs (gs (rg (sv (EV.as rfl) rfl (re (gb ?_)))))))))
 refine lo (fun kk S => ∃ (x2_3 : Int), spec_AreValidRows.l0 kk x2_3 l0 = some r0 ∧ S = ⟨[(0, .slice Al0 l0.length cl0), (3, .int .i64 x2_3)], [], [.sl 0 k70 Al0 cl0 l0 0 false]⟩) (fun S hS => ?_) (fun n0 ih0 S hS => ?_) ⟨0, H, rfl⟩ (fun h => wk [0, 3] [] [⟨0, 0, 0, false⟩] h)
 · clear H; obtain ⟨_, H, _⟩ := hS; rw [spec_AreValidRows.l0] at H; cases H
 clear H
 obtain ⟨x2_3, H, rfl⟩ := hS
 rw [spec_AreValidRows.l0] at H
 refine gs (gs (rg (sv (EV.mv rfl) rfl (sv (EV.mv rfl) rfl (sv (EV.ln rfl) rfl (sv (EV.lss rfl rfl) rfl (re ?_)))))))
 revert H; refine ifsI ?_ ?_ <;> intro c1 H
 ·
  refine gt rfl (dT c1) (gk (gs (gb (gs (rg (sv (EV.mv rfl) rfl (sv (EV.mv rfl) rfl ?_)))))))
  revert H; refine ggI ?_; intro g2 H
  refine sv (EV.ix 0 rfl rfl rfl g2 c1 rfl) rfl (sv (EV.le (v := .agg #[.int .i64 ((rd_T70 l0 x2_3).f0), .int .i64 ((rd_T70 l0 x2_3).f1), .int .i64 ((rd_T70 l0 x2_3).f2)]) x2_3 0 (some 3) 0 z70 rfl rfl rfl g2 c1 rfl rfl rfl) rfl ?_)
  revert H; refine bdI ?_; rintro t3 A3 H
  refine so rfl (op_call (spec_IsValidRow.ok ((rd_T70 l0 x2_3).f0) ((rd_T70 l0 x2_3).f1) ((rd_T70 l0 x2_3).f2) _ A3) [] 1 rfl rfl rfl rfl rfl ?_)
  rintro _ _ _ ⟨rfl, rfl, rfl⟩
  refine sv (EV.nt rfl) rfl (re (pr [0, 3, 15] [] [0] rfl rfl rfl rfl ?_))
  revert H; refine ifsI ?_ ?_ <;> intro c4 H
  ·
   subst c4
   exact gf rfl rfl (gk (ge (rg (sv (EV.mv rfl) rfl (sv (EV.add rfl rfl) rfl (sv (EV.as rfl) rfl (re (wk [0, 3] [] [⟨0, 0, 0, false⟩] (ih0 _ (by omega) _ ⟨wrap64 (x2_3 + 1), H, rfl⟩)))))))))
  ·
   obtain rfl := bF c4
   refine gt rfl rfl (gs (rg (sv (EV.as rfl) rfl (re ?_))))
   cases H
   exact rt Try.func15 rfl (.tmp rfl .nil) rfl [] [] rfl rfl rfl rfl rfl ⟨rfl, rfl, rfl⟩
 ·
  refine gf rfl (dF c1) (gx rfl (gs (rg (sv (EV.mv rfl) rfl (sv (EV.ln rfl) rfl (sv (EV.leq rfl rfl) rfl (sv (EV.as rfl) rfl (re (pr [2] [] [] rfl rfl rfl rfl ?_)))))))))
  cases H
  exact rt Try.func15 rfl (.tmp rfl .nil) rfl [] [] rfl rfl rfl rfl rfl ⟨rfl, rfl, rfl⟩
end Go.Proofs.Ytajjeemkdjfilaa.K
namespace Go.Proofs.Ytajjeemkdjfilaa.K
open Go Go.RowKit
set_option linter.unusedVariables false
set_option linter.unusedSimpArgs false
def spec_NewTask.f (k : Nat) (a0 : Int) (l1 : List S70) (l2 : List S70) : Option (Int × (List S70) × (List S70) × (List Bool) × Int × Bool) := (spec_IsValidJoinKind.f a0).bind fun t1 => (if t1 = true then ((spec_AreValidRows.f k l1).bind fun t3 => (if t3 = true then ((spec_AreValidRows.f k l2).bind fun t5 => (if t5 = true then (if l1.length ≤ 5864062014805 then (if l2.length ≤ 5864062014805 then (if 0 ≤ (l1.length : Int) then (if (l1.length : Int).toNat ≤ 140737488355328 then (some (a0, l1, l2, List.replicate (l1.length : Int).toNat false, 0, true)) else none) else none) else none) else none) else (some (0, [], [], [], 0, false)))) else (some (0, [], [], [], 0, false)))) else (some (0, [], [], [], 0, false)))
set_option maxHeartbeats 4000000 in
set_option maxRecDepth 100000 in
theorem spec_NewTask.ok (k : Nat) (a0 : Int) (l1 : List S70) (Al1 : Option Addr) (cl1 : Nat) (l2 : List S70) (Al2 : Option Addr) (cl2 : Nat) (r0 : Int) (r1 : List S70) (r2 : List S70) (r3 : List Bool) (r4 : Int) (r5 : Bool) (H : spec_NewTask.f k a0 l1 l2 = some (r0, r1, r2, r3, r4, r5)) : Fn Try.prog 90 [.int .i64 a0, .slice Al1 l1.length cl1, .slice Al2 l2.length cl2] [] [.sl 0 k70 Al1 cl1 l1 0 false, .sl 0 k70 Al2 cl2 l2 0 false] (fun v bx en => ∃ A1 c1 A2 c2 A3 c3, v = .tuple #[.agg #[.int .i64 r0, .slice A1 r1.length c1, .slice A2 r2.length c2, .slice A3 r3.length c3, .int .i64 r4], .bool r5] ∧ bx = [] ∧ en = [.sl 2 k70 A1 c1 r1 1 true, .sl 2 k70 A2 c2 r2 2 true, .sl 2 .bool A3 c3 r3 3 true]) := by
 refine fn_ 33 Try.func90 rfl rfl rfl (fun base T w0 => ?_)
 rw [spec_NewTask.f] at H
 refine gs (rg (so rfl (op_alloc (cs := [.int .i64 0, .slice none 0 0, .slice none 0 0, .slice none 0 0, .int .i64 0]) (by kernel_rfl) rfl fun b6 => (sv (EV.as rfl) rfl (re (gs (gs (rg (sv (EV.mv rfl) rfl ?_)))))))))
 revert H; refine bdI ?_; rintro t1 A1 H
 refine so rfl (op_call (spec_IsValidJoinKind.ok a0 _ A1) [] 1 rfl rfl rfl rfl rfl ?_)
 rintro _ _ _ ⟨rfl, rfl, rfl⟩
 refine sv (EV.nt rfl) rfl (sv (EV.mv rfl) rfl ?_)
 revert H; refine ifsI ?_ ?_ <;> intro c2 H
 ·
  subst c2
  refine ts 11 rfl rfl (sv (EV.mv rfl) rfl ?_)
  revert H; refine bdI ?_; rintro t3 A3 H
  refine so rfl (op_call (spec_AreValidRows.ok k l1 Al1 cl1 _ A3) [⟨0, 0, 0, false⟩] 1 rfl rfl rfl rfl rfl ?_)
  rintro _ _ _ ⟨rfl, rfl, rfl⟩
  refine sv (EV.nt rfl) rfl (sv (EV.pf rfl rfl rfl) rfl (sv (EV.mv rfl) rfl ?_))
  revert H; refine ifsI ?_ ?_ <;> intro c4 H
  ·
   subst c4
   refine ts 16 rfl rfl (sv (EV.mv rfl) rfl ?_)
   revert H; refine bdI ?_; rintro t5 A5 H
   refine so rfl (op_call (spec_AreValidRows.ok k l2 Al2 cl2 _ A5) [⟨1, 0, 0, false⟩] 1 rfl rfl rfl rfl rfl ?_)
   rintro _ _ _ ⟨rfl, rfl, rfl⟩
   refine sv (EV.nt rfl) rfl (sv (EV.pf rfl rfl rfl) rfl (re (pr [0, 1, 2, 6, 20] [0] [0, 1] rfl rfl rfl rfl ?_)))
   revert H; refine ifsI ?_ ?_ <;> intro c6 H
   ·
    subst c6
    refine gf rfl rfl (gk (gs ?_))
    revert H; refine ggI ?_; intro g7 H
    revert H; refine ggI ?_; intro g8 H
    revert H; refine ggI ?_; intro g9 H
    revert H; refine ggI ?_; intro g10 H
    refine dj (fun S => ∃ (A25_12 : Option Addr) (c25_12 : Nat) (A28_14 : Option Addr) (c28_14 : Nat) (A31_15 : Option Addr) (c31_15 : Nat), S = ⟨[(6, .pointer (some ⟨b6, 0, none⟩)), (7, .bool true)], [⟨b6, 44, [.int .i64 a0, .slice A25_12 l1.length c25_12, .slice A28_14 l2.length c28_14, .slice A31_15 (List.replicate (l1.length : Int).toNat false).length c31_15, .int .i64 0]⟩], [.sl 0 k70 Al1 cl1 l1 0 false, .sl 0 k70 Al2 cl2 l2 0 false, .sl 2 k70 A25_12 c25_12 l1 1 true, .sl 2 k70 A28_14 c28_14 l2 2 true, .sl 2 .bool A31_15 c31_15 (List.replicate (l1.length : Int).toNat false) 3 true]⟩) (fun S hS => ?_) (fun dj0 => ?_)
    ·
     obtain ⟨A25_12, c25_12, A28_14, c28_14, A31_15, c31_15, rfl⟩ := hS
     cases H
     exact rt Try.func90 rfl (.cell 0 (some 5) rfl rfl rfl (.tmp rfl .nil)) rfl [] [⟨2, 2, 1, true⟩, ⟨3, 2, 2, true⟩, ⟨4, 2, 3, true⟩] rfl rfl rfl rfl rfl ⟨_, _, _, _, _, _, rfl, rfl, rfl⟩
    ·
     refine dr [0] [0, 1] [11, 12] 13 rfl rfl rfl rfl (xv 0 [0] [0, 1] rfl (EV.mv rfl) rfl rfl rfl rfl (xv 2 [0] [0, 1] rfl (EV.mv rfl) rfl rfl rfl rfl (xv 5 [0] [0, 1] rfl (EV.mv rfl) rfl rfl rfl rfl (xv 7 [0] [0, 1] rfl (EV.mv rfl) rfl rfl rfl rfl (xv 8 [0] [0, 1] rfl (EV.ln rfl) rfl rfl rfl rfl ?_)))))
     refine dl 3 #[true, true, true, true, true, true, true, true, true, true, false, false, false] (fun S => ∃ (A25_12 : Option Addr) (c25_12 : Nat) (A28_14 : Option Addr) (c28_14 : Nat) (A31_15 : Option Addr) (c31_15 : Nat), S = ⟨[(6, .pointer (some ⟨b6, 0, none⟩)), (22, .int .i64 a0), (25, .slice A25_12 l1.length c25_12), (28, .slice A28_14 l2.length c28_14), (31, .slice A31_15 (List.replicate (l1.length : Int).toNat false).length c31_15)], [⟨b6, 44, [.int .i64 0, .slice none 0 0, .slice none 0 0, .slice none 0 0, .int .i64 0]⟩], [.sl 0 k70 Al1 cl1 l1 0 false, .sl 0 k70 Al2 cl2 l2 0 false, .sl 2 k70 A25_12 c25_12 l1 1 true, .sl 2 k70 A28_14 c28_14 l2 2 true, .sl 2 .bool A31_15 c31_15 (List.replicate (l1.length : Int).toNat false) 3 true]⟩) (fun S hS => ?_) (fun hn0 => ?_)
     ·
      obtain ⟨A25_12, c25_12, A28_14, c28_14, A31_15, c31_15, rfl⟩ := hS
      exact one1 10 rfl rfl (ov (EV.bd (v := .agg #[.int .i64 a0, .slice A25_12 l1.length c25_12, .slice A28_14 l2.length c28_14, .slice A31_15 (List.replicate (l1.length : Int).toNat false).length c31_15, .int .i64 0]) rfl (by kernel_rfl)) rfl (xs [0] [0, 1] rfl rfl rfl (one1 11 rfl rfl (op_st (cs' := [.int .i64 a0, .slice A25_12 l1.length c25_12, .slice A28_14 l2.length c28_14, .slice A31_15 (List.replicate (l1.length : Int).toNat false).length c31_15, .int .i64 0]) 0 rfl rfl rfl rfl rfl rfl (xn rfl (one1 12 rfl rfl (ov (EV.as rfl) rfl (xn rfl (xd (wk [6, 7] [0] [⟨0, 0, 0, false⟩, ⟨1, 0, 0, false⟩, ⟨2, 2, 1, true⟩, ⟨3, 2, 2, true⟩, ⟨4, 2, 3, true⟩] (dj0 _ ⟨A25_12, c25_12, A28_14, c28_14, A31_15, c31_15, rfl⟩)))))))))))
     refine dl 4 #[true, true, true, true, true, true, false, true, true, true, false, false, false] (fun S => ∃ (A25_12 : Option Addr) (c25_12 : Nat) (A26_13 : Option Addr) (c26_13 : Nat) (A31_16 : Option Addr) (c31_16 : Nat), S = ⟨[(6, .pointer (some ⟨b6, 0, none⟩)), (22, .int .i64 a0), (25, .slice A25_12 l1.length c25_12), (26, .slice A26_13 0 c26_13), (27, .slice Al2 l2.length cl2), (31, .slice A31_16 (List.replicate (l1.length : Int).toNat false).length c31_16)], [⟨b6, 44, [.int .i64 0, .slice none 0 0, .slice none 0 0, .slice none 0 0, .int .i64 0]⟩], [.sl 0 k70 Al1 cl1 l1 0 false, .sl 0 k70 Al2 cl2 l2 0 false, .sl 2 k70 A25_12 c25_12 l1 1 true, .sl 2 k70 A26_13 c26_13 [] 2 true, .sl 2 .bool A31_16 c31_16 (List.replicate (l1.length : Int).toNat false) 3 true]⟩) (fun S hS => ?_) (fun hn1 => ?_)
     ·
      obtain ⟨A25_12, c25_12, A26_13, c26_13, A31_16, c31_16, rfl⟩ := hS
      exact one1 6 rfl rfl (op_app (k := k70) (s := 3) (by_ := 24) 3 1 rfl rfl rfl rfl (ap0 g8 dq) (ap0n g8 dq) (.inl rfl) true (fun _ => .inl rfl) rfl rfl fun A28_11 c28_11 => (nmE (en := [.sl 0 k70 Al1 cl1 l1 0 false, .sl 0 k70 Al2 cl2 l2 0 false, .sl 2 k70 A25_12 c25_12 l1 1 true, .sl 2 .bool A31_16 c31_16 (List.replicate (l1.length : Int).toNat false) 3 true, .sl 2 k70 A28_11 c28_11 l2 2 true]) (by kernel_rfl) (xs [0] [0, 1] rfl rfl rfl (da (wk [6, 22, 25, 28, 31] [0] [⟨0, 0, 0, false⟩, ⟨1, 0, 0, false⟩, ⟨2, 2, 1, true⟩, ⟨4, 2, 2, true⟩, ⟨3, 2, 3, true⟩] (hn0 _ ⟨A25_12, c25_12, A28_11, c28_11, A31_16, c31_16, rfl⟩))))))
     refine dl 5 #[true, true, true, true, true, true, false, true, true, false, false, false, false] (fun S => ∃ (A25_12 : Option Addr) (c25_12 : Nat) (A26_13 : Option Addr) (c26_13 : Nat), S = ⟨[(6, .pointer (some ⟨b6, 0, none⟩)), (22, .int .i64 a0), (25, .slice A25_12 l1.length c25_12), (26, .slice A26_13 0 c26_13), (27, .slice Al2 l2.length cl2), (30, .int .i64 (l1.length : Int))], [⟨b6, 44, [.int .i64 0, .slice none 0 0, .slice none 0 0, .slice none 0 0, .int .i64 0]⟩], [.sl 0 k70 Al1 cl1 l1 0 false, .sl 0 k70 Al2 cl2 l2 0 false, .sl 2 k70 A25_12 c25_12 l1 1 true, .sl 2 k70 A26_13 c26_13 [] 2 true]⟩) (fun S hS => ?_) (fun hn2 => ?_)
     ·
      obtain ⟨A25_12, c25_12, A26_13, c26_13, rfl⟩ := hS
      refine one2 6 9 rfl rfl rfl rfl ?_ ?_
      ·
       exact op_app (k := k70) (s := 3) (by_ := 24) 3 1 rfl rfl rfl rfl (ap0 g8 dq) (ap0n g8 dq) (.inl rfl) true (fun _ => .inl rfl) rfl rfl fun A28_12 c28_12 => (nmE (en := [.sl 0 k70 Al1 cl1 l1 0 false, .sl 0 k70 Al2 cl2 l2 0 false, .sl 2 k70 A25_12 c25_12 l1 1 true, .sl 2 k70 A28_12 c28_12 l2 2 true]) (by kernel_rfl) (xs [0] [0, 1] rfl rfl rfl (one1 9 rfl rfl (op_mk (s := 1) (by_ := 1) .bool false 3 rfl rfl g9 (mk1 g10 dq) (mk2 g10 dq) mk42 rfl rfl dq rfl fun A31_13 c31_13 => (xs [0] [0, 1] rfl rfl rfl (da (wk [6, 22, 25, 28, 31] [0] [⟨0, 0, 0, false⟩, ⟨1, 0, 0, false⟩, ⟨2, 2, 1, true⟩, ⟨3, 2, 2, true⟩, ⟨4, 2, 3, true⟩] (hn0 _ ⟨A25_12, c25_12, A28_12, c28_12, A31_13, c31_13, rfl⟩))))))))
      ·
       exact op_mk (s := 1) (by_ := 1) .bool false 3 rfl rfl g9 (mk1 g10 dq) (mk2 g10 dq) mk42 rfl rfl dq rfl fun A31_14 c31_14 => (xs [0] [0, 1] rfl rfl rfl (da (wk [6, 22, 25, 26, 27, 31] [0] [⟨0, 0, 0, false⟩, ⟨1, 0, 0, false⟩, ⟨2, 2, 1, true⟩, ⟨3, 2, 2, true⟩, ⟨4, 2, 3, true⟩] (hn1 _ ⟨A25_12, c25_12, A26_13, c26_13, A31_14, c31_14, rfl⟩))))
     refine dl 5 #[true, true, true, true, false, true, false, true, true, true, false, false, false] (fun S => ∃ (A25_12 : Option Addr) (c25_12 : Nat) (A31_18 : Option Addr) (c31_18 : Nat), S = ⟨[(6, .pointer (some ⟨b6, 0, none⟩)), (22, .int .i64 a0), (25, .slice A25_12 l1.length c25_12), (27, .slice Al2 l2.length cl2), (31, .slice A31_18 (List.replicate (l1.length : Int).toNat false).length c31_18)], [⟨b6, 44, [.int .i64 0, .slice none 0 0, .slice none 0 0, .slice none 0 0, .int .i64 0]⟩], [.sl 0 k70 Al1 cl1 l1 0 false, .sl 0 k70 Al2 cl2 l2 0 false, .sl 2 k70 A25_12 c25_12 l1 1 true, .sl 2 .bool A31_18 c31_18 (List.replicate (l1.length : Int).toNat false) 2 true]⟩) (fun S hS => ?_) (fun hn3 => ?_)
     ·
      obtain ⟨A25_12, c25_12, A31_18, c31_18, rfl⟩ := hS
      exact one1 4 rfl rfl (op_lit (s := 3) (by_ := 24) k70 ([] : List S70) [] [] 3 [] rfl rfl rfl rfl rfl rfl rfl rfl rfl rfl rfl rfl rfl dq rfl fun A26_15 c26_15 => (xs [0] [0, 1] rfl rfl rfl (da (wk [6, 22, 25, 26, 27, 31] [0] [⟨0, 0, 0, false⟩, ⟨1, 0, 0, false⟩, ⟨2, 2, 1, true⟩, ⟨4, 2, 2, true⟩, ⟨3, 2, 3, true⟩] (hn1 _ ⟨A25_12, c25_12, A26_15, c26_15, A31_18, c31_18, rfl⟩)))))
     refine dl 5 #[true, true, true, false, true, true, false, true, true, true, false, false, false] (fun S => ∃ (A23_11 : Option Addr) (c23_11 : Nat) (A26_20 : Option Addr) (c26_20 : Nat) (A31_22 : Option Addr) (c31_22 : Nat), S = ⟨[(6, .pointer (some ⟨b6, 0, none⟩)), (22, .int .i64 a0), (23, .slice A23_11 0 c23_11), (24, .slice Al1 l1.length cl1), (26, .slice A26_20 0 c26_20), (27, .slice Al2 l2.length cl2), (31, .slice A31_22 (List.replicate (l1.length : Int).toNat false).length c31_22)], [⟨b6, 44, [.int .i64 0, .slice none 0 0, .slice none 0 0, .slice none 0 0, .int .i64 0]⟩], [.sl 0 k70 Al1 cl1 l1 0 false, .sl 0 k70 Al2 cl2 l2 0 false, .sl 2 k70 A23_11 c23_11 [] 1 true, .sl 2 k70 A26_20 c26_20 [] 2 true, .sl 2 .bool A31_22 c31_22 (List.replicate (l1.length : Int).toNat false) 3 true]⟩) (fun S hS => ?_) (fun hn4 => ?_)
     ·
      obtain ⟨A23_11, c23_11, A26_20, c26_20, A31_22, c31_22, rfl⟩ := hS
      exact one1 3 rfl rfl (op_app (k := k70) (s := 3) (by_ := 24) 2 0 rfl rfl rfl rfl (ap0 g7 dq) (ap0n g7 dq) (.inl rfl) true (fun _ => .inl rfl) rfl rfl fun A25_16 c25_16 => (nmE (en := [.sl 0 k70 Al1 cl1 l1 0 false, .sl 0 k70 Al2 cl2 l2 0 false, .sl 2 k70 A26_20 c26_20 [] 2 true, .sl 2 .bool A31_22 c31_22 (List.replicate (l1.length : Int).toNat false) 3 true, .sl 2 k70 A25_16 c25_16 l1 1 true]) (by kernel_rfl) (xs [0] [0, 1] rfl rfl rfl (da (wk [6, 22, 25, 26, 27, 31] [0] [⟨0, 0, 0, false⟩, ⟨1, 0, 0, false⟩, ⟨4, 2, 1, true⟩, ⟨2, 2, 2, true⟩, ⟨3, 2, 3, true⟩] (hn1 _ ⟨A25_16, c25_16, A26_20, c26_20, A31_22, c31_22, rfl⟩))))))
     refine dl 6 #[true, true, true, false, true, true, false, true, true, false, false, false, false] (fun S => ∃ (A23_11 : Option Addr) (c23_11 : Nat) (A26_20 : Option Addr) (c26_20 : Nat), S = ⟨[(6, .pointer (some ⟨b6, 0, none⟩)), (22, .int .i64 a0), (23, .slice A23_11 0 c23_11), (24, .slice Al1 l1.length cl1), (26, .slice A26_20 0 c26_20), (27, .slice Al2 l2.length cl2), (30, .int .i64 (l1.length : Int))], [⟨b6, 44, [.int .i64 0, .slice none 0 0, .slice none 0 0, .slice none 0 0, .int .i64 0]⟩], [.sl 0 k70 Al1 cl1 l1 0 false, .sl 0 k70 Al2 cl2 l2 0 false, .sl 2 k70 A23_11 c23_11 [] 1 true, .sl 2 k70 A26_20 c26_20 [] 2 true]⟩) (fun S hS => ?_) (fun hn5 => ?_)
     ·
      obtain ⟨A23_11, c23_11, A26_20, c26_20, rfl⟩ := hS
      refine one2 3 9 rfl rfl rfl rfl ?_ ?_
      ·
       exact op_app (k := k70) (s := 3) (by_ := 24) 2 0 rfl rfl rfl rfl (ap0 g7 dq) (ap0n g7 dq) (.inl rfl) true (fun _ => .inl rfl) rfl rfl fun A25_17 c25_17 => (nmE (en := [.sl 0 k70 Al1 cl1 l1 0 false, .sl 0 k70 Al2 cl2 l2 0 false, .sl 2 k70 A26_20 c26_20 [] 2 true, .sl 2 k70 A25_17 c25_17 l1 1 true]) (by kernel_rfl) (xs [0] [0, 1] rfl rfl rfl (da (wk [6, 22, 25, 26, 27, 30] [0] [⟨0, 0, 0, false⟩, ⟨1, 0, 0, false⟩, ⟨3, 2, 1, true⟩, ⟨2, 2, 2, true⟩] (hn2 _ ⟨A25_17, c25_17, A26_20, c26_20, rfl⟩)))))
      ·
       exact op_mk (s := 1) (by_ := 1) .bool false 3 rfl rfl g9 (mk1 g10 dq) (mk2 g10 dq) mk42 rfl rfl dq rfl fun A31_18 c31_18 => (xs [0] [0, 1] rfl rfl rfl (da (wk [6, 22, 23, 24, 26, 27, 31] [0] [⟨0, 0, 0, false⟩, ⟨1, 0, 0, false⟩, ⟨2, 2, 1, true⟩, ⟨3, 2, 2, true⟩, ⟨4, 2, 3, true⟩] (hn4 _ ⟨A23_11, c23_11, A26_20, c26_20, A31_18, c31_18, rfl⟩))))
     refine dl 6 #[true, true, true, false, false, true, false, true, true, true, false, false, false] (fun S => ∃ (A23_11 : Option Addr) (c23_11 : Nat) (A31_24 : Option Addr) (c31_24 : Nat), S = ⟨[(6, .pointer (some ⟨b6, 0, none⟩)), (22, .int .i64 a0), (23, .slice A23_11 0 c23_11), (24, .slice Al1 l1.length cl1), (27, .slice Al2 l2.length cl2), (31, .slice A31_24 (List.replicate (l1.length : Int).toNat false).length c31_24)], [⟨b6, 44, [.int .i64 0, .slice none 0 0, .slice none 0 0, .slice none 0 0, .int .i64 0]⟩], [.sl 0 k70 Al1 cl1 l1 0 false, .sl 0 k70 Al2 cl2 l2 0 false, .sl 2 k70 A23_11 c23_11 [] 1 true, .sl 2 .bool A31_24 c31_24 (List.replicate (l1.length : Int).toNat false) 2 true]⟩) (fun S hS => ?_) (fun hn6 => ?_)
     ·
      obtain ⟨A23_11, c23_11, A31_24, c31_24, rfl⟩ := hS
      refine one2 3 4 rfl rfl rfl rfl ?_ ?_
      ·
       exact op_app (k := k70) (s := 3) (by_ := 24) 2 0 rfl rfl rfl rfl (ap0 g7 dq) (ap0n g7 dq) (.inl rfl) true (fun _ => .inl rfl) rfl rfl fun A25_19 c25_19 => (nmE (en := [.sl 0 k70 Al1 cl1 l1 0 false, .sl 0 k70 Al2 cl2 l2 0 false, .sl 2 .bool A31_24 c31_24 (List.replicate (l1.length : Int).toNat false) 2 true, .sl 2 k70 A25_19 c25_19 l1 1 true]) (by kernel_rfl) (xs [0] [0, 1] rfl rfl rfl (da (wk [6, 22, 25, 27, 31] [0] [⟨0, 0, 0, false⟩, ⟨1, 0, 0, false⟩, ⟨3, 2, 1, true⟩, ⟨2, 2, 2, true⟩] (hn3 _ ⟨A25_19, c25_19, A31_24, c31_24, rfl⟩)))))
      ·
       exact op_lit (s := 3) (by_ := 24) k70 ([] : List S70) [] [] 3 [] rfl rfl rfl rfl rfl rfl rfl rfl rfl rfl rfl rfl rfl dq rfl fun A26_20 c26_20 => (xs [0] [0, 1] rfl rfl rfl (da (wk [6, 22, 23, 24, 26, 27, 31] [0] [⟨0, 0, 0, false⟩, ⟨1, 0, 0, false⟩, ⟨2, 2, 1, true⟩, ⟨4, 2, 2, true⟩, ⟨3, 2, 3, true⟩] (hn4 _ ⟨A23_11, c23_11, A26_20, c26_20, A31_24, c31_24, rfl⟩))))
     refine dl 6 #[true, false, true, false, true, true, false, true, true, true, false, false, false] (fun S => ∃ (A26_27 : Option Addr) (c26_27 : Nat) (A31_29 : Option Addr) (c31_29 : Nat), S = ⟨[(6, .pointer (some ⟨b6, 0, none⟩)), (22, .int .i64 a0), (24, .slice Al1 l1.length cl1), (26, .slice A26_27 0 c26_27), (27, .slice Al2 l2.length cl2), (31, .slice A31_29 (List.replicate (l1.length : Int).toNat false).length c31_29)], [⟨b6, 44, [.int .i64 0, .slice none 0 0, .slice none 0 0, .slice none 0 0, .int .i64 0]⟩], [.sl 0 k70 Al1 cl1 l1 0 false, .sl 0 k70 Al2 cl2 l2 0 false, .sl 2 k70 A26_27 c26_27 [] 1 true, .sl 2 .bool A31_29 c31_29 (List.replicate (l1.length : Int).toNat false) 2 true]⟩) (fun S hS => ?_) (fun hn7 => ?_)
     ·
      obtain ⟨A26_27, c26_27, A31_29, c31_29, rfl⟩ := hS
      exact one1 1 rfl rfl (op_lit (s := 3) (by_ := 24) k70 ([] : List S70) [] [] 3 [] rfl rfl rfl rfl rfl rfl rfl rfl rfl rfl rfl rfl rfl dq rfl fun A23_21 c23_21 => (xs [0] [0, 1] rfl rfl rfl (da (wk [6, 22, 23, 24, 26, 27, 31] [0] [⟨0, 0, 0, false⟩, ⟨1, 0, 0, false⟩, ⟨4, 2, 1, true⟩, ⟨2, 2, 2, true⟩, ⟨3, 2, 3, true⟩] (hn4 _ ⟨A23_21, c23_21, A26_27, c26_27, A31_29, c31_29, rfl⟩)))))
     refine one3 1 4 9 rfl rfl rfl rfl rfl rfl ?_ ?_ ?_
     ·
      refine op_lit (s := 3) (by_ := 24) k70 ([] : List S70) [] [] 1 [] rfl rfl rfl rfl rfl rfl rfl rfl rfl rfl rfl rfl rfl dq rfl fun A23_22 c23_22 => (xs [0] [0, 1] rfl rfl rfl ?_)
      refine one3 3 4 9 rfl rfl rfl rfl rfl rfl ?_ ?_ ?_
      ·
       refine op_app (k := k70) (s := 3) (by_ := 24) 2 0 rfl rfl rfl rfl (ap0 g7 dq) (ap0n g7 dq) (.inl rfl) true (fun _ => .inl rfl) rfl rfl fun A25_23 c25_23 => (nmE (en := [.sl 0 k70 Al1 cl1 l1 0 false, .sl 0 k70 Al2 cl2 l2 0 false, .sl 2 k70 A25_23 c25_23 l1 1 true]) (by kernel_rfl) (xs [0] [0, 1] rfl rfl rfl ?_))
       refine one2 4 9 rfl rfl rfl rfl ?_ ?_
       ·
        exact op_lit (s := 3) (by_ := 24) k70 ([] : List S70) [] [] 2 [] rfl rfl rfl rfl rfl rfl rfl rfl rfl rfl rfl rfl rfl dq rfl fun A26_24 c26_24 => (xs [0] [0, 1] rfl rfl rfl (da (wk [6, 22, 25, 26, 27, 30] [0] [⟨0, 0, 0, false⟩, ⟨1, 0, 0, false⟩, ⟨2, 2, 1, true⟩, ⟨3, 2, 2, true⟩] (hn2 _ ⟨A25_23, c25_23, A26_24, c26_24, rfl⟩))))
       ·
        exact op_mk (s := 1) (by_ := 1) .bool false 2 rfl rfl g9 (mk1 g10 dq) (mk2 g10 dq) mk42 rfl rfl dq rfl fun A31_25 c31_25 => (xs [0] [0, 1] rfl rfl rfl (da (wk [6, 22, 25, 27, 31] [0] [⟨0, 0, 0, false⟩, ⟨1, 0, 0, false⟩, ⟨2, 2, 1, true⟩, ⟨3, 2, 2, true⟩] (hn3 _ ⟨A25_23, c25_23, A31_25, c31_25, rfl⟩))))
      ·
       exact op_lit (s := 3) (by_ := 24) k70 ([] : List S70) [] [] 2 [] rfl rfl rfl rfl rfl rfl rfl rfl rfl rfl rfl rfl rfl dq rfl fun A26_26 c26_26 => (xs [0] [0, 1] rfl rfl rfl (da (wk [6, 22, 23, 24, 26, 27, 30] [0] [⟨0, 0, 0, false⟩, ⟨1, 0, 0, false⟩, ⟨2, 2, 1, true⟩, ⟨3, 2, 2, true⟩] (hn5 _ ⟨A23_22, c23_22, A26_26, c26_26, rfl⟩))))
      ·
       exact op_mk (s := 1) (by_ := 1) .bool false 2 rfl rfl g9 (mk1 g10 dq) (mk2 g10 dq) mk42 rfl rfl dq rfl fun A31_27 c31_27 => (xs [0] [0, 1] rfl rfl rfl (da (wk [6, 22, 23, 24, 27, 31] [0] [⟨0, 0, 0, false⟩, ⟨1, 0, 0, false⟩, ⟨2, 2, 1, true⟩, ⟨3, 2, 2, true⟩] (hn6 _ ⟨A23_22, c23_22, A31_27, c31_27, rfl⟩))))
     ·
      refine op_lit (s := 3) (by_ := 24) k70 ([] : List S70) [] [] 1 [] rfl rfl rfl rfl rfl rfl rfl rfl rfl rfl rfl rfl rfl dq rfl fun A26_28 c26_28 => (xs [0] [0, 1] rfl rfl rfl ?_)
      refine one2 1 9 rfl rfl rfl rfl ?_ ?_
      ·
       exact op_lit (s := 3) (by_ := 24) k70 ([] : List S70) [] [] 2 [] rfl rfl rfl rfl rfl rfl rfl rfl rfl rfl rfl rfl rfl dq rfl fun A23_29 c23_29 => (xs [0] [0, 1] rfl rfl rfl (da (wk [6, 22, 23, 24, 26, 27, 30] [0] [⟨0, 0, 0, false⟩, ⟨1, 0, 0, false⟩, ⟨3, 2, 1, true⟩, ⟨2, 2, 2, true⟩] (hn5 _ ⟨A23_29, c23_29, A26_28, c26_28, rfl⟩))))
      ·
       exact op_mk (s := 1) (by_ := 1) .bool false 2 rfl rfl g9 (mk1 g10 dq) (mk2 g10 dq) mk42 rfl rfl dq rfl fun A31_30 c31_30 => (xs [0] [0, 1] rfl rfl rfl (da (wk [6, 22, 24, 26, 27, 31] [0] [⟨0, 0, 0, false⟩, ⟨1, 0, 0, false⟩, ⟨2, 2, 1, true⟩, ⟨3, 2, 2, true⟩] (hn7 _ ⟨A26_28, c26_28, A31_30, c31_30, rfl⟩))))
     ·
      refine op_mk (s := 1) (by_ := 1) .bool false 1 rfl rfl g9 (mk1 g10 dq) (mk2 g10 dq) mk42 rfl rfl dq rfl fun A31_31 c31_31 => (xs [0] [0, 1] rfl rfl rfl ?_)
      refine one2 1 4 rfl rfl rfl rfl ?_ ?_
      ·
       exact op_lit (s := 3) (by_ := 24) k70 ([] : List S70) [] [] 2 [] rfl rfl rfl rfl rfl rfl rfl rfl rfl rfl rfl rfl rfl dq rfl fun A23_32 c23_32 => (xs [0] [0, 1] rfl rfl rfl (da (wk [6, 22, 23, 24, 27, 31] [0] [⟨0, 0, 0, false⟩, ⟨1, 0, 0, false⟩, ⟨3, 2, 1, true⟩, ⟨2, 2, 2, true⟩] (hn6 _ ⟨A23_32, c23_32, A31_31, c31_31, rfl⟩))))
      ·
       exact op_lit (s := 3) (by_ := 24) k70 ([] : List S70) [] [] 2 [] rfl rfl rfl rfl rfl rfl rfl rfl rfl rfl rfl rfl rfl dq rfl fun A26_33 c26_33 => (xs [0] [0, 1] rfl rfl rfl (da (wk [6, 22, 24, 26, 27, 31] [0] [⟨0, 0, 0, false⟩, ⟨1, 0, 0, false⟩, ⟨3, 2, 1, true⟩, ⟨2, 2, 2, true⟩] (hn7 _ ⟨A26_33, c26_33, A31_31, c31_31, rfl⟩))))
   ·
    obtain rfl := bF c6
    refine gt rfl rfl (gs (rg (sv (EV.bd (v := .agg #[.int .i64 0, .slice none 0 0, .slice none 0 0, .slice none 0 0, .int .i64 0]) rfl (by kernel_rfl)) rfl (so rfl (op_st (cs' := [.int .i64 0, .slice none 0 0, .slice none 0 0, .slice none 0 0, .int .i64 0]) 0 rfl rfl rfl rfl rfl rfl (sv (EV.as rfl) rfl (re (nil_ k70 1 dq (nil_ k70 2 dq (nil_ .bool 3 dq ?_))))))))))
    cases H
    exact rt Try.func90 rfl (.cell 0 (some 5) rfl rfl rfl (.tmp rfl .nil)) rfl [] [⟨2, 2, 1, true⟩, ⟨3, 2, 2, true⟩, ⟨4, 2, 3, true⟩] rfl rfl rfl rfl rfl ⟨_, _, _, _, _, _, rfl, rfl, rfl⟩
  ·
   obtain rfl := bF c4
   refine ts 16 rfl rfl (sk rfl (sk rfl (sk rfl (sv (EV.pt rfl rfl rfl) rfl (re (pr [0, 1, 2, 6, 20] [0] [0, 1] rfl rfl rfl rfl (gt rfl rfl (gs (rg (sv (EV.bd (v := .agg #[.int .i64 0, .slice none 0 0, .slice none 0 0, .slice none 0 0, .int .i64 0]) rfl (by kernel_rfl)) rfl (so rfl (op_st (cs' := [.int .i64 0, .slice none 0 0, .slice none 0 0, .slice none 0 0, .int .i64 0]) 0 rfl rfl rfl rfl rfl rfl (sv (EV.as rfl) rfl (re (nil_ k70 1 dq (nil_ k70 2 dq (nil_ .bool 3 dq ?_)))))))))))))))))
   cases H
   exact rt Try.func90 rfl (.cell 0 (some 5) rfl rfl rfl (.tmp rfl .nil)) rfl [] [⟨2, 2, 1, true⟩, ⟨3, 2, 2, true⟩, ⟨4, 2, 3, true⟩] rfl rfl rfl rfl rfl ⟨_, _, _, _, _, _, rfl, rfl, rfl⟩
 ·
  obtain rfl := bF c2
  refine ts 11 rfl rfl (sk rfl (sk rfl (sk rfl (sv (EV.pt rfl rfl rfl) rfl (sv (EV.mv rfl) rfl (sk rfl (sk rfl (sk rfl (sv (EV.pt rfl rfl rfl) rfl (re (pr [0, 1, 2, 6, 20] [0] [0, 1] rfl rfl rfl rfl (gt rfl rfl (gs (rg (sv (EV.bd (v := .agg #[.int .i64 0, .slice none 0 0, .slice none 0 0, .slice none 0 0, .int .i64 0]) rfl (by kernel_rfl)) rfl (so rfl (op_st (cs' := [.int .i64 0, .slice none 0 0, .slice none 0 0, .slice none 0 0, .int .i64 0]) 0 rfl rfl rfl rfl rfl rfl (sv (EV.as rfl) rfl (re (nil_ k70 1 dq (nil_ k70 2 dq (nil_ .bool 3 dq ?_))))))))))))))))))))))
  cases H
  exact rt Try.func90 rfl (.cell 0 (some 5) rfl rfl rfl (.tmp rfl .nil)) rfl [] [⟨2, 2, 1, true⟩, ⟨3, 2, 2, true⟩, ⟨4, 2, 3, true⟩] rfl rfl rfl rfl rfl ⟨_, _, _, _, _, _, rfl, rfl, rfl⟩
end Go.Proofs.Ytajjeemkdjfilaa.K
namespace Go.Proofs.Ytajjeemkdjfilaa.K
open Go Go.RowKit
set_option linter.unusedVariables false
set_option linter.unusedSimpArgs false
def spec_l16Draw.l0 : Nat → Int → Int → Int → Int → (List S70) → (List S70) → (List Bool) → Int → Int → (List S70) → (List S70) → (List Bool) → Int → (List Int) → Option (Int × (List S70) × (List S70) × (List Bool) × Int × Int × Int)
 | 0, _, _, _, _, _, _, _, _, _, _, _, _, _, _ => none
 | k + 1, x2_8, x2_1000_1, x2_1000_2, x2_4_0, x2_4_1, x2_4_2, x2_4_3, x2_4_4, x2_6_0, x2_6_1, x2_6_2, x2_6_3, x2_6_4, l0_0 => if x2_8 < (x2_6_3.length : Int) then (if 0 ≤ x2_8 then ((spec_l1Once.f l0_0 x2_1000_1 x2_1000_2 4).bind fun bt10 => (spec_l16Draw.l0 k (wrap64 (x2_8 + 1)) bt10.2.1 bt10.2.2 x2_4_0 x2_4_1 x2_4_2 x2_4_3 x2_4_4 x2_6_0 x2_6_1 x2_6_2 (x2_6_3.set x2_8.toNat bt10.1) x2_6_4 l0_0)) else none) else (some (x2_6_0, x2_6_1, x2_6_2, x2_6_3, x2_6_4, x2_1000_1, x2_1000_2))
def spec_l16Draw.f (k : Nat) (l0_0 : List Int) (a0_1 : Int) (a0_2 : Int) (a1 : Int) : Option (Int × (List S70) × (List S70) × (List Bool) × Int × Int × Int) := (spec_l2Rows.f k l0_0 a0_1 a0_2 a1).bind fun bt1 => ((spec_l1Below.f l0_0 bt1.2.1 bt1.2.2 4).bind fun bt2 => ((spec_l2Rows.f k l0_0 bt2.2.1 bt2.2.2 a1).bind fun bt3 => ((spec_NewTask.f k (wrap64 (1 + bt2.1)) bt1.1 bt3.1).bind fun bt4 => ((spec_l1Once.f l0_0 bt3.2.1 bt3.2.2 3).bind fun bt5 => (if bt5.1 = true then ((spec_l1Below.f l0_0 bt5.2.1 bt5.2.2 5).bind fun bt7 => (spec_l16Draw.l0 k 0 bt7.2.1 bt7.2.2 0 [] [] [] 0 bt4.1 bt4.2.1 bt4.2.2.1 bt4.2.2.2.1 bt7.1 l0_0)) else (some (bt4.1, bt4.2.1, bt4.2.2.1, bt4.2.2.2.1, bt4.2.2.2.2.1, bt5.2.1, bt5.2.2)))))))
set_option maxHeartbeats 4000000 in
set_option maxRecDepth 100000 in
theorem spec_l16Draw.ok (k : Nat) (b1000 : Nat) (l0_0 : List Int) (Al0_0 : Option Addr) (cl0_0 : Nat) (a0_1 : Int) (a0_2 : Int) (a1 : Int) (r0 : Int) (r1 : List S70) (r2 : List S70) (r3 : List Bool) (r4 : Int) (r5 : Int) (r6 : Int) (H : spec_l16Draw.f k l0_0 a0_1 a0_2 a1 = some (r0, r1, r2, r3, r4, r5, r6)) : Fn Try.prog 110 [.pointer (some ⟨b1000, 0, none⟩), .int .i64 a1] [⟨b1000, 111, [.slice Al0_0 l0_0.length cl0_0, .int .i64 a0_1, .int .i64 a0_2]⟩] [.sl 0 (.int .u8) Al0_0 cl0_0 l0_0 0 false] (fun v bx en => ∃ A1 c1 A2 c2 A3 c3, v = .agg #[.int .i64 r0, .slice A1 r1.length c1, .slice A2 r2.length c2, .slice A3 r3.length c3, .int .i64 r4] ∧ bx = [⟨b1000, 111, [.slice Al0_0 l0_0.length cl0_0, .int .i64 r5, .int .i64 r6]⟩] ∧ en = [.sl 2 k70 A1 c1 r1 1 true, .sl 2 k70 A2 c2 r2 2 true, .sl 2 .bool A3 c3 r3 3 true]) := by
 refine fn_ 42 Try.func110 rfl rfl rfl (fun base T w0 => ?_)
 rw [spec_l16Draw.f] at H
 refine gs (rg (so rfl (op_alloc (cs := [.int .i64 0, .slice none 0 0, .slice none 0 0, .slice none 0 0, .int .i64 0]) (by kernel_rfl) rfl fun b4 => (re (gs (rg (sv (EV.mv rfl) rfl (sv (EV.mv rfl) rfl ?_))))))))
 revert H; refine bdI ?_; rintro ⟨t1_0, t1_1, t1_2⟩ A1 H
 refine so rfl (op_callM (spec_l2Rows.ok k b1000 l0_0 Al0_0 cl0_0 a0_1 a0_2 a1 _ _ _ A1) [⟨0, 0, 0, false⟩] [0] [1] 1 rfl rfl rfl rfl rfl rfl rfl rfl ?_)
 rintro _ _ _ ⟨At1_0, ct1_0, rfl, rfl, rfl⟩
 refine nmE (en := [.sl 0 (.int .u8) Al0_0 cl0_0 l0_0 0 false, .sl 2 k70 At1_0 ct1_0 t1_0 2 true]) (by kernel_rfl) (sv (EV.as rfl) rfl (re (gs (rg (sv (EV.mv rfl) rfl ?_)))))
 revert H; refine bdI ?_; rintro ⟨t2_0, t2_1, t2_2⟩ A2 H
 refine so rfl (op_callM (spec_l1Below.ok b1000 l0_0 Al0_0 cl0_0 t1_1 t1_2 4 _ _ _ A2) [⟨0, 0, 0, false⟩] [1] [0] 3 rfl rfl rfl rfl rfl rfl rfl rfl ?_)
 rintro _ _ _ ⟨rfl, rfl, rfl⟩
 refine nmE (en := [.sl 0 (.int .u8) Al0_0 cl0_0 l0_0 0 false, .sl 2 k70 At1_0 ct1_0 t1_0 2 true]) (by kernel_rfl) (sv (EV.add rfl rfl) rfl (sv (EV.mv rfl) rfl (sv (EV.mv rfl) rfl (sv (EV.mv rfl) rfl ?_))))
 revert H; refine bdI ?_; rintro ⟨t3_0, t3_1, t3_2⟩ A3 H
 refine so rfl (op_callM (spec_l2Rows.ok k b1000 l0_0 Al0_0 cl0_0 t2_1 t2_2 a1 _ _ _ A3) [⟨0, 0, 0, false⟩] [1] [0] 3 rfl rfl rfl rfl rfl rfl rfl rfl ?_)
 rintro _ _ _ ⟨At3_0, ct3_0, rfl, rfl, rfl⟩
 refine nmE (en := [.sl 0 (.int .u8) Al0_0 cl0_0 l0_0 0 false, .sl 2 k70 At1_0 ct1_0 t1_0 2 true, .sl 2 k70 At3_0 ct3_0 t3_0 4 true]) (by kernel_rfl) ?_
 revert H; refine bdI ?_; rintro ⟨t4_0, t4_1, t4_2, t4_3, t4_4, t4_5⟩ A4 H
 refine so rfl (op_call (spec_NewTask.ok k (wrap64 (1 + t2_0)) t1_0 At1_0 ct1_0 t3_0 At3_0 ct3_0 _ _ _ _ _ _ A4) [⟨1, 0, 0, false⟩, ⟨2, 0, 0, false⟩] 5 rfl rfl rfl rfl rfl ?_)
 rintro _ _ _ ⟨At4_1, ct4_1, At4_2, ct4_2, At4_3, ct4_3, rfl, rfl, rfl⟩
 refine sv (EV.mv rfl) rfl (sv (EV.ex rfl rfl) rfl (sv (EV.ex rfl rfl) rfl (so rfl (op_alloc (cs := [.int .i64 0, .slice none 0 0, .slice none 0 0, .slice none 0 0, .int .i64 0]) (by kernel_rfl) rfl fun b6 => (so rfl (op_st (cs' := [.int .i64 t4_0, .slice At4_1 t4_1.length ct4_1, .slice At4_2 t4_2.length ct4_2, .slice At4_3 t4_3.length ct4_3, .int .i64 t4_4]) 2 rfl rfl rfl rfl rfl rfl (sv (EV.as rfl) rfl (re (pr [0, 4, 6] [0, 1, 2] [0, 3, 4, 5] rfl rfl rfl rfl (gs (gs (rg (sv (EV.mv rfl) rfl ?_)))))))))))))
 revert H; refine bdI ?_; rintro ⟨t5_0, t5_1, t5_2⟩ A5 H
 refine so rfl (op_callM (spec_l1Once.ok b1000 l0_0 Al0_0 cl0_0 t3_1 t3_2 3 _ _ _ A5) [⟨0, 0, 0, false⟩] [1] [0, 2] 9 rfl rfl rfl rfl rfl rfl rfl rfl ?_)
 rintro _ _ _ ⟨rfl, rfl, rfl⟩
 refine nmE (en := [.sl 0 (.int .u8) Al0_0 cl0_0 l0_0 0 false, .sl 2 k70 At4_1 ct4_1 t4_1 6 true, .sl 2 k70 At4_2 ct4_2 t4_2 7 true, .sl 2 .bool At4_3 ct4_3 t4_3 8 true]) (by kernel_rfl) (re ?_)
 revert H; refine ifsI ?_ ?_ <;> intro c6 H
 ·
  subst c6
  refine gt rfl rfl (gs (rg (sv (EV.mv rfl) rfl ?_)))
  revert H; refine bdI ?_; rintro ⟨t7_0, t7_1, t7_2⟩ A7 H
  refine so rfl (op_callM (spec_l1Below.ok b1000 l0_0 Al0_0 cl0_0 t5_1 t5_2 5 _ _ _ A7) [⟨0, 0, 0, false⟩] [2] [0, 1] 9 rfl rfl rfl rfl rfl rfl rfl rfl ?_)
  rintro _ _ _ ⟨rfl, rfl, rfl⟩
  refine nmE (en := [.sl 0 (.int .u8) Al0_0 cl0_0 l0_0 0 false, .sl 2 k70 At4_1 ct4_1 t4_1 6 true, .sl 2 k70 At4_2 ct4_2 t4_2 7 true, .sl 2 .bool At4_3 ct4_3 t4_3 8 true]) (by kernel_rfl) (sv (EV.fa 4 rfl) rfl (so rfl (op_st (cs' := [.int .i64 t4_0, .slice At4_1 t4_1.length ct4_1, .slice At4_2 t4_2.length ct4_2, .slice At4_3 t4_3.length ct4_3, .int .i64 t7_0]) 1 rfl rfl rfl rfl rfl rfl (re (gs (rg (sv (EV.as rfl) rfl (re (gb (nil_ k70 9 dq (nil_ k70 10 dq (nil_ .bool 11 dq ?_))))))))))))
  refine lo (fun kk S => ∃ (x2_8 : Int) (x2_1000_1 : Int) (x2_1000_2 : Int) (x2_4_0 : Int) (x2_4_1 : List S70) (Ax2_4_1 : Option Addr) (cx2_4_1 : Nat) (x2_4_2 : List S70) (Ax2_4_2 : Option Addr) (cx2_4_2 : Nat) (x2_4_3 : List Bool) (Ax2_4_3 : Option Addr) (cx2_4_3 : Nat) (x2_4_4 : Int) (x2_6_0 : Int) (x2_6_1 : List S70) (Ax2_6_1 : Option Addr) (cx2_6_1 : Nat) (x2_6_2 : List S70) (Ax2_6_2 : Option Addr) (cx2_6_2 : Nat) (x2_6_3 : List Bool) (Ax2_6_3 : Option Addr) (cx2_6_3 : Nat) (x2_6_4 : Int), spec_l16Draw.l0 kk x2_8 x2_1000_1 x2_1000_2 x2_4_0 x2_4_1 x2_4_2 x2_4_3 x2_4_4 x2_6_0 x2_6_1 x2_6_2 x2_6_3 x2_6_4 l0_0 = some (r0, r1, r2, r3, r4, r5, r6) ∧ S = ⟨[(0, .pointer (some ⟨b1000, 0, none⟩)), (4, .pointer (some ⟨b4, 0, none⟩)), (6, .pointer (some ⟨b6, 0, none⟩)), (8, .int .i64 x2_8)], [⟨b1000, 111, [.slice Al0_0 l0_0.length cl0_0, .int .i64 x2_1000_1, .int .i64 x2_1000_2]⟩, ⟨b4, 44, [.int .i64 x2_4_0, .slice Ax2_4_1 x2_4_1.length cx2_4_1, .slice Ax2_4_2 x2_4_2.length cx2_4_2, .slice Ax2_4_3 x2_4_3.length cx2_4_3, .int .i64 x2_4_4]⟩, ⟨b6, 44, [.int .i64 x2_6_0, .slice Ax2_6_1 x2_6_1.length cx2_6_1, .slice Ax2_6_2 x2_6_2.length cx2_6_2, .slice Ax2_6_3 x2_6_3.length cx2_6_3, .int .i64 x2_6_4]⟩], [.sl 2 k70 Ax2_4_1 cx2_4_1 x2_4_1 1 true, .sl 2 k70 Ax2_4_2 cx2_4_2 x2_4_2 2 true, .sl 2 .bool Ax2_4_3 cx2_4_3 x2_4_3 3 true, .sl 2 k70 Ax2_6_1 cx2_6_1 x2_6_1 4 true, .sl 2 k70 Ax2_6_2 cx2_6_2 x2_6_2 5 true, .sl 2 .bool Ax2_6_3 cx2_6_3 x2_6_3 6 true, .sl 0 (.int .u8) Al0_0 cl0_0 l0_0 0 false]⟩) (fun S hS => ?_) (fun n0 ih0 S hS => ?_) ⟨0, t7_1, t7_2, 0, [], none, 0, [], none, 0, [], none, 0, 0, t4_0, t4_1, At4_1, ct4_1, t4_2, At4_2, ct4_2, t4_3, At4_3, ct4_3, t7_0, H, rfl⟩ (fun h => wk [0, 4, 6, 8] [2, 0, 1] [⟨4, 2, 1, true⟩, ⟨5, 2, 2, true⟩, ⟨6, 2, 3, true⟩, ⟨1, 2, 4, true⟩, ⟨2, 2, 5, true⟩, ⟨3, 2, 6, true⟩, ⟨0, 0, 0, false⟩] h)
  · clear H; obtain ⟨_, _, _, _, _, _, _, _, _, _, _, _, _, _, _, _, _, _, _, _, _, _, _, _, _, H, _⟩ := hS; rw [spec_l16Draw.l0] at H; cases H
  clear H
  obtain ⟨x2_8, x2_1000_1, x2_1000_2, x2_4_0, x2_4_1, Ax2_4_1, cx2_4_1, x2_4_2, Ax2_4_2, cx2_4_2, x2_4_3, Ax2_4_3, cx2_4_3, x2_4_4, x2_6_0, x2_6_1, Ax2_6_1, cx2_6_1, x2_6_2, Ax2_6_2, cx2_6_2, x2_6_3, Ax2_6_3, cx2_6_3, x2_6_4, H, rfl⟩ := hS
  rw [spec_l16Draw.l0] at H
  refine gs (gs (rg (sv (EV.mv rfl) rfl (sv (EV.fa 3 rfl) rfl (sv (EV.ld 2 none rfl rfl rfl) rfl (sv (EV.ln rfl) rfl (sv (EV.lss rfl rfl) rfl (re ?_))))))))
  revert H; refine ifsI ?_ ?_ <;> intro c8 H
  ·
   refine gt rfl (dT c8) (gk (gs (gb ?_)))
   revert H; refine ggI ?_; intro g9 H
   refine dr [] [0, 1, 2, 3, 4, 5, 6] [5, 6] 7 rfl rfl rfl rfl (xv 0 [] [0, 1, 2, 3, 4, 5, 6] rfl (EV.fa 3 rfl) rfl rfl rfl rfl (xv 2 [] [0, 1, 2, 3, 4, 5, 6] rfl (EV.mv rfl) rfl rfl rfl rfl (xv 3 [] [0, 1, 2, 3, 4, 5, 6] rfl (EV.mv rfl) rfl rfl rfl rfl ?_)))
   refine one2 1 4 rfl rfl rfl rfl ?_ ?_
   ·
    refine ov (EV.ld 2 none rfl rfl rfl) rfl (xs [] [0, 1, 2, 3, 4, 5, 6] rfl rfl rfl (one1 4 rfl rfl ?_))
    revert H; refine bdI ?_; rintro ⟨t10_0, t10_1, t10_2⟩ A10 H
    refine op_callM (spec_l1Once.ok b1000 l0_0 Al0_0 cl0_0 x2_1000_1 x2_1000_2 4 _ _ _ A10) [⟨6, 0, 0, false⟩] [0] [1, 2] 7 rfl rfl rfl rfl rfl rfl rfl rfl ?_
    rintro _ _ _ ⟨rfl, rfl, rfl⟩
    exact nmE (en := [.sl 2 k70 Ax2_4_1 cx2_4_1 x2_4_1 1 true, .sl 2 k70 Ax2_4_2 cx2_4_2 x2_4_2 2 true, .sl 2 .bool Ax2_4_3 cx2_4_3 x2_4_3 3 true, .sl 2 k70 Ax2_6_1 cx2_6_1 x2_6_1 4 true, .sl 2 k70 Ax2_6_2 cx2_6_2 x2_6_2 5 true, .sl 2 .bool Ax2_6_3 cx2_6_3 x2_6_3 6 true, .sl 0 (.int .u8) Al0_0 cl0_0 l0_0 0 false]) (by kernel_rfl) (xs [] [0, 1, 2, 3, 4, 5, 6] rfl rfl rfl (one1 5 rfl rfl (ov (EV.ix 5 rfl rfl rfl g9 c8 rfl) rfl (xn rfl (one1 6 rfl rfl (op_stf x2_8 0 5 false t10_0 rfl rfl rfl rfl g9 c8 rfl rfl rfl rfl dq rfl (rlT 30 (v' := .slice Ax2_6_3 (x2_6_3.set x2_8.toNat t10_0).length cx2_6_3) rfl (sle _ _ _ _ _) (rlT 36 (v' := .slice Ax2_6_3 (x2_6_3.set x2_8.toNat t10_0).length cx2_6_3) rfl (sle _ _ _ _ _) (rlB 1 (cs' := [.int .i64 x2_6_0, .slice Ax2_6_1 x2_6_1.length cx2_6_1, .slice Ax2_6_2 x2_6_2.length cx2_6_2, .slice Ax2_6_3 (x2_6_3.set x2_8.toNat t10_0).length cx2_6_3, .int .i64 x2_6_4]) rfl (by simp only [List.length_set]) (nmE (en := [.sl 2 k70 Ax2_4_1 cx2_4_1 x2_4_1 1 true, .sl 2 k70 Ax2_4_2 cx2_4_2 x2_4_2 2 true, .sl 2 .bool Ax2_4_3 cx2_4_3 x2_4_3 3 true, .sl 2 k70 Ax2_6_1 cx2_6_1 x2_6_1 4 true, .sl 2 k70 Ax2_6_2 cx2_6_2 x2_6_2 5 true, .sl 0 (.int .u8) Al0_0 cl0_0 l0_0 0 false, .sl 2 .bool Ax2_6_3 cx2_6_3 (x2_6_3.set x2_8.toNat t10_0) 6 true]) (by kernel_rfl) (xn rfl (xd (pr [0, 4, 6, 8] [0, 1, 2] [0, 1, 2, 3, 4, 5, 6] rfl rfl rfl rfl (ge (rg (sv (EV.mv rfl) rfl (sv (EV.add rfl rfl) rfl (sv (EV.as rfl) rfl (re (wk [0, 4, 6, 8] [2, 0, 1] [⟨0, 2, 1, true⟩, ⟨1, 2, 2, true⟩, ⟨2, 2, 3, true⟩, ⟨3, 2, 4, true⟩, ⟨4, 2, 5, true⟩, ⟨6, 2, 6, true⟩, ⟨5, 0, 0, false⟩] (ih0 _ (by omega) _ ⟨wrap64 (x2_8 + 1), t10_1, t10_2, x2_4_0, x2_4_1, Ax2_4_1, cx2_4_1, x2_4_2, Ax2_4_2, cx2_4_2, x2_4_3, Ax2_4_3, cx2_4_3, x2_4_4, x2_6_0, x2_6_1, Ax2_6_1, cx2_6_1, x2_6_2, Ax2_6_2, cx2_6_2, x2_6_3.set x2_8.toNat t10_0, Ax2_6_3, cx2_6_3, x2_6_4, H, rfl⟩)))))))))))))))))))))
   ·
    revert H; refine bdI ?_; rintro ⟨t11_0, t11_1, t11_2⟩ A11 H
    refine op_callM (spec_l1Once.ok b1000 l0_0 Al0_0 cl0_0 x2_1000_1 x2_1000_2 4 _ _ _ A11) [⟨6, 0, 0, false⟩] [0] [1, 2] 7 rfl rfl rfl rfl rfl rfl rfl rfl ?_
    rintro _ _ _ ⟨rfl, rfl, rfl⟩
    exact nmE (en := [.sl 2 k70 Ax2_4_1 cx2_4_1 x2_4_1 1 true, .sl 2 k70 Ax2_4_2 cx2_4_2 x2_4_2 2 true, .sl 2 .bool Ax2_4_3 cx2_4_3 x2_4_3 3 true, .sl 2 k70 Ax2_6_1 cx2_6_1 x2_6_1 4 true, .sl 2 k70 Ax2_6_2 cx2_6_2 x2_6_2 5 true, .sl 2 .bool Ax2_6_3 cx2_6_3 x2_6_3 6 true, .sl 0 (.int .u8) Al0_0 cl0_0 l0_0 0 false]) (by kernel_rfl) (xs [] [0, 1, 2, 3, 4, 5, 6] rfl rfl rfl (one1 1 rfl rfl (ov (EV.ld 1 none rfl rfl rfl) rfl (xs [] [0, 1, 2, 3, 4, 5, 6] rfl rfl rfl (one1 5 rfl rfl (ov (EV.ix 5 rfl rfl rfl g9 c8 rfl) rfl (xn rfl (one1 6 rfl rfl (op_stf x2_8 0 5 false t11_0 rfl rfl rfl rfl g9 c8 rfl rfl rfl rfl dq rfl (rlT 30 (v' := .slice Ax2_6_3 (x2_6_3.set x2_8.toNat t11_0).length cx2_6_3) rfl (sle _ _ _ _ _) (rlT 36 (v' := .slice Ax2_6_3 (x2_6_3.set x2_8.toNat t11_0).length cx2_6_3) rfl (sle _ _ _ _ _) (rlB 1 (cs' := [.int .i64 x2_6_0, .slice Ax2_6_1 x2_6_1.length cx2_6_1, .slice Ax2_6_2 x2_6_2.length cx2_6_2, .slice Ax2_6_3 (x2_6_3.set x2_8.toNat t11_0).length cx2_6_3, .int .i64 x2_6_4]) rfl (by simp only [List.length_set]) (nmE (en := [.sl 2 k70 Ax2_4_1 cx2_4_1 x2_4_1 1 true, .sl 2 k70 Ax2_4_2 cx2_4_2 x2_4_2 2 true, .sl 2 .bool Ax2_4_3 cx2_4_3 x2_4_3 3 true, .sl 2 k70 Ax2_6_1 cx2_6_1 x2_6_1 4 true, .sl 2 k70 Ax2_6_2 cx2_6_2 x2_6_2 5 true, .sl 0 (.int .u8) Al0_0 cl0_0 l0_0 0 false, .sl 2 .bool Ax2_6_3 cx2_6_3 (x2_6_3.set x2_8.toNat t11_0) 6 true]) (by kernel_rfl) (xn rfl (xd (pr [0, 4, 6, 8] [0, 1, 2] [0, 1, 2, 3, 4, 5, 6] rfl rfl rfl rfl (ge (rg (sv (EV.mv rfl) rfl (sv (EV.add rfl rfl) rfl (sv (EV.as rfl) rfl (re (wk [0, 4, 6, 8] [2, 0, 1] [⟨0, 2, 1, true⟩, ⟨1, 2, 2, true⟩, ⟨2, 2, 3, true⟩, ⟨3, 2, 4, true⟩, ⟨4, 2, 5, true⟩, ⟨6, 2, 6, true⟩, ⟨5, 0, 0, false⟩] (ih0 _ (by omega) _ ⟨wrap64 (x2_8 + 1), t11_1, t11_2, x2_4_0, x2_4_1, Ax2_4_1, cx2_4_1, x2_4_2, Ax2_4_2, cx2_4_2, x2_4_3, Ax2_4_3, cx2_4_3, x2_4_4, x2_6_0, x2_6_1, Ax2_6_1, cx2_6_1, x2_6_2, Ax2_6_2, cx2_6_2, x2_6_3.set x2_8.toNat t11_0, Ax2_6_3, cx2_6_3, x2_6_4, H, rfl⟩))))))))))))))))))))))))
  ·
   refine gf rfl (dF c8) (gx rfl (gs (rg (sv (EV.ld (v := .agg #[.int .i64 x2_6_0, .slice Ax2_6_1 x2_6_1.length cx2_6_1, .slice Ax2_6_2 x2_6_2.length cx2_6_2, .slice Ax2_6_3 x2_6_3.length cx2_6_3, .int .i64 x2_6_4]) 2 (some 5) rfl rfl rfl) rfl (so rfl (op_st (cs' := [.int .i64 x2_6_0, .slice Ax2_6_1 x2_6_1.length cx2_6_1, .slice Ax2_6_2 x2_6_2.length cx2_6_2, .slice Ax2_6_3 x2_6_3.length cx2_6_3, .int .i64 x2_6_4]) 1 rfl rfl rfl rfl rfl rfl (re (pr [4] [0, 1] [3, 4, 5, 6] rfl rfl rfl rfl ?_))))))))
   cases H
   exact rt Try.func110 rfl (.cell 1 (some 5) rfl rfl rfl .nil) rfl [0] [⟨0, 2, 1, true⟩, ⟨1, 2, 2, true⟩, ⟨2, 2, 3, true⟩] rfl rfl rfl rfl rfl ⟨_, _, _, _, _, _, rfl, rfl, rfl⟩
 ·
  obtain rfl := bF c6
  refine gf rfl rfl (gk (gs (rg (sv (EV.ld (v := .agg #[.int .i64 t4_0, .slice At4_1 t4_1.length ct4_1, .slice At4_2 t4_2.length ct4_2, .slice At4_3 t4_3.length ct4_3, .int .i64 t4_4]) 1 (some 5) rfl rfl rfl) rfl (so rfl (op_st (cs' := [.int .i64 t4_0, .slice At4_1 t4_1.length ct4_1, .slice At4_2 t4_2.length ct4_2, .slice At4_3 t4_3.length ct4_3, .int .i64 t4_4]) 0 rfl rfl rfl rfl rfl rfl (re ?_)))))))
  cases H
  exact rt Try.func110 rfl (.cell 0 (some 5) rfl rfl rfl .nil) rfl [2] [⟨1, 2, 1, true⟩, ⟨2, 2, 2, true⟩, ⟨3, 2, 3, true⟩] rfl rfl rfl rfl rfl ⟨_, _, _, _, _, _, rfl, rfl, rfl⟩
end Go.Proofs.Ytajjeemkdjfilaa.K
namespace Go.Proofs.Ytajjeemkdjfilaa.K
open Go Go.RowKit
set_option linter.unusedVariables false
set_option linter.unusedSimpArgs false
def spec_l16Any.f (k : Nat) (l0_0 : List Int) (a0_1 : Int) (a0_2 : Int) (a1 : Int) : Option (Int × (List S70) × (List S70) × (List Bool) × Int × Int × Int) := (spec_l16Draw.f k l0_0 a0_1 a0_2 a1).bind fun bt1 => ((spec_l1Below.f l0_0 bt1.2.2.2.2.2.1 bt1.2.2.2.2.2.2 16).bind fun bt2 => (if bt2.1 = 0 then ((spec_l1PickInt.f l0_0 bt2.2.1 bt2.2.2 ([0, 5] : List Int)).bind fun bt5 => (some (bt5.1, bt1.2.1, bt1.2.2.1, bt1.2.2.2.1, bt1.2.2.2.2.1, bt5.2.1, bt5.2.2))) else (if bt2.1 = 1 then (if bt1.2.2.2.1.length < 140737488355328 then (some (bt1.1, bt1.2.1, bt1.2.2.1, bt1.2.2.2.1 ++ ([true] : List Bool), bt1.2.2.2.2.1, bt2.2.1, bt2.2.2)) else none) else (if bt2.1 = 2 then ((spec_l1PickInt.f l0_0 bt2.2.1 bt2.2.2 ([(-1), 5] : List Int)).bind fun bt12 => (some (bt1.1, bt1.2.1, bt1.2.2.1, bt1.2.2.2.1, bt12.1, bt12.2.1, bt12.2.2))) else (if bt2.1 = 3 then (if bt1.2.1.length < 5864062014805 then ((spec_l2Any.f l0_0 bt2.2.1 bt2.2.2).bind fun bt15 => (some (bt1.1, bt1.2.1 ++ ([(⟨bt15.1, bt15.2.1, bt15.2.2.1⟩ : S70)] : List S70), bt1.2.2.1, bt1.2.2.2.1, bt1.2.2.2.2.1, bt15.2.2.2.1, bt15.2.2.2.2))) else none) else (some (bt1.1, bt1.2.1, bt1.2.2.1, bt1.2.2.2.1, bt1.2.2.2.2.1, bt2.2.1, bt2.2.2)))))))
set_option maxHeartbeats 4000000 in
set_option maxRecDepth 100000 in
theorem spec_l16Any.ok (k : Nat) (b1000 : Nat) (l0_0 : List Int) (Al0_0 : Option Addr) (cl0_0 : Nat) (a0_1 : Int) (a0_2 : Int) (a1 : Int) (r0 : Int) (r1 : List S70) (r2 : List S70) (r3 : List Bool) (r4 : Int) (r5 : Int) (r6 : Int) (H : spec_l16Any.f k l0_0 a0_1 a0_2 a1 = some (r0, r1, r2, r3, r4, r5, r6)) : Fn Try.prog 76 [.pointer (some ⟨b1000, 0, none⟩), .int .i64 a1] [⟨b1000, 111, [.slice Al0_0 l0_0.length cl0_0, .int .i64 a0_1, .int .i64 a0_2]⟩] [.sl 0 (.int .u8) Al0_0 cl0_0 l0_0 0 false] (fun v bx en => ∃ A1 c1 A2 c2 A3 c3, v = .agg #[.int .i64 r0, .slice A1 r1.length c1, .slice A2 r2.length c2, .slice A3 r3.length c3, .int .i64 r4] ∧ bx = [⟨b1000, 111, [.slice Al0_0 l0_0.length cl0_0, .int .i64 r5, .int .i64 r6]⟩] ∧ en = [.sl 2 k70 A1 c1 r1 1 true, .sl 2 k70 A2 c2 r2 2 true, .sl 2 .bool A3 c3 r3 3 true]) := by
 refine fn_ 40 Try.func76 rfl rfl rfl (fun base T w0 => ?_)
 rw [spec_l16Any.f] at H
 refine gs (rg (so rfl (op_alloc (cs := [.int .i64 0, .slice none 0 0, .slice none 0 0, .slice none 0 0, .int .i64 0]) (by kernel_rfl) rfl fun b4 => (re (gs (rg (sv (EV.mv rfl) rfl (sv (EV.mv rfl) rfl ?_))))))))
 revert H; refine bdI ?_; rintro ⟨t1_0, t1_1, t1_2, t1_3, t1_4, t1_5, t1_6⟩ A1 H
 refine so rfl (op_callM (spec_l16Draw.ok k b1000 l0_0 Al0_0 cl0_0 a0_1 a0_2 a1 _ _ _ _ _ _ _ A1) [⟨0, 0, 0, false⟩] [0] [1] 1 rfl rfl rfl rfl rfl rfl rfl rfl ?_)
 rintro _ _ _ ⟨At1_1, ct1_1, At1_2, ct1_2, At1_3, ct1_3, rfl, rfl, rfl⟩
 refine nmE (en := [.sl 0 (.int .u8) Al0_0 cl0_0 l0_0 0 false, .sl 2 k70 At1_1 ct1_1 t1_1 2 true, .sl 2 k70 At1_2 ct1_2 t1_2 3 true, .sl 2 .bool At1_3 ct1_3 t1_3 4 true]) (by kernel_rfl) (so rfl (op_alloc (cs := [.int .i64 0, .slice none 0 0, .slice none 0 0, .slice none 0 0, .int .i64 0]) (by kernel_rfl) rfl fun b5 => (so rfl (op_st (cs' := [.int .i64 t1_0, .slice At1_1 t1_1.length ct1_1, .slice At1_2 t1_2.length ct1_2, .slice At1_3 t1_3.length ct1_3, .int .i64 t1_4]) 2 rfl rfl rfl rfl rfl rfl (re (gs (gs (rg (sv (EV.mv rfl) rfl ?_)))))))))
 revert H; refine bdI ?_; rintro ⟨t2_0, t2_1, t2_2⟩ A2 H
 refine so rfl (op_callM (spec_l1Below.ok b1000 l0_0 Al0_0 cl0_0 t1_5 t1_6 16 _ _ _ A2) [⟨0, 0, 0, false⟩] [1] [0, 2] 5 rfl rfl rfl rfl rfl rfl rfl rfl ?_)
 rintro _ _ _ ⟨rfl, rfl, rfl⟩
 refine nmE (en := [.sl 0 (.int .u8) Al0_0 cl0_0 l0_0 0 false, .sl 2 k70 At1_1 ct1_1 t1_1 2 true, .sl 2 k70 At1_2 ct1_2 t1_2 3 true, .sl 2 .bool At1_3 ct1_3 t1_3 4 true]) (by kernel_rfl) (re (gb (gs (rg (sv (EV.eql rfl rfl) rfl (sv (EV.as rfl) rfl (re (pr [0, 4, 5, 10, 11] [0, 1, 2] [0, 1, 2, 3] rfl rfl rfl rfl ?_))))))))
 revert H; refine ifsI ?_ ?_ <;> intro c3 H
 ·
  refine gt rfl (dT c3) (rg (sv (EV.mv rfl) rfl (so rfl (op_lit (s := 1) (by_ := 8) (.int .i64) ([0, 5] : List Int) [[], []] [] 5 [.const (.int .i64 0), .const (.int .i64 5)] rfl rfl rfl rfl rfl rfl rfl rfl rfl rfl rfl rfl rfl dq rfl fun A14_4 c14_4 => ?_))))
  revert H; refine bdI ?_; rintro ⟨t5_0, t5_1, t5_2⟩ A5 H
  refine so rfl (op_callM (spec_l1PickInt.ok b1000 l0_0 Al0_0 cl0_0 t2_1 t2_2 ([0, 5] : List Int) A14_4 c14_4 _ _ _ A5) [⟨0, 0, 0, false⟩, ⟨4, 0, 0, false⟩] [2] [0, 1] 6 rfl rfl rfl rfl rfl rfl rfl rfl ?_)
  rintro _ _ _ ⟨rfl, rfl, rfl⟩
  refine nmE (en := [.sl 0 (.int .u8) Al0_0 cl0_0 l0_0 0 false, .sl 2 k70 At1_1 ct1_1 t1_1 2 true, .sl 2 k70 At1_2 ct1_2 t1_2 3 true, .sl 2 .bool At1_3 ct1_3 t1_3 4 true, .sl 2 (.int .i64) A14_4 c14_4 ([0, 5] : List Int) 5 true]) (by kernel_rfl) (sv (EV.fa 0 rfl) rfl (so rfl (op_st (cs' := [.int .i64 t5_0, .slice At1_1 t1_1.length ct1_1, .slice At1_2 t1_2.length ct1_2, .slice At1_3 t1_3.length ct1_3, .int .i64 t1_4]) 1 rfl rfl rfl rfl rfl rfl (re (pr [4, 5] [0, 1, 2] [0, 1, 2, 3] rfl rfl rfl rfl (ge (gs (rg (sv (EV.ld (v := .agg #[.int .i64 t5_0, .slice At1_1 t1_1.length ct1_1, .slice At1_2 t1_2.length ct1_2, .slice At1_3 t1_3.length ct1_3, .int .i64 t1_4]) 1 (some 5) rfl rfl rfl) rfl (so rfl (op_st (cs' := [.int .i64 t5_0, .slice At1_1 t1_1.length ct1_1, .slice At1_2 t1_2.length ct1_2, .slice At1_3 t1_3.length ct1_3, .int .i64 t1_4]) 0 rfl rfl rfl rfl rfl rfl (re ?_))))))))))))
  cases H
  exact rt Try.func76 rfl (.cell 0 (some 5) rfl rfl rfl .nil) rfl [2] [⟨1, 2, 1, true⟩, ⟨2, 2, 2, true⟩, ⟨3, 2, 3, true⟩] rfl rfl rfl rfl rfl ⟨_, _, _, _, _, _, rfl, rfl, rfl⟩
 ·
  refine gf rfl (dF c3) (gs (rg (sv (EV.eql rfl rfl) rfl (sv (EV.as rfl) rfl (re ?_)))))
  revert H; refine ifsI ?_ ?_ <;> intro c6 H
  ·
   refine gt rfl (dT c6) (rg (sv (EV.fa 3 rfl) rfl (sv (EV.ld 1 none rfl rfl rfl) rfl (so rfl (op_lit (s := 1) (by_ := 1) .bool ([true] : List Bool) [[]] [] 5 [.const (.bool true)] rfl rfl rfl rfl rfl rfl rfl rfl rfl rfl rfl rfl rfl dq rfl fun A21_7 c21_7 => ?_)))))
   revert H; refine ggI ?_; intro g8 H
   refine so rfl (op_app (k := .bool) (s := 1) (by_ := 1) 3 4 rfl rfl rfl rfl (ap1 g8 dq) (ap1n g8 dq) (.inl rfl) true (fun _ => .inl rfl) rfl rfl fun A22_9 c22_9 => (nmE (en := [.sl 0 (.int .u8) Al0_0 cl0_0 l0_0 0 false, .sl 2 k70 At1_1 ct1_1 t1_1 2 true, .sl 2 k70 At1_2 ct1_2 t1_2 3 true, .sl 2 .bool A21_7 c21_7 ([true] : List Bool) 5 true, .sl 2 .bool A22_9 c22_9 (t1_3 ++ ([true] : List Bool)) 4 true]) (by kernel_rfl) (sv (EV.fa 3 rfl) rfl (so rfl (op_st (cs' := [.int .i64 t1_0, .slice At1_1 t1_1.length ct1_1, .slice At1_2 t1_2.length ct1_2, .slice A22_9 (t1_3 ++ ([true] : List Bool)).length c22_9, .int .i64 t1_4]) 1 rfl rfl rfl rfl rfl rfl (re (pr [4, 5] [0, 1, 2] [0, 1, 2, 4] rfl rfl rfl rfl (ge (gs (rg (sv (EV.ld (v := .agg #[.int .i64 t1_0, .slice At1_1 t1_1.length ct1_1, .slice At1_2 t1_2.length ct1_2, .slice A22_9 (t1_3 ++ ([true] : List Bool)).length c22_9, .int .i64 t1_4]) 1 (some 5) rfl rfl rfl) rfl (so rfl (op_st (cs' := [.int .i64 t1_0, .slice At1_1 t1_1.length ct1_1, .slice At1_2 t1_2.length ct1_2, .slice A22_9 (t1_3 ++ ([true] : List Bool)).length c22_9, .int .i64 t1_4]) 0 rfl rfl rfl rfl rfl rfl (re ?_))))))))))))))
   cases H
   exact rt Try.func76 rfl (.cell 0 (some 5) rfl rfl rfl .nil) rfl [2] [⟨1, 2, 1, true⟩, ⟨2, 2, 2, true⟩, ⟨3, 2, 3, true⟩] rfl rfl rfl rfl rfl ⟨_, _, _, _, _, _, rfl, rfl, rfl⟩
  ·
   refine gf rfl (dF c6) (gs (rg (sv (EV.eql rfl rfl) rfl (sv (EV.as rfl) rfl (re ?_)))))
   revert H; refine ifsI ?_ ?_ <;> intro c10 H
   ·
    refine gt rfl (dT c10) (rg (sv (EV.mv rfl) rfl (so rfl (op_lit (s := 1) (by_ := 8) (.int .i64) ([(-1), 5] : List Int) [[], []] [] 5 [.const (.int .i64 (-1)), .const (.int .i64 5)] rfl rfl rfl rfl rfl rfl rfl rfl rfl rfl rfl rfl rfl dq rfl fun A27_11 c27_11 => ?_))))
    revert H; refine bdI ?_; rintro ⟨t12_0, t12_1, t12_2⟩ A12 H
    refine so rfl (op_callM (spec_l1PickInt.ok b1000 l0_0 Al0_0 cl0_0 t2_1 t2_2 ([(-1), 5] : List Int) A27_11 c27_11 _ _ _ A12) [⟨0, 0, 0, false⟩, ⟨4, 0, 0, false⟩] [2] [0, 1] 6 rfl rfl rfl rfl rfl rfl rfl rfl ?_)
    rintro _ _ _ ⟨rfl, rfl, rfl⟩
    refine nmE (en := [.sl 0 (.int .u8) Al0_0 cl0_0 l0_0 0 false, .sl 2 k70 At1_1 ct1_1 t1_1 2 true, .sl 2 k70 At1_2 ct1_2 t1_2 3 true, .sl 2 .bool At1_3 ct1_3 t1_3 4 true, .sl 2 (.int .i64) A27_11 c27_11 ([(-1), 5] : List Int) 5 true]) (by kernel_rfl) (sv (EV.fa 4 rfl) rfl (so rfl (op_st (cs' := [.int .i64 t1_0, .slice At1_1 t1_1.length ct1_1, .slice At1_2 t1_2.length ct1_2, .slice At1_3 t1_3.length ct1_3, .int .i64 t12_0]) 1 rfl rfl rfl rfl rfl rfl (re (pr [4, 5] [0, 1, 2] [0, 1, 2, 3] rfl rfl rfl rfl (ge (gs (rg (sv (EV.ld (v := .agg #[.int .i64 t1_0, .slice At1_1 t1_1.length ct1_1, .slice At1_2 t1_2.length ct1_2, .slice At1_3 t1_3.length ct1_3, .int .i64 t12_0]) 1 (some 5) rfl rfl rfl) rfl (so rfl (op_st (cs' := [.int .i64 t1_0, .slice At1_1 t1_1.length ct1_1, .slice At1_2 t1_2.length ct1_2, .slice At1_3 t1_3.length ct1_3, .int .i64 t12_0]) 0 rfl rfl rfl rfl rfl rfl (re ?_))))))))))))
    cases H
    exact rt Try.func76 rfl (.cell 0 (some 5) rfl rfl rfl .nil) rfl [2] [⟨1, 2, 1, true⟩, ⟨2, 2, 2, true⟩, ⟨3, 2, 3, true⟩] rfl rfl rfl rfl rfl ⟨_, _, _, _, _, _, rfl, rfl, rfl⟩
   ·
    refine gf rfl (dF c10) (gs (rg (sv (EV.eql rfl rfl) rfl (sv (EV.as rfl) rfl (re (pr [0, 4, 5, 30] [0, 1, 2] [0, 1, 2, 3] rfl rfl rfl rfl ?_))))))
    revert H; refine ifsI ?_ ?_ <;> intro c13 H
    ·
     refine gt rfl (dT c13) ?_
     revert H; refine ggI ?_; intro g14 H
     refine dr [0, 1] [0, 2, 3] [6, 7] 8 rfl rfl rfl rfl (xv 0 [0, 1] [0, 2, 3] rfl (EV.fa 1 rfl) rfl rfl rfl rfl (xv 1 [0, 1] [0, 2, 3] rfl (EV.ld 1 none rfl rfl rfl) rfl rfl rfl rfl (xv 2 [0, 1] [0, 2, 3] rfl (EV.mv rfl) rfl rfl rfl rfl (one1 3 rfl rfl ?_))))
     revert H; refine bdI ?_; rintro ⟨t15_0, t15_1, t15_2, t15_3, t15_4⟩ A15 H
     refine op_callM (spec_l2Any.ok b1000 l0_0 Al0_0 cl0_0 t2_1 t2_2 _ _ _ _ _ A15) [⟨0, 0, 0, false⟩] [2] [0, 1] 5 rfl rfl rfl rfl rfl rfl rfl rfl ?_
     rintro _ _ _ ⟨rfl, rfl, rfl⟩
     refine nmE (en := [.sl 0 (.int .u8) Al0_0 cl0_0 l0_0 0 false, .sl 2 k70 At1_1 ct1_1 t1_1 2 true, .sl 2 k70 At1_2 ct1_2 t1_2 3 true, .sl 2 .bool At1_3 ct1_3 t1_3 4 true]) (by kernel_rfl) (xs [0, 1] [0, 2, 3] rfl rfl rfl (one1 4 rfl rfl (op_lit (s := 3) (by_ := 24) k70 ([(⟨t15_0, t15_1, t15_2⟩ : S70)] : List S70) [[]] [] 5 [.tmp 35] rfl rfl rfl rfl rfl rfl rfl rfl rfl rfl rfl rfl rfl dq rfl fun A36_16 c36_16 => (xs [0, 1] [0, 2, 3] rfl rfl rfl (one1 5 rfl rfl (op_app (k := k70) (s := 3) (by_ := 24) 1 4 rfl rfl rfl rfl (ap1 g14 dq) (ap1n g14 dq) (.inl rfl) true (fun _ => .inl rfl) rfl rfl fun A37_17 c37_17 => (nmE (en := [.sl 0 (.int .u8) Al0_0 cl0_0 l0_0 0 false, .sl 2 k70 At1_2 ct1_2 t1_2 3 true, .sl 2 .bool At1_3 ct1_3 t1_3 4 true, .sl 2 k70 A36_16 c36_16 ([(⟨t15_0, t15_1, t15_2⟩ : S70)] : List S70) 5 true, .sl 2 k70 A37_17 c37_17 (t1_1 ++ ([(⟨t15_0, t15_1, t15_2⟩ : S70)] : List S70)) 2 true]) (by kernel_rfl) (xs [0, 1] [0, 1, 2] rfl rfl rfl (one1 6 rfl rfl (ov (EV.fa 1 rfl) rfl (xn rfl (one1 7 rfl rfl (op_st (cs' := [.int .i64 t1_0, .slice A37_17 (t1_1 ++ ([(⟨t15_0, t15_1, t15_2⟩ : S70)] : List S70)).length c37_17, .slice At1_2 t1_2.length ct1_2, .slice At1_3 t1_3.length ct1_3, .int .i64 t1_4]) 1 rfl rfl rfl rfl rfl rfl (xn rfl (xd (pr [4, 5] [0, 1, 2] [0, 1, 2, 4] rfl rfl rfl rfl (ge (gs (rg (sv (EV.ld (v := .agg #[.int .i64 t1_0, .slice A37_17 (t1_1 ++ ([(⟨t15_0, t15_1, t15_2⟩ : S70)] : List S70)).length c37_17, .slice At1_2 t1_2.length ct1_2, .slice At1_3 t1_3.length ct1_3, .int .i64 t1_4]) 1 (some 5) rfl rfl rfl) rfl (so rfl (op_st (cs' := [.int .i64 t1_0, .slice A37_17 (t1_1 ++ ([(⟨t15_0, t15_1, t15_2⟩ : S70)] : List S70)).length c37_17, .slice At1_2 t1_2.length ct1_2, .slice At1_3 t1_3.length ct1_3, .int .i64 t1_4]) 0 rfl rfl rfl rfl rfl rfl (re ?_)))))))))))))))))))))))
     cases H
     exact rt Try.func76 rfl (.cell 0 (some 5) rfl rfl rfl .nil) rfl [2] [⟨3, 2, 1, true⟩, ⟨1, 2, 2, true⟩, ⟨2, 2, 3, true⟩] rfl rfl rfl rfl rfl ⟨_, _, _, _, _, _, rfl, rfl, rfl⟩
    ·
     refine gf rfl (dF c13) (gk (ge (gs (rg (sv (EV.ld (v := .agg #[.int .i64 t1_0, .slice At1_1 t1_1.length ct1_1, .slice At1_2 t1_2.length ct1_2, .slice At1_3 t1_3.length ct1_3, .int .i64 t1_4]) 1 (some 5) rfl rfl rfl) rfl (so rfl (op_st (cs' := [.int .i64 t1_0, .slice At1_1 t1_1.length ct1_1, .slice At1_2 t1_2.length ct1_2, .slice At1_3 t1_3.length ct1_3, .int .i64 t1_4]) 0 rfl rfl rfl rfl rfl rfl (re ?_))))))))
     cases H
     exact rt Try.func76 rfl (.cell 0 (some 5) rfl rfl rfl .nil) rfl [2] [⟨1, 2, 1, true⟩, ⟨2, 2, 2, true⟩, ⟨3, 2, 3, true⟩] rfl rfl rfl rfl rfl ⟨_, _, _, _, _, _, rfl, rfl, rfl⟩
end Go.Proofs.Ytajjeemkdjfilaa.K
namespace Go.Proofs.Ytajjeemkdjfilaa.K
open Go Go.RowKit
set_option linter.unusedVariables false
set_option linter.unusedSimpArgs false
def spec_DrawPartitionTask.f (k : Nat) (l0 : List Int) : Option (Int × (List S70) × (List S70) × (List Bool) × Int) := (spec_l1New.f k l0).bind fun bt1 => ((spec_l16Any.f k l0 bt1.1 bt1.2 8).bind fun bt2 => (some (bt2.1, bt2.2.1, bt2.2.2.1, bt2.2.2.2.1, bt2.2.2.2.2.1)))
set_option maxHeartbeats 4000000 in
set_option maxRecDepth 100000 in
theorem spec_DrawPartitionTask.ok (k : Nat) (l0 : List Int) (Al0 : Option Addr) (cl0 : Nat) (r0 : Int) (r1 : List S70) (r2 : List S70) (r3 : List Bool) (r4 : Int) (H : spec_DrawPartitionTask.f k l0 = some (r0, r1, r2, r3, r4)) : Fn Try.prog 41 [.slice Al0 l0.length cl0] [] [.sl 0 (.int .u8) Al0 cl0 l0 0 false] (fun v bx en => ∃ A1 c1 A2 c2 A3 c3, v = .agg #[.int .i64 r0, .slice A1 r1.length c1, .slice A2 r2.length c2, .slice A3 r3.length c3, .int .i64 r4] ∧ bx = [] ∧ en = [.sl 2 k70 A1 c1 r1 1 true, .sl 2 k70 A2 c2 r2 2 true, .sl 2 .bool A3 c3 r3 3 true]) := by
 refine fn_ 6 Try.func41 rfl rfl rfl (fun base T w0 => ?_)
 rw [spec_DrawPartitionTask.f] at H
 refine gs (rg (so rfl (op_alloc (cs := [.int .i64 0, .slice none 0 0, .slice none 0 0, .slice none 0 0, .int .i64 0]) (by kernel_rfl) rfl fun b2 => (re (gs (rg (sv (EV.mv rfl) rfl ?_)))))))
 revert H; refine bdI ?_; rintro ⟨t1_0, t1_1⟩ A1 H
 refine so rfl (op_callM (spec_l1New.ok k l0 Al0 cl0 _ _ A1) [⟨0, 0, 0, false⟩] [] [0] 1 rfl rfl rfl rfl rfl rfl rfl rfl ?_)
 rintro _ _ _ ⟨b2001, rfl, rfl, rfl⟩
 refine nmE (en := [.sl 0 (.int .u8) Al0 cl0 l0 0 false]) (by kernel_rfl) ?_
 revert H; refine bdI ?_; rintro ⟨t2_0, t2_1, t2_2, t2_3, t2_4, t2_5, t2_6⟩ A2 H
 refine so rfl (op_callM (spec_l16Any.ok k b2001 l0 Al0 cl0 t1_0 t1_1 8 _ _ _ _ _ _ _ A2) [⟨0, 0, 0, false⟩] [1] [0] 1 rfl rfl rfl rfl rfl rfl rfl rfl ?_)
 rintro _ _ _ ⟨At2_1, ct2_1, At2_2, ct2_2, At2_3, ct2_3, rfl, rfl, rfl⟩
 refine nmE (en := [.sl 0 (.int .u8) Al0 cl0 l0 0 false, .sl 2 k70 At2_1 ct2_1 t2_1 2 true, .sl 2 k70 At2_2 ct2_2 t2_2 3 true, .sl 2 .bool At2_3 ct2_3 t2_3 4 true]) (by kernel_rfl) (so rfl (op_st (cs' := [.int .i64 t2_0, .slice At2_1 t2_1.length ct2_1, .slice At2_2 t2_2.length ct2_2, .slice At2_3 t2_3.length ct2_3, .int .i64 t2_4]) 0 rfl rfl rfl rfl rfl rfl (re ?_)))
 cases H
 exact rt Try.func41 rfl (.cell 0 (some 5) rfl rfl rfl .nil) rfl [] [⟨1, 2, 1, true⟩, ⟨2, 2, 2, true⟩, ⟨3, 2, 3, true⟩] rfl rfl rfl rfl rfl ⟨_, _, _, _, _, _, rfl, rfl, rfl⟩
end Go.Proofs.Ytajjeemkdjfilaa.K
namespace Go.Proofs.Ytajjeemkdjfilaa.K
open Go Go.RowKit
set_option linter.unusedVariables false
set_option linter.unusedSimpArgs false
def impl_within.f (a0 : Int) (a1 : Int) (a2 : Int) : Option (Bool) := if a0 ≥ a1 then (some (decide (a0 ≤ a2))) else (some false)
set_option maxHeartbeats 4000000 in
set_option maxRecDepth 100000 in
theorem impl_within.ok (a0 : Int) (a1 : Int) (a2 : Int) (r0 : Bool) (H : impl_within.f a0 a1 a2 = some r0) : Fn Try.prog 101 [.int .i64 a0, .int .i64 a1, .int .i64 a2] [] [] (fun v bx en => v = .bool r0 ∧ bx = [] ∧ en = []) := by
 refine fn_ 15 Try.func101 rfl rfl rfl (fun base T w0 => ?_)
 rw [impl_within.f] at H
 refine gs (rg (sv (EV.as rfl) rfl (re (gs (rg (sv (EV.mv rfl) rfl (sv (EV.mv rfl) rfl (sv (EV.geq rfl rfl) rfl (sv (EV.mv rfl) rfl ?_)))))))))
 revert H; refine ifsI ?_ ?_ <;> intro c1 H
 ·
  refine ts 10 rfl (dT c1) (sv (EV.mv rfl) rfl (sv (EV.mv rfl) rfl (sv (EV.leq rfl rfl) rfl (sv (EV.pt rfl rfl rfl) rfl (sv (EV.as rfl) rfl (re (pr [6] [] [] rfl rfl rfl rfl ?_)))))))
  cases H
  exact rt Try.func101 rfl (.tmp rfl .nil) rfl [] [] rfl rfl rfl rfl rfl ⟨rfl, rfl, rfl⟩
 ·
  refine ts 10 rfl (dF c1) (sk rfl (sk rfl (sk rfl (sv (EV.pf rfl rfl rfl) rfl (sv (EV.as rfl) rfl (re (pr [6] [] [] rfl rfl rfl rfl ?_)))))))
  cases H
  exact rt Try.func101 rfl (.tmp rfl .nil) rfl [] [] rfl rfl rfl rfl rfl ⟨rfl, rfl, rfl⟩
end Go.Proofs.Ytajjeemkdjfilaa.K
namespace Go.Proofs.Ytajjeemkdjfilaa.K
open Go Go.RowKit
set_option linter.unusedVariables false
set_option linter.unusedSimpArgs false
def impl_IsValidRow.f (a0_0 : Int) (a0_1 : Int) (a0_2 : Int) : Option (Bool) := (impl_within.f a0_0 0 9).bind fun t1 => (if t1 = true then ((impl_within.f a0_1 0 99).bind fun t3 => (if t3 = true then ((impl_within.f a0_2 0 3).bind fun t5 => (some t5)) else (some false))) else (some false))
set_option maxHeartbeats 4000000 in
set_option maxRecDepth 100000 in
theorem impl_IsValidRow.ok (a0_0 : Int) (a0_1 : Int) (a0_2 : Int) (r0 : Bool) (H : impl_IsValidRow.f a0_0 a0_1 a0_2 = some r0) : Fn Try.prog 116 [.agg #[.int .i64 a0_0, .int .i64 a0_1, .int .i64 a0_2]] [] [] (fun v bx en => v = .bool r0 ∧ bx = [] ∧ en = []) := by
 refine fn_ 16 Try.func116 rfl rfl rfl (fun base T w0 => ?_)
 rw [impl_IsValidRow.f] at H
 refine gs (rg (so rfl (op_box (cs := [.int .i64 a0_0, .int .i64 a0_1, .int .i64 a0_2]) rfl rfl rfl fun b1 => (sv (EV.as rfl) rfl (re (gs (rg (sv (EV.fa 0 rfl) rfl (sv (EV.ld 0 none rfl rfl rfl) rfl ?_)))))))))
 revert H; refine bdI ?_; rintro t1 A1 H
 refine so rfl (op_call (impl_within.ok a0_0 0 9 _ A1) [] 1 rfl rfl rfl rfl rfl ?_)
 rintro _ _ _ ⟨rfl, rfl, rfl⟩
 refine sv (EV.mv rfl) rfl ?_
 revert H; refine ifsI ?_ ?_ <;> intro c2 H
 ·
  subst c2
  refine ts 6 rfl rfl (sv (EV.fa 1 rfl) rfl (sv (EV.ld 0 none rfl rfl rfl) rfl ?_))
  revert H; refine bdI ?_; rintro t3 A3 H
  refine so rfl (op_call (impl_within.ok a0_1 0 99 _ A3) [] 1 rfl rfl rfl rfl rfl ?_)
  rintro _ _ _ ⟨rfl, rfl, rfl⟩
  refine sv (EV.pt rfl rfl rfl) rfl (sv (EV.mv rfl) rfl ?_)
  revert H; refine ifsI ?_ ?_ <;> intro c4 H
  ·
   subst c4
   refine ts 11 rfl rfl (sv (EV.fa 2 rfl) rfl (sv (EV.ld 0 none rfl rfl rfl) rfl ?_))
   revert H; refine bdI ?_; rintro t5 A5 H
   refine so rfl (op_call (impl_within.ok a0_2 0 3 _ A5) [] 1 rfl rfl rfl rfl rfl ?_)
   rintro _ _ _ ⟨rfl, rfl, rfl⟩
   refine sv (EV.pt rfl rfl rfl) rfl (sv (EV.as rfl) rfl (re (pr [2] [] [] rfl rfl rfl rfl ?_)))
   cases H
   exact rt Try.func116 rfl (.tmp rfl .nil) rfl [] [] rfl rfl rfl rfl rfl ⟨rfl, rfl, rfl⟩
  ·
   obtain rfl := bF c4
   refine ts 11 rfl rfl (sk rfl (sk rfl (sk rfl (sv (EV.pf rfl rfl rfl) rfl (sv (EV.as rfl) rfl (re (pr [2] [] [] rfl rfl rfl rfl ?_)))))))
   cases H
   exact rt Try.func116 rfl (.tmp rfl .nil) rfl [] [] rfl rfl rfl rfl rfl ⟨rfl, rfl, rfl⟩
 ·
  obtain rfl := bF c2
  refine ts 6 rfl rfl (sk rfl (sk rfl (sk rfl (sv (EV.pf rfl rfl rfl) rfl (sv (EV.mv rfl) rfl (sk rfl (sk rfl (sk rfl (sv (EV.pf rfl rfl rfl) rfl (sv (EV.as rfl) rfl (re (pr [2] [] [] rfl rfl rfl rfl ?_))))))))))))
  cases H
  exact rt Try.func116 rfl (.tmp rfl .nil) rfl [] [] rfl rfl rfl rfl rfl ⟨rfl, rfl, rfl⟩
end Go.Proofs.Ytajjeemkdjfilaa.K
namespace Go.Proofs.Ytajjeemkdjfilaa.K
open Go Go.RowKit
set_option linter.unusedVariables false
set_option linter.unusedSimpArgs false
def impl_allValid.l0 : Nat → Int → Int → (List S70) → Option (Bool)
 | 0, _, _, _ => none
 | k + 1, x2_6, x2_7, l0 => if x2_7 < x2_6 then (if 0 ≤ x2_7 then (if x2_7 < (l0.length : Int) then ((impl_IsValidRow.f ((rd_T70 l0 x2_7).f0) ((rd_T70 l0 x2_7).f1) ((rd_T70 l0 x2_7).f2)).bind fun t4 => (if t4 = true then (impl_allValid.l0 k x2_6 (wrap64 (x2_7 + 1)) l0) else (some false))) else none) else none) else (some true)
def impl_allValid.f (k : Nat) (l0 : List S70) : Option (Bool) := impl_allValid.l0 k (l0.length : Int) 0 l0
set_option maxHeartbeats 4000000 in
set_option maxRecDepth 100000 in
theorem impl_allValid.ok (k : Nat) (l0 : List S70) (Al0 : Option Addr) (cl0 : Nat) (r0 : Bool) (H : impl_allValid.f k l0 = some r0) : Fn Try.prog 112 [.slice Al0 l0.length cl0] [] [.sl 0 k70 Al0 cl0 l0 0 false] (fun v bx en => v = .bool r0 ∧ bx = [] ∧ en = []) := by
 refine fn_ 15 Try.func112 rfl rfl rfl (fun base T w0 => ?_)
 rw [impl_allValid.f] at H
 refine gs (rg (sv (EV.as rfl) rfl (re (gs (gs (rg (sv (EV.mv rfl) rfl (sv (EV.ln rfl) rfl (sv (EV.mv rfl) rfl (re (gb ?_)))))))))))
 refine lo (fun kk S => ∃ (x2_6 : Int) (x2_7 : Int), impl_allValid.l0 kk x2_6 x2_7 l0 = some r0 ∧ S = ⟨[(5, .slice Al0 l0.length cl0), (6, .int .i64 x2_6), (7, .int .i64 x2_7)], [], [.sl 0 k70 Al0 cl0 l0 0 false]⟩) (fun S hS => ?_) (fun n0 ih0 S hS => ?_) ⟨(l0.length : Int), 0, H, rfl⟩ (fun h => wk [5, 6, 7] [] [⟨0, 0, 0, false⟩] h)
 · clear H; obtain ⟨_, _, H, _⟩ := hS; rw [impl_allValid.l0] at H; cases H
 clear H
 obtain ⟨x2_6, x2_7, H, rfl⟩ := hS
 rw [impl_allValid.l0] at H
 refine gs (rg (sv (EV.lss rfl rfl) rfl (re (gs ?_))))
 revert H; refine ifsI ?_ ?_ <;> intro c1 H
 ·
  refine gt rfl (dT c1) (gk (gs (gb (gs (rg ?_)))))
  revert H; refine ggI ?_; intro g2 H
  revert H; refine ggI ?_; intro g3 H
  refine sv (EV.ix 0 rfl rfl rfl g2 g3 rfl) rfl (sv (EV.le (v := .agg #[.int .i64 ((rd_T70 l0 x2_7).f0), .int .i64 ((rd_T70 l0 x2_7).f1), .int .i64 ((rd_T70 l0 x2_7).f2)]) x2_7 0 (some 3) 0 z70 rfl rfl rfl g2 g3 rfl rfl rfl) rfl (so rfl (op_alloc (cs := [.int .i64 0, .int .i64 0, .int .i64 0]) (by kernel_rfl) rfl fun b4 => (so rfl (op_st (cs' := [.int .i64 ((rd_T70 l0 x2_7).f0), .int .i64 ((rd_T70 l0 x2_7).f1), .int .i64 ((rd_T70 l0 x2_7).f2)]) 0 rfl rfl rfl rfl rfl rfl (re (gs (rg (sv (EV.ld (v := .agg #[.int .i64 ((rd_T70 l0 x2_7).f0), .int .i64 ((rd_T70 l0 x2_7).f1), .int .i64 ((rd_T70 l0 x2_7).f2)]) 0 (some 3) rfl rfl rfl) rfl ?_)))))))))
  revert H; refine bdI ?_; rintro t4 A4 H
  refine so rfl (op_call (impl_IsValidRow.ok ((rd_T70 l0 x2_7).f0) ((rd_T70 l0 x2_7).f1) ((rd_T70 l0 x2_7).f2) _ A4) [] 1 rfl rfl rfl rfl rfl ?_)
  rintro _ _ _ ⟨rfl, rfl, rfl⟩
  refine sv (EV.nt rfl) rfl (re (pr [5, 6, 7, 13] [] [0] rfl rfl rfl rfl ?_))
  revert H; refine ifsI ?_ ?_ <;> intro c5 H
  ·
   subst c5
   exact gf rfl rfl (gk (ge (rg (sv (EV.add rfl rfl) rfl (sv (EV.mv rfl) rfl (re (wk [5, 6, 7] [] [⟨0, 0, 0, false⟩] (ih0 _ (by omega) _ ⟨x2_6, wrap64 (x2_7 + 1), H, rfl⟩))))))))
  ·
   obtain rfl := bF c5
   refine gt rfl rfl (gs (rg (sv (EV.as rfl) rfl (re ?_))))
   cases H
   exact rt Try.func112 rfl (.tmp rfl .nil) rfl [] [] rfl rfl rfl rfl rfl ⟨rfl, rfl, rfl⟩
 ·
  refine gf rfl (dF c1) (gx rfl (gs (rg (sv (EV.as rfl) rfl (re ?_)))))
  cases H
  exact rt Try.func112 rfl (.tmp rfl .nil) rfl [] [] rfl rfl rfl rfl rfl ⟨rfl, rfl, rfl⟩
end Go.Proofs.Ytajjeemkdjfilaa.K
namespace Go.Proofs.Ytajjeemkdjfilaa.K
open Go Go.RowKit
set_option linter.unusedVariables false
set_option linter.unusedSimpArgs false
def impl_AreValidRows.f (k : Nat) (l0 : List S70) : Option (Bool) := if (l0.length : Int) ≤ 24 then ((impl_allValid.f k l0).bind fun t2 => (some t2)) else (some false)
set_option maxHeartbeats 4000000 in
set_option maxRecDepth 100000 in
theorem impl_AreValidRows.ok (k : Nat) (l0 : List S70) (Al0 : Option Addr) (cl0 : Nat) (r0 : Bool) (H : impl_AreValidRows.f k l0 = some r0) : Fn Try.prog 100 [.slice Al0 l0.length cl0] [] [.sl 0 k70 Al0 cl0 l0 0 false] (fun v bx en => v = .bool r0 ∧ bx = [] ∧ en = []) := by
 refine fn_ 10 Try.func100 rfl rfl rfl (fun base T w0 => ?_)
 rw [impl_AreValidRows.f] at H
 refine gs (rg (sv (EV.as rfl) rfl (re (gs (rg (sv (EV.mv rfl) rfl (sv (EV.ln rfl) rfl (sv (EV.leq rfl rfl) rfl (sv (EV.mv rfl) rfl ?_)))))))))
 revert H; refine ifsI ?_ ?_ <;> intro c1 H
 ·
  refine ts 6 rfl (dT c1) (sv (EV.mv rfl) rfl ?_)
  revert H; refine bdI ?_; rintro t2 A2 H
  refine so rfl (op_call (impl_allValid.ok k l0 Al0 cl0 _ A2) [⟨0, 0, 0, false⟩] 1 rfl rfl rfl rfl rfl ?_)
  rintro _ _ _ ⟨rfl, rfl, rfl⟩
  refine sv (EV.pt rfl rfl rfl) rfl (sv (EV.as rfl) rfl (re (pr [2] [] [] rfl rfl rfl rfl ?_)))
  cases H
  exact rt Try.func100 rfl (.tmp rfl .nil) rfl [] [] rfl rfl rfl rfl rfl ⟨rfl, rfl, rfl⟩
 ·
  refine ts 6 rfl (dF c1) (sk rfl (sk rfl (sv (EV.pf rfl rfl rfl) rfl (sv (EV.as rfl) rfl (re (pr [2] [] [] rfl rfl rfl rfl ?_))))))
  cases H
  exact rt Try.func100 rfl (.tmp rfl .nil) rfl [] [] rfl rfl rfl rfl rfl ⟨rfl, rfl, rfl⟩
end Go.Proofs.Ytajjeemkdjfilaa.K
namespace Go.Proofs.Ytajjeemkdjfilaa.K
open Go Go.RowKit
set_option linter.unusedVariables false
set_option linter.unusedSimpArgs false
def impl_IsValidJoinKind.f (a0 : Int) : Option (Bool) := (impl_within.f a0 1 4).bind fun t1 => (some t1)
set_option maxHeartbeats 4000000 in
set_option maxRecDepth 100000 in
theorem impl_IsValidJoinKind.ok (a0 : Int) (r0 : Bool) (H : impl_IsValidJoinKind.f a0 = some r0) : Fn Try.prog 99 [.int .i64 a0] [] [] (fun v bx en => v = .bool r0 ∧ bx = [] ∧ en = []) := by
 refine fn_ 5 Try.func99 rfl rfl rfl (fun base T w0 => ?_)
 rw [impl_IsValidJoinKind.f] at H
 refine gs (rg (sv (EV.as rfl) rfl (re (gs (rg (sv (EV.mv rfl) rfl ?_))))))
 revert H; refine bdI ?_; rintro t1 A1 H
 refine so rfl (op_call (impl_within.ok a0 1 4 _ A1) [] 1 rfl rfl rfl rfl rfl ?_)
 rintro _ _ _ ⟨rfl, rfl, rfl⟩
 refine sv (EV.as rfl) rfl (re ?_)
 cases H
 exact rt Try.func99 rfl (.tmp rfl .nil) rfl [] [] rfl rfl rfl rfl rfl ⟨rfl, rfl, rfl⟩
end Go.Proofs.Ytajjeemkdjfilaa.K
namespace Go.Proofs.Ytajjeemkdjfilaa.K
open Go Go.RowKit
set_option linter.unusedVariables false
set_option linter.unusedSimpArgs false
def impl_IsValidTask.f (k : Nat) (a0_0 : Int) (l0_1 : List S70) (l0_2 : List S70) (l0_3 : List Bool) (a0_4 : Int) : Option (Bool) := (impl_IsValidJoinKind.f a0_0).bind fun t1 => (if t1 = true then ((impl_AreValidRows.f k l0_1).bind fun t3 => (if t3 = true then ((impl_AreValidRows.f k l0_2).bind fun t5 => (if t5 = true then (if (l0_3.length : Int) = (l0_1.length : Int) then ((impl_within.f a0_4 0 4).bind fun t8 => (some t8)) else (some false)) else (some false))) else (some false))) else (some false))
set_option maxHeartbeats 4000000 in
set_option maxRecDepth 100000 in
theorem impl_IsValidTask.ok (k : Nat) (a0_0 : Int) (l0_1 : List S70) (Al0_1 : Option Addr) (cl0_1 : Nat) (l0_2 : List S70) (Al0_2 : Option Addr) (cl0_2 : Nat) (l0_3 : List Bool) (Al0_3 : Option Addr) (cl0_3 : Nat) (a0_4 : Int) (r0 : Bool) (H : impl_IsValidTask.f k a0_0 l0_1 l0_2 l0_3 a0_4 = some r0) : Fn Try.prog 52 [.agg #[.int .i64 a0_0, .slice Al0_1 l0_1.length cl0_1, .slice Al0_2 l0_2.length cl0_2, .slice Al0_3 l0_3.length cl0_3, .int .i64 a0_4]] [] [.sl 0 k70 Al0_1 cl0_1 l0_1 0 false, .sl 0 k70 Al0_2 cl0_2 l0_2 0 false, .sl 0 .bool Al0_3 cl0_3 l0_3 0 false] (fun v bx en => v = .bool r0 ∧ bx = [] ∧ en = []) := by
 refine fn_ 30 Try.func52 rfl rfl rfl (fun base T w0 => ?_)
 rw [impl_IsValidTask.f] at H
 refine gs (rg (so rfl (op_box (cs := [.int .i64 a0_0, .slice Al0_1 l0_1.length cl0_1, .slice Al0_2 l0_2.length cl0_2, .slice Al0_3 l0_3.length cl0_3, .int .i64 a0_4]) rfl rfl rfl fun b1 => (sv (EV.as rfl) rfl (re (gs (rg (sv (EV.fa 0 rfl) rfl (sv (EV.ld 0 none rfl rfl rfl) rfl ?_)))))))))
 revert H; refine bdI ?_; rintro t1 A1 H
 refine so rfl (op_call (impl_IsValidJoinKind.ok a0_0 _ A1) [] 1 rfl rfl rfl rfl rfl ?_)
 rintro _ _ _ ⟨rfl, rfl, rfl⟩
 refine sv (EV.mv rfl) rfl ?_
 revert H; refine ifsI ?_ ?_ <;> intro c2 H
 ·
  subst c2
  refine ts 6 rfl rfl (sv (EV.fa 1 rfl) rfl (sv (EV.ld 0 none rfl rfl rfl) rfl ?_))
  revert H; refine bdI ?_; rintro t3 A3 H
  refine so rfl (op_call (impl_AreValidRows.ok k l0_1 Al0_1 cl0_1 _ A3) [⟨0, 0, 0, false⟩] 1 rfl rfl rfl rfl rfl ?_)
  rintro _ _ _ ⟨rfl, rfl, rfl⟩
  refine sv (EV.pt rfl rfl rfl) rfl (sv (EV.mv rfl) rfl ?_)
  revert H; refine ifsI ?_ ?_ <;> intro c4 H
  ·
   subst c4
   refine ts 11 rfl rfl (sv (EV.fa 2 rfl) rfl (sv (EV.ld 0 none rfl rfl rfl) rfl ?_))
   revert H; refine bdI ?_; rintro t5 A5 H
   refine so rfl (op_call (impl_AreValidRows.ok k l0_2 Al0_2 cl0_2 _ A5) [⟨1, 0, 0, false⟩] 1 rfl rfl rfl rfl rfl ?_)
   rintro _ _ _ ⟨rfl, rfl, rfl⟩
   refine sv (EV.pt rfl rfl rfl) rfl (sv (EV.mv rfl) rfl ?_)
   revert H; refine ifsI ?_ ?_ <;> intro c6 H
   ·
    subst c6
    refine ts 16 rfl rfl (sv (EV.fa 3 rfl) rfl (sv (EV.ld 0 none rfl rfl rfl) rfl (sv (EV.ln rfl) rfl (sv (EV.fa 1 rfl) rfl (sv (EV.ld 0 none rfl rfl rfl) rfl (sv (EV.ln rfl) rfl (sv (EV.eql rfl rfl) rfl (sv (EV.pt rfl rfl rfl) rfl (sv (EV.mv rfl) rfl ?_)))))))))
    revert H; refine ifsI ?_ ?_ <;> intro c7 H
    ·
     refine ts 25 rfl (dT c7) (sv (EV.fa 4 rfl) rfl (sv (EV.ld 0 none rfl rfl rfl) rfl ?_))
     revert H; refine bdI ?_; rintro t8 A8 H
     refine so rfl (op_call (impl_within.ok a0_4 0 4 _ A8) [] 1 rfl rfl rfl rfl rfl ?_)
     rintro _ _ _ ⟨rfl, rfl, rfl⟩
     refine sv (EV.pt rfl rfl rfl) rfl (sv (EV.as rfl) rfl (re (pr [2] [] [] rfl rfl rfl rfl ?_)))
     cases H
     exact rt Try.func52 rfl (.tmp rfl .nil) rfl [] [] rfl rfl rfl rfl rfl ⟨rfl, rfl, rfl⟩
    ·
     refine ts 25 rfl (dF c7) (sk rfl (sk rfl (sk rfl (sv (EV.pf rfl rfl rfl) rfl (sv (EV.as rfl) rfl (re (pr [2] [] [] rfl rfl rfl rfl ?_)))))))
     cases H
     exact rt Try.func52 rfl (.tmp rfl .nil) rfl [] [] rfl rfl rfl rfl rfl ⟨rfl, rfl, rfl⟩
   ·
    obtain rfl := bF c6
    refine ts 16 rfl rfl (sk rfl (sk rfl (sk rfl (sk rfl (sk rfl (sk rfl (sk rfl (sv (EV.pf rfl rfl rfl) rfl (sv (EV.mv rfl) rfl (sk rfl (sk rfl (sk rfl (sv (EV.pf rfl rfl rfl) rfl (sv (EV.as rfl) rfl (re (pr [2] [] [] rfl rfl rfl rfl ?_))))))))))))))))
    cases H
    exact rt Try.func52 rfl (.tmp rfl .nil) rfl [] [] rfl rfl rfl rfl rfl ⟨rfl, rfl, rfl⟩
  ·
   obtain rfl := bF c4
   refine ts 11 rfl rfl (sk rfl (sk rfl (sk rfl (sv (EV.pf rfl rfl rfl) rfl (sv (EV.mv rfl) rfl (sk rfl (sk rfl (sk rfl (sk rfl (sk rfl (sk rfl (sk rfl (sv (EV.pf rfl rfl rfl) rfl (sv (EV.mv rfl) rfl (sk rfl (sk rfl (sk rfl (sv (EV.pf rfl rfl rfl) rfl (sv (EV.as rfl) rfl (re (pr [2] [] [] rfl rfl rfl rfl ?_)))))))))))))))))))))
   cases H
   exact rt Try.func52 rfl (.tmp rfl .nil) rfl [] [] rfl rfl rfl rfl rfl ⟨rfl, rfl, rfl⟩
 ·
  obtain rfl := bF c2
  refine ts 6 rfl rfl (sk rfl (sk rfl (sk rfl (sv (EV.pf rfl rfl rfl) rfl (sv (EV.mv rfl) rfl (sk rfl (sk rfl (sk rfl (sv (EV.pf rfl rfl rfl) rfl (sv (EV.mv rfl) rfl (sk rfl (sk rfl (sk rfl (sk rfl (sk rfl (sk rfl (sk rfl (sv (EV.pf rfl rfl rfl) rfl (sv (EV.mv rfl) rfl (sk rfl (sk rfl (sk rfl (sv (EV.pf rfl rfl rfl) rfl (sv (EV.as rfl) rfl (re (pr [2] [] [] rfl rfl rfl rfl ?_))))))))))))))))))))))))))
  cases H
  exact rt Try.func52 rfl (.tmp rfl .nil) rfl [] [] rfl rfl rfl rfl rfl ⟨rfl, rfl, rfl⟩
end Go.Proofs.Ytajjeemkdjfilaa.K
namespace Go.Proofs.Ytajjeemkdjfilaa.K
open Go Go.RowKit
set_option linter.unusedVariables false
set_option linter.unusedSimpArgs false
def impl_HashBit.f (a0 : Int) (a1 : Int) : Option (Int) := (impl_within.f a1 0 3).bind fun t1 => (if t1 = true then ((impl_within.f a0 0 9).bind fun t3 => (if t3 = true then (if 0 ≤ a1 then (some (andI (shrI (Int.tmod (wrap64 (7 * a0)) 16) a1) 1)) else none) else (some 0))) else (some 0))
set_option maxHeartbeats 4000000 in
set_option maxRecDepth 100000 in
theorem impl_HashBit.ok (a0 : Int) (a1 : Int) (r0 : Int) (H : impl_HashBit.f a0 a1 = some r0) : Fn Try.prog 91 [.int .i64 a0, .int .i64 a1] [] [] (fun v bx en => v = .int .i64 r0 ∧ bx = [] ∧ en = []) := by
 refine fn_ 19 Try.func91 rfl rfl rfl (fun base T w0 => ?_)
 rw [impl_HashBit.f] at H
 refine gs (rg (sv (EV.as rfl) rfl (re (gs (gs (rg (sv (EV.mv rfl) rfl ?_)))))))
 revert H; refine bdI ?_; rintro t1 A1 H
 refine so rfl (op_call (impl_within.ok a1 0 3 _ A1) [] 1 rfl rfl rfl rfl rfl ?_)
 rintro _ _ _ ⟨rfl, rfl, rfl⟩
 refine sv (EV.nt rfl) rfl (sv (EV.mv rfl) rfl ?_)
 revert H; refine ifsI ?_ ?_ <;> intro c2 H
 ·
  subst c2
  refine ts 8 rfl rfl (sv (EV.mv rfl) rfl ?_)
  revert H; refine bdI ?_; rintro t3 A3 H
  refine so rfl (op_call (impl_within.ok a0 0 9 _ A3) [] 1 rfl rfl rfl rfl rfl ?_)
  rintro _ _ _ ⟨rfl, rfl, rfl⟩
  refine sv (EV.nt rfl) rfl (sv (EV.pf rfl rfl rfl) rfl (re (pr [0, 1, 12] [] [] rfl rfl rfl rfl ?_)))
  revert H; refine ifsI ?_ ?_ <;> intro c4 H
  ·
   subst c4
   refine gf rfl rfl (gk (gs (rg (sv (EV.mv rfl) rfl (sv (EV.mul rfl rfl) rfl (sv (EV.rem rfl rfl dq) rfl (sv (EV.mv rfl) rfl ?_)))))))
   revert H; refine ggI ?_; intro g5 H
   refine sv (EV.shr rfl rfl g5) rfl (sv (EV.andI rfl rfl) rfl (sv (EV.as rfl) rfl (re (pr [4] [] [] rfl rfl rfl rfl ?_))))
   cases H
   exact rt Try.func91 rfl (.tmp rfl .nil) rfl [] [] rfl rfl rfl rfl rfl ⟨rfl, rfl, rfl⟩
  ·
   obtain rfl := bF c4
   refine gt rfl rfl (gs (rg (sv (EV.as rfl) rfl (re ?_))))
   cases H
   exact rt Try.func91 rfl (.tmp rfl .nil) rfl [] [] rfl rfl rfl rfl rfl ⟨rfl, rfl, rfl⟩
 ·
  obtain rfl := bF c2
  refine ts 8 rfl rfl (sk rfl (sk rfl (sk rfl (sv (EV.pt rfl rfl rfl) rfl (re (pr [0, 1, 12] [] [] rfl rfl rfl rfl (gt rfl rfl (gs (rg (sv (EV.as rfl) rfl (re ?_)))))))))))
  cases H
  exact rt Try.func91 rfl (.tmp rfl .nil) rfl [] [] rfl rfl rfl rfl rfl ⟨rfl, rfl, rfl⟩
end Go.Proofs.Ytajjeemkdjfilaa.K
namespace Go.Proofs.Ytajjeemkdjfilaa.K
open Go Go.RowKit
set_option linter.unusedVariables false
set_option linter.unusedSimpArgs false
def impl_SplitByHashBit.l0 : Nat → Int → (List S70) → (List S70) → Int → Int → (List S70) → Option ((List S70) × (List S70))
 | 0, _, _, _, _, _, _ => none
 | k + 1, x2_1, x2_6, x2_7, x2_13, x2_14, l0 => if x2_14 < x2_13 then (if 0 ≤ x2_14 then (if x2_14 < (l0.length : Int) then ((impl_HashBit.f ((rd_T70 l0 x2_14).f0) x2_1).bind fun t6 => (if t6 = 0 then (if x2_6.length < 5864062014805 then (impl_SplitByHashBit.l0 k x2_1 (x2_6 ++ ([(⟨(rd_T70 l0 x2_14).f0, (rd_T70 l0 x2_14).f1, (rd_T70 l0 x2_14).f2⟩ : S70)] : List S70)) x2_7 x2_13 (wrap64 (x2_14 + 1)) l0) else none) else (if x2_7.length < 5864062014805 then (impl_SplitByHashBit.l0 k x2_1 x2_6 (x2_7 ++ ([(⟨(rd_T70 l0 x2_14).f0, (rd_T70 l0 x2_14).f1, (rd_T70 l0 x2_14).f2⟩ : S70)] : List S70)) x2_13 (wrap64 (x2_14 + 1)) l0) else none))) else none) else none) else (some (x2_6, x2_7))
def impl_SplitByHashBit.f (k : Nat) (l0 : List S70) (a1 : Int) : Option ((List S70) × (List S70)) := impl_SplitByHashBit.l0 k a1 [] [] (l0.length : Int) 0 l0
set_option maxHeartbeats 4000000 in
set_option maxRecDepth 100000 in
theorem impl_SplitByHashBit.ok (k : Nat) (l0 : List S70) (Al0 : Option Addr) (cl0 : Nat) (a1 : Int) (r0 : List S70) (r1 : List S70) (H : impl_SplitByHashBit.f k l0 a1 = some (r0, r1)) : Fn Try.prog 92 [.slice Al0 l0.length cl0, .int .i64 a1] [] [.sl 0 k70 Al0 cl0 l0 0 false] (fun v bx en => ∃ A0 c0 A1 c1, v = .tuple #[.slice A0 r0.length c0, .slice A1 r1.length c1] ∧ bx = [] ∧ en = [.sl 2 k70 A0 c0 r0 1 true, .sl 2 k70 A1 c1 r1 2 true]) := by
 refine fn_ 34 Try.func92 rfl rfl rfl (fun base T w0 => ?_)
 rw [impl_SplitByHashBit.f] at H
 refine gs (rg (sv (EV.as rfl) rfl (sv (EV.as rfl) rfl (re (gs (rg (so rfl (op_lit (s := 3) (by_ := 24) k70 ([] : List S70) [] [] 1 [] rfl rfl rfl rfl rfl rfl rfl rfl rfl rfl rfl rfl rfl dq rfl fun A10_1 c10_1 => (so rfl (op_lit (s := 3) (by_ := 24) k70 ([] : List S70) [] [] 2 [] rfl rfl rfl rfl rfl rfl rfl rfl rfl rfl rfl rfl rfl dq rfl fun A11_2 c11_2 => (sv (EV.as rfl) rfl (sv (EV.as rfl) rfl (re (gs (gs (rg (sv (EV.mv rfl) rfl (sv (EV.ln rfl) rfl (sv (EV.mv rfl) rfl (re (gb ?_)))))))))))))))))))))
 refine lo (fun kk S => ∃ (x2_1 : Int) (x2_6 : List S70) (Ax2_6 : Option Addr) (cx2_6 : Nat) (x2_7 : List S70) (Ax2_7 : Option Addr) (cx2_7 : Nat) (x2_13 : Int) (x2_14 : Int), impl_SplitByHashBit.l0 kk x2_1 x2_6 x2_7 x2_13 x2_14 l0 = some (r0, r1) ∧ S = ⟨[(1, .int .i64 x2_1), (6, .slice Ax2_6 x2_6.length cx2_6), (7, .slice Ax2_7 x2_7.length cx2_7), (12, .slice Al0 l0.length cl0), (13, .int .i64 x2_13), (14, .int .i64 x2_14)], [], [.sl 2 k70 Ax2_6 cx2_6 x2_6 1 true, .sl 2 k70 Ax2_7 cx2_7 x2_7 2 true, .sl 0 k70 Al0 cl0 l0 0 false]⟩) (fun S hS => ?_) (fun n0 ih0 S hS => ?_) ⟨a1, [], A10_1, c10_1, [], A11_2, c11_2, (l0.length : Int), 0, H, rfl⟩ (fun h => wk [1, 6, 7, 12, 13, 14] [] [⟨1, 2, 1, true⟩, ⟨2, 2, 2, true⟩, ⟨0, 0, 0, false⟩] h)
 · clear H; obtain ⟨_, _, _, _, _, _, _, _, _, H, _⟩ := hS; rw [impl_SplitByHashBit.l0] at H; cases H
 clear H
 obtain ⟨x2_1, x2_6, Ax2_6, cx2_6, x2_7, Ax2_7, cx2_7, x2_13, x2_14, H, rfl⟩ := hS
 rw [impl_SplitByHashBit.l0] at H
 refine gs (rg (sv (EV.lss rfl rfl) rfl (re (gs ?_))))
 revert H; refine ifsI ?_ ?_ <;> intro c3 H
 ·
  refine gt rfl (dT c3) (gk (gs (gb (gs (rg ?_)))))
  revert H; refine ggI ?_; intro g4 H
  revert H; refine ggI ?_; intro g5 H
  refine sv (EV.ix 2 rfl rfl rfl g4 g5 rfl) rfl (sv (EV.le (v := .agg #[.int .i64 ((rd_T70 l0 x2_14).f0), .int .i64 ((rd_T70 l0 x2_14).f1), .int .i64 ((rd_T70 l0 x2_14).f2)]) x2_14 0 (some 3) 2 z70 rfl rfl rfl g4 g5 rfl rfl rfl) rfl (so rfl (op_alloc (cs := [.int .i64 0, .int .i64 0, .int .i64 0]) (by kernel_rfl) rfl fun b9 => (so rfl (op_st (cs' := [.int .i64 ((rd_T70 l0 x2_14).f0), .int .i64 ((rd_T70 l0 x2_14).f1), .int .i64 ((rd_T70 l0 x2_14).f2)]) 0 rfl rfl rfl rfl rfl rfl (re (gs (rg (sv (EV.fa 0 rfl) rfl (sv (EV.ld 0 none rfl rfl rfl) rfl (sv (EV.mv rfl) rfl ?_)))))))))))
  revert H; refine bdI ?_; rintro t6 A6 H
  refine so rfl (op_call (impl_HashBit.ok ((rd_T70 l0 x2_14).f0) x2_1 _ A6) [] 3 rfl rfl rfl rfl rfl ?_)
  rintro _ _ _ ⟨rfl, rfl, rfl⟩
  refine sv (EV.eql rfl rfl) rfl (re (pr [1, 6, 7, 9, 12, 13, 14, 22] [0] [0, 1, 2] rfl rfl rfl rfl ?_))
  revert H; refine ifsI ?_ ?_ <;> intro c7 H
  ·
   refine gt rfl (dT c7) (rg (sv (EV.mv rfl) rfl (sv (EV.ld (v := .agg #[.int .i64 ((rd_T70 l0 x2_14).f0), .int .i64 ((rd_T70 l0 x2_14).f1), .int .i64 ((rd_T70 l0 x2_14).f2)]) 0 (some 3) rfl rfl rfl) rfl (so rfl (op_lit (s := 3) (by_ := 24) k70 ([(⟨(rd_T70 l0 x2_14).f0, (rd_T70 l0 x2_14).f1, (rd_T70 l0 x2_14).f2⟩ : S70)] : List S70) [[]] [] 3 [.tmp 24] rfl rfl rfl rfl rfl rfl rfl rfl rfl rfl rfl rfl rfl dq rfl fun A25_8 c25_8 => ?_)))))
   revert H; refine ggI ?_; intro g9 H
   exact so rfl (op_app (k := k70) (s := 3) (by_ := 24) 0 3 rfl rfl rfl rfl (ap1 g9 dq) (ap1n g9 dq) (.inl rfl) true (fun _ => .inl rfl) rfl rfl fun A26_10 c26_10 => (nmE (en := [.sl 2 k70 Ax2_7 cx2_7 x2_7 2 true, .sl 0 k70 Al0 cl0 l0 0 false, .sl 2 k70 A25_8 c25_8 ([(⟨(rd_T70 l0 x2_14).f0, (rd_T70 l0 x2_14).f1, (rd_T70 l0 x2_14).f2⟩ : S70)] : List S70) 3 true, .sl 2 k70 A26_10 c26_10 (x2_6 ++ ([(⟨(rd_T70 l0 x2_14).f0, (rd_T70 l0 x2_14).f1, (rd_T70 l0 x2_14).f2⟩ : S70)] : List S70)) 1 true]) (by kernel_rfl) (sv (EV.as rfl) rfl (re (pr [1, 6, 7, 12, 13, 14] [] [0, 1, 3] rfl rfl rfl rfl (ge (rg (sv (EV.add rfl rfl) rfl (sv (EV.mv rfl) rfl (re (wk [1, 6, 7, 12, 13, 14] [] [⟨2, 2, 1, true⟩, ⟨0, 2, 2, true⟩, ⟨1, 0, 0, false⟩] (ih0 _ (by omega) _ ⟨x2_1, x2_6 ++ ([(⟨(rd_T70 l0 x2_14).f0, (rd_T70 l0 x2_14).f1, (rd_T70 l0 x2_14).f2⟩ : S70)] : List S70), A26_10, c26_10, x2_7, Ax2_7, cx2_7, x2_13, wrap64 (x2_14 + 1), H, rfl⟩))))))))))))
  ·
   refine gf rfl (dF c7) (rg (sv (EV.mv rfl) rfl (sv (EV.ld (v := .agg #[.int .i64 ((rd_T70 l0 x2_14).f0), .int .i64 ((rd_T70 l0 x2_14).f1), .int .i64 ((rd_T70 l0 x2_14).f2)]) 0 (some 3) rfl rfl rfl) rfl (so rfl (op_lit (s := 3) (by_ := 24) k70 ([(⟨(rd_T70 l0 x2_14).f0, (rd_T70 l0 x2_14).f1, (rd_T70 l0 x2_14).f2⟩ : S70)] : List S70) [[]] [] 3 [.tmp 28] rfl rfl rfl rfl rfl rfl rfl rfl rfl rfl rfl rfl rfl dq rfl fun A29_11 c29_11 => ?_)))))
   revert H; refine ggI ?_; intro g12 H
   exact so rfl (op_app (k := k70) (s := 3) (by_ := 24) 1 3 rfl rfl rfl rfl (ap1 g12 dq) (ap1n g12 dq) (.inl rfl) true (fun _ => .inl rfl) rfl rfl fun A30_13 c30_13 => (nmE (en := [.sl 2 k70 Ax2_6 cx2_6 x2_6 1 true, .sl 0 k70 Al0 cl0 l0 0 false, .sl 2 k70 A29_11 c29_11 ([(⟨(rd_T70 l0 x2_14).f0, (rd_T70 l0 x2_14).f1, (rd_T70 l0 x2_14).f2⟩ : S70)] : List S70) 3 true, .sl 2 k70 A30_13 c30_13 (x2_7 ++ ([(⟨(rd_T70 l0 x2_14).f0, (rd_T70 l0 x2_14).f1, (rd_T70 l0 x2_14).f2⟩ : S70)] : List S70)) 2 true]) (by kernel_rfl) (sv (EV.as rfl) rfl (re (pr [1, 6, 7, 12, 13, 14] [] [0, 1, 3] rfl rfl rfl rfl (ge (rg (sv (EV.add rfl rfl) rfl (sv (EV.mv rfl) rfl (re (wk [1, 6, 7, 12, 13, 14] [] [⟨0, 2, 1, true⟩, ⟨2, 2, 2, true⟩, ⟨1, 0, 0, false⟩] (ih0 _ (by omega) _ ⟨x2_1, x2_6, Ax2_6, cx2_6, x2_7 ++ ([(⟨(rd_T70 l0 x2_14).f0, (rd_T70 l0 x2_14).f1, (rd_T70 l0 x2_14).f2⟩ : S70)] : List S70), A30_13, c30_13, x2_13, wrap64 (x2_14 + 1), H, rfl⟩))))))))))))
 ·
  refine gf rfl (dF c3) (gx rfl (gs (rg (sv (EV.mv rfl) rfl (sv (EV.mv rfl) rfl (sv (EV.as rfl) rfl (sv (EV.as rfl) rfl (re (pr [4, 5] [] [0, 1] rfl rfl rfl rfl ?_)))))))))
  cases H
  exact rt Try.func92 rfl (.tmp rfl (.tmp rfl .nil)) rfl [] [⟨0, 2, 1, true⟩, ⟨1, 2, 2, true⟩] rfl rfl rfl rfl rfl ⟨_, _, _, _, rfl, rfl, rfl⟩
end Go.Proofs.Ytajjeemkdjfilaa.K
